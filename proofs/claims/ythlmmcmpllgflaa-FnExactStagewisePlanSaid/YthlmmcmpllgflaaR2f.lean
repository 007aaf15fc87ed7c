/- The law FnExactStagewisePlan: for every chain the program and the reference make the same plan stage by stage, which leaves its arguments as they are and shares no memory; no condition. -/
import Derived.Test.YthlmmcmpllgflaaR2e
namespace Go.Proofs.Ythlmmcmpllgflaa.P
open Go.RowKit Go.Proofs.YthlmmcmpllgflaaW.PrintWords Go.Proofs.YthlmmcmpllgflaaW.PrintLast Go.Proofs.YthlmmcmpllgflaaW.PrintMore
attribute [local go_sem] max2_int min2_int max_two min_two max_three min_three max_four min_four
set_option linter.unusedVariables false
set_option linter.unusedSimpArgs false
def impl_StagewisePlan.l0 : Nat → List (List Int) → List Int → Int → List Int → List Int → List Int → Option ((List (List Int)) × Bool)
 | 0, _, _, _, _, _, _ => none
 | k + 1, x4, x5, x6, x1078000, x1078001, x1078002 => if x6 ≥ 0 then ((impl_allWithin.f k x5 0 20).bind fun t1082 => (if t1082 = true then (if 0 ≤ x6 then (if x6 < (x1078001.length : Int) then (if x6 < (x1078002.length : Int) then ((impl_evenCase.f k x5 (rd x1078001 x6) (rd x1078002 x6)).bind fun bt1085 => ((impl_Case_best.f k bt1085.1 bt1085.2.1 bt1085.2.2.1 bt1085.2.2.2).bind fun bt1098 => ((impl_Case_planFrom.f k bt1085.1 bt1085.2.1 bt1085.2.2.1 bt1085.2.2.2 bt1098.1).bind fun bt1102 => (if x6 < (x4.length : Int) then ((some (x4.set (x6 : Int).toNat bt1102.1 : List (List Int))).bind fun y1106 => (impl_StagewisePlan.l0 k y1106 (rd_L2 y1106 x6) (wrap64 (x6 - 1)) x1078000 x1078001 x1078002)) else (none))))) else (none)) else (none)) else (none)) else (some (([] : List (List Int)), false)))) else (some (x4, true))
def impl_StagewisePlan.f (k : Nat) (l0_0 : List Int) (l0_1 : List Int) (l0_2 : List Int) : Option ((List (List Int)) × Bool) := (impl_IsChain.f k l0_0 l0_1 l0_2).bind fun t1078 => (if t1078 = true then (if 0 ≤ (l0_1.length : Int) then (if ((l0_1.length : Int) : Int).toNat ≤ 11728124029610 then ((some (List.replicate ((l0_1.length : Int) : Int).toNat [] : List (List Int))).bind fun y1079 => (impl_StagewisePlan.l0 k y1079 l0_0 (wrap64 ((y1079.length : Int) - 1)) l0_0 l0_1 l0_2)) else (none)) else (none)) else (some (([] : List (List Int)), false)))
def impl_StagewisePlan.T3 : Bool × List (List Nat × List Nat) := (true, [([], []), ([0], [0]), ([1], [1]), ([2, 2], [2]), ([], []), ([4], [4]), ([3, 0, 1, 2, 3], [3]), ([5, 6, 0, 1, 2, 3, 4, 5, 6], [5])])
def impl_StagewisePlan.B3 : List Nat := [0, 1, 3, 7, 0, 16, 15, 127]
theorem impl_StagewisePlan.tab3 : rtab .any (opsOf Try.f17 3) = impl_StagewisePlan.T3 := by kernel_rfl
theorem impl_StagewisePlan.bits3 : waitsOk impl_StagewisePlan.T3.2 impl_StagewisePlan.B3 = true := by kernel_rfl
def impl_StagewisePlan.T9 : Bool × List (List Nat × List Nat) := (true, [([], []), ([], []), ([1], [1]), ([], []), ([2, 3], [2, 3]), ([4], [4]), ([], []), ([6], [6]), ([], []), ([7, 8], [7, 8]), ([9], [9]), ([0, 5, 10], [0, 5, 10]), ([], []), ([12, 11, 11, 0, 1, 2, 3, 4, 5, 6, 7, 8, 9, 10, 11, 12], [11, 12])])
def impl_StagewisePlan.B9 : List Nat := [0, 0, 2, 0, 14, 30, 0, 64, 0, 448, 960, 2047, 0, 8191]
theorem impl_StagewisePlan.tab9 : rtab .any (opsOf Try.f17 9) = impl_StagewisePlan.T9 := by kernel_rfl
theorem impl_StagewisePlan.bits9 : waitsOk impl_StagewisePlan.T9.2 impl_StagewisePlan.B9 = true := by kernel_rfl
set_option maxHeartbeats 8000000 in
set_option maxRecDepth 100000 in
theorem impl_StagewisePlan.calls (k : Nat) (P0_0_ : Nat → Prop) (A0_0 : Option Addr) (c0_0 : Nat) (l0_0 : List Int) (A0_1 : Option Addr) (c0_1 : Nat) (l0_1 : List Int) (A0_2 : Option Addr) (c0_2 : Nat) (l0_2 : List Int) (r1 : List (List Int)) (r2 : Bool) (w : World) (hs0_0 : Kd.V (Kd.int .i64) 3 w w.heap.size (fun k_ => P0_0_ k_) (.slice A0_0 l0_0.length c0_0) l0_0) (hr0_1 : Kd.C (Kd.int .i64) w A0_1 l0_1.length l0_1) (hc0_1 : l0_1.length ≤ c0_1) (hr0_2 : Kd.C (Kd.int .i64) w A0_2 l0_2.length l0_2) (hc0_2 : l0_2.length ≤ c0_2) (h : impl_StagewisePlan.f k l0_0 l0_1 l0_2 = some (r1, r2)) :
 Calls Try.prog 17 #[.agg #[.slice A0_0 l0_0.length c0_0, .slice A0_1 l0_1.length c0_1, .slice A0_2 l0_2.length c0_2]] w fun e w' => ∃ v0_ : Value, e = .returned (.tuple #[v0_, .bool r2]) ∧ Kd.S (Kd.slice 3 (Kd.int .i64)) 24 w' w.heap.size (fun k_ => (w.heap.size ≤ k_)) v0_ r1 ∧ Below w.heap.size w w' := by
 have hu26 := Try.underlying26
 have hu49 := Try.underlying49
 have HO0_0 := Aside0.mk (show Kd.V (Kd.int .i64) 3 w w.heap.size (fun k_ => (P0_0_ k_ ∨ w.heap.size ≤ k_)) (.slice A0_0 l0_0.length c0_0) l0_0 from Kd.V_mono hs0_0 (fun k_ hk => .inl hk))
 have HR0_1 := Aside0.mk hr0_1
 have HC0_1 := Aside0.mk hc0_1
 clear hr0_1 hc0_1
 have HR0_2 := Aside0.mk hr0_2
 have HC0_2 := Aside0.mk hc0_2
 clear hr0_2 hc0_2
 have HB := Aside0.mk (Below.refl w.heap.size w)
 have H : ((impl_IsChain.f k l0_0 l0_1 l0_2).bind fun t1078 => (if t1078 = true then (if 0 ≤ (l0_1.length : Int) then (if ((l0_1.length : Int) : Int).toNat ≤ 11728124029610 then ((some (List.replicate ((l0_1.length : Int) : Int).toNat [] : List (List Int))).bind fun y1079 => (impl_StagewisePlan.l0 k y1079 l0_0 (wrap64 ((y1079.length : Int) - 1)) l0_0 l0_1 l0_2)) else (none)) else (none)) else (some (([] : List (List Int)), false)))) = some (r1, r2) := h
 clear h
 replace H := Option.bind_eq_some_iff.mp H
 obtain ⟨t1078, A20, H⟩ := H
 replace H : (if t1078 = true then (if 0 ≤ (l0_1.length : Int) then (if ((l0_1.length : Int) : Int).toNat ≤ 11728124029610 then ((some (List.replicate ((l0_1.length : Int) : Int).toNat [] : List (List Int))).bind fun y1079 => (impl_StagewisePlan.l0 k y1079 l0_0 (wrap64 ((y1079.length : Int) - 1)) l0_0 l0_1 l0_2)) else (none)) else (none)) else (some (([] : List (List Int)), false))) = some (r1, r2) := H
 have A2 := Aside0.mk A20
 clear A20
 by_cases c3 : t1078 = true
 · subst c3
   have H1 : (if 0 ≤ (l0_1.length : Int) then (if ((l0_1.length : Int) : Int).toNat ≤ 11728124029610 then ((some (List.replicate ((l0_1.length : Int) : Int).toNat [] : List (List Int))).bind fun y1079 => (impl_StagewisePlan.l0 k y1079 l0_0 (wrap64 ((y1079.length : Int) - 1)) l0_0 l0_1 l0_2)) else (none)) else (none)) = some (r1, r2) := by rw [if_pos rfl] at H; exact H
   clear H
   have H := H1
   clear H1
   by_cases c4 : 0 ≤ (l0_1.length : Int)
   · rw [if_pos c4] at H
     have c4b0 := eq_true c4
     have c4b1 : decide (0 ≤ (l0_1.length : Int)) = true := decide_eq_true c4
     clear c4
     by_cases c5 : ((l0_1.length : Int) : Int).toNat ≤ 11728124029610
     · rw [if_pos c5] at H
       have c5b0 := eq_true c5
       have c5b1 : decide (((l0_1.length : Int) : Int).toNat ≤ 11728124029610) = true := decide_eq_true c5
       clear c5
       obtain ⟨y1079, hy1079⟩ : ∃ y_ : List (List Int), y_ = (List.replicate ((l0_1.length : Int) : Int).toNat []) := ⟨_, rfl⟩
       replace H : (impl_StagewisePlan.l0 k y1079 l0_0 (wrap64 ((y1079.length : Int) - 1)) l0_0 l0_1 l0_2) = some (r1, r2) := by first | (rw [hy1079]; with_reducible exact H) | (have H2_ := (Option.bind_some _ _).symm.trans H; rw [hy1079]; with_reducible exact H2_) | (have H2_ := (Option.bind_some _ _).symm.trans H; with_reducible exact H2_) | with_reducible exact H | (rw [hy1079]; exact H) | exact H
       have Ny1079 := Aside0.mk hy1079
       clear hy1079
       have H' := Aside0.mk H
       clear H
       go_enter Try.func17, Try.ntmps17
       try go_wp2_with (first | ((with_reducible refine gate_dst (N := 1) rfl ?_); refine box_event ?hg (N := 1) ?hd (cs := #[.slice A0_0 l0_0.length c0_0, .slice A0_1 l0_1.length c0_1, .slice A0_2 l0_2.length c0_2]) (t := 26) ?hr ?_; (case hd => rfl); (case hg => rfl); (case hr => first | (go_simp; done) | (go_simp; rfl)); intro gb1077 hg w6 hbox hb; have n0_ := Aside0.mk (Kd.V_below (Kd.V_elderB (zV HO0_0.out) gb1077 (Nat.le_of_eq hg.symm)) hb); have n1_ := Aside0.mk (below_step zH0 hb); have n2_ := Aside0.mk (hbox); have n3_ := Aside0.mk ((z6 : w.heap.size ≤ gb1077)); have n4_ := Aside0.mk ((z6 : w.heap.size ≤ gb1077)); clear HO0_0; clear HB; have HO0_0 := n0_; have HB := n1_; have BK1077 := n2_; have GW1077 := n3_; have GE1077 := n4_; clear n0_ n1_ n2_ n3_ n4_; clear hb hbox hg; have hcz7_0 : w6.cell? ⟨gb1077, 0, none⟩ = some (.slice A0_0 l0_0.length c0_0) := (blk_cell BK1077.out 0).trans rfl; have hcz7_1 : w6.cell? ⟨gb1077, 1, none⟩ = some (.slice A0_1 l0_1.length c0_1) := (blk_cell BK1077.out 1).trans rfl; have hcz7_2 : w6.cell? ⟨gb1077, 2, none⟩ = some (.slice A0_2 l0_2.length c0_2) := (blk_cell BK1077.out 2).trans rfl; have hfz7_0 := blk_frozen BK1077.out 0; have hfz7_1 := blk_frozen BK1077.out 1; have hfz7_2 := blk_frozen BK1077.out 2) | ((with_reducible refine gate_callee (f := 50) rfl ?_); refine goesL_ (some 11) rfl rfl Try.func50 (by kernel_rfl) rfl #[.agg #[.slice A0_0 l0_0.length c0_0, .slice A0_1 l0_1.length c0_1, .slice A0_2 l0_2.length c0_2]] rfl z1 ?_; (with_reducible refine (impl_IsChain.calls k _ _ l0_0 _ _ l0_1 _ _ l0_2 true _ ?side1 ?side2 ?side3 ?side4 ?side5 ?side6 A2.out).mono ?_); (case side1 => exact zC (Kd.V_reads' HO0_0.out).2.2); (case side2 => exact (Kd.V_reads' HO0_0.out).2.1); (case side3 => exact zC (Kd.C_below HR0_1.out HB.out)); (case side4 => exact HC0_1.out); (case side5 => exact zC (Kd.C_below HR0_2.out HB.out)); (case side6 => exact HC0_2.out); rintro e w8 ⟨rfl, hb⟩; refine ⟨_, rfl, ?_⟩; have n0_ := Aside0.mk (Kd.V_below (zV HO0_0.out) hb); have n1_ := Aside0.mk (blk_below (g := gb1077) (o := .cells #[.slice A0_0 l0_0.length c0_0, .slice A0_1 l0_1.length c0_1, .slice A0_2 l0_2.length c0_2] 26 (0, 0)) (zB BK1077.out) hb); have n2_ := Aside0.mk (below_step (zH1 GE1077.out) hb); clear HO0_0; clear BK1077; clear HB; have HO0_0 := n0_; have BK1077 := n1_; have HB := n2_; clear n0_ n1_ n2_; (try clear hb); (try clear hb2); (try clear hk); (try clear hi)))
       have n0_ := Aside0.mk (Kd.V_drew HO0_0.out)
       have n1_ := Aside0.mk (blk_drew BK1077.out)
       have n2_ := Aside0.mk (below_drew1 HB.out)
       clear HO0_0
       clear BK1077
       clear HB
       have HO0_0 := n0_
       have BK1077 := n1_
       have HB := n2_
       clear n0_ n1_ n2_
       refine start_ (n := 8) (S := fun w' => w'.cell? ⟨gb1077, 0, none⟩ = some (.slice A0_0 l0_0.length c0_0) ∧ w'.cell? ⟨gb1077, 1, none⟩ = some (.slice A0_1 l0_1.length c0_1) ∧ w'.cell? ⟨gb1077, 2, none⟩ = some (.slice A0_2 l0_2.length c0_2)) (ds := []) #[false, false, false, false, false, false, false, false] (by kernel_rfl) rfl rfl ⟨(blk_cell BK1077.out 0).trans rfl, (blk_cell BK1077.out 1).trans rfl, (blk_cell BK1077.out 2).trans rfl⟩ (fun hHeld => ?_); refine with_tabW impl_StagewisePlan.tab3 impl_StagewisePlan.bits3 (fun HT_ HW_ => ?_)
       generalize w8.drew = w9 at HO0_0 BK1077 HB hHeld ⊢
       refine zP (i := 0) (N := some 13) #[true, false, false, false, false, false, false, false] (any_of HT_.out (by kernel_rfl)) ?_
       refine zP (i := 4) (N := some 17) #[true, false, false, false, true, false, false, false] (any_of HT_.out (by kernel_rfl)) ?_
       refine take_ (i := 1) (N := some 14) (v := ?_) (a' := ?_) #[true, true, false, false, true, false, false, false] rfl rfl (take_ofW HT_.out HW_.out (by kernel_rfl)) (fun _ _ _ h => h) (Or.inl ⟨by rfl, ?_⟩) hHeld ?_ ?_
       rotate_left
       · rintro w' ⟨s0, s1, s2⟩
         go_simp
         with_reducible rfl
       rotate_left
       · simp only [Act.put, List.setIfInBounds_toArray, List.set_cons_zero, List.set_cons_succ, i64_w, i32_w]
         rfl
       refine zP (i := 2) (N := some 15) #[true, true, true, false, true, false, false, false] (any_of HT_.out (by kernel_rfl)) ?_
       refine take_ (i := 5) (N := some 18) (v := ?_) (a' := ?_) #[true, true, true, false, true, true, false, false] rfl rfl (take_ofW HT_.out HW_.out (by kernel_rfl)) (fun _ _ _ h => h) (Or.inl ⟨by rfl, ?_⟩) hHeld ?_ ?_
       rotate_left
       · rintro w' ⟨s0, s1, s2⟩
         go_simp
         with_reducible rfl
       rotate_left
       · simp only [Act.put, List.setIfInBounds_toArray, List.set_cons_zero, List.set_cons_succ, i64_w, i32_w]
         rfl
       refine one_ (i := 3) (N := some 16) #[true, true, true, true, true, true, false, false] rfl rfl (one_of HT_.out (by kernel_rfl)) (by decide) (fun K hK => ?_)
       refine Kd.S_make_step (Kd.slice 3 (Kd.int .i64)) _ 24 (by rfl) (N := 16) rfl 27 _ _ rfl (l0_1.length : Int) rfl rfl Try.underlying27 (.slice none 0 0) 24 info24 rfl (by decide) (by omega) [] (ok := fun _ => True) (okp := fun _ => True) ⟨_, rfl, Kd.R_nil _ _ _ _ _⟩ (fun _ hk => hk) trivial (of_decide_eq_true z2) (Nat.le_trans (Nat.mul_le_mul_right _ (of_decide_eq_true z2 : (l0_1.length : Int).toNat ≤ 11728124029610)) (by omega)) (Below.refl _ _) (Nat.le_refl _) ?_
       intro v1080 w10 ho11 hb hg_ hnew_
       clear hg_ hnew_
       (first | rw [← Ny1079.out] at ho11 | (simp only [Int.reduceToNat] at ho11; rw [← Ny1079.out] at ho11))
       have n0_ := Aside0.mk (Kd.V_elder' (zV HO0_0.out) (Kd.S_base ho11) hb)
       have n1_ := Aside0.mk (Kd.S_lower (Kd.S_newM (M := fun k_ => (w.heap.size ≤ k_)) ho11 (below_size (zH1 GE1077.out)) (fun k_ h_ => h_)) (below_size (zH1 GE1077.out)))
       have n2_ := Aside0.mk (blk_below (g := gb1077) (o := .cells #[.slice A0_0 l0_0.length c0_0, .slice A0_1 l0_1.length c0_1, .slice A0_2 l0_2.length c0_2] 26 (0, 0)) (zB BK1077.out) hb)
       have n3_ := Aside0.mk (below_step (zH1 GE1077.out) hb)
       clear HO0_0
       clear BK1077
       clear HB
       have HO0_0 := n0_
       have HO1081 := n1_
       have BK1077 := n2_
       have HB := n3_
       clear n0_ n1_ n2_ n3_
       clear hb ho11
       refine hK.out _ _ ⟨(blk_cell BK1077.out 0).trans rfl, (blk_cell BK1077.out 1).trans rfl, (blk_cell BK1077.out 2).trans rfl⟩ (fun hHeld => ?_)
       clear hK K
       refine norm_ (a' := ?_) ?_ ?_
       rotate_left
       · show Act.put _ (some 16) _ = _
         simp only [Act.put, List.setIfInBounds_toArray, List.set_cons_zero, List.set_cons_succ, i64_w, i32_w]
         rfl
       refine zP (i := 6) (N := some 4) #[true, true, true, true, true, true, true, false] (any_of HT_.out (by kernel_rfl)) ?_
       refine zP (i := 7) (N := some 5) #[true, true, true, true, true, true, true, true] (any_of HT_.out (by kernel_rfl)) ?_
       refine done_ (done_of HT_.out (by kernel_rfl)) ?_
       obtain ⟨Ao12, co12, eo12⟩ := Kd.S_slice HO1081.out
       subst eo12
       try go_wp2
       go_loopg [5, 6] k (fun kq v5 v6 w' => ∃ (x4_1 : List (List Int)) (x5_1 : List Int) (x6_1 : Int), v6 = .int .i64 x6_1 ∧ Aside0 (impl_StagewisePlan.l0 kq x4_1 x5_1 x6_1 l0_0 l0_1 l0_2 = some (r1, r2)) ∧ Aside0 (kq ≤ k) ∧ Aside0 (Kd.S (Kd.slice 3 (Kd.int .i64)) 24 w' w.heap.size (fun k_ => (w.heap.size ≤ k_)) (.slice Ao12 y1079.length co12) x4_1) ∧ Aside0 (Kd.V (Kd.int .i64) 3 w' w.heap.size (fun k_ => (P0_0_ k_ ∨ w.heap.size ≤ k_) ∧ some k_ ≠ ((.slice Ao12 y1079.length co12) : Value).ownBlock ∧ k_ ≠ gb1077) v5 x5_1) ∧ Aside0 (Kd.V (Kd.int .i64) 3 w' w.heap.size (fun k_ => (P0_0_ k_ ∨ w.heap.size ≤ k_) ∧ some k_ ≠ ((.slice Ao12 y1079.length co12) : Value).ownBlock ∧ k_ ≠ gb1077) (.slice A0_0 l0_0.length c0_0) l0_0) ∧ Aside0 (w'.heap[gb1077]? = some (.cells #[(.slice A0_0 l0_0.length c0_0), (.slice A0_1 l0_1.length c0_1), (.slice A0_2 l0_2.length c0_2)] 26 (0, 0))) ∧ Aside0 (Below w.heap.size w w'))
       case atStart => exact ⟨(y1079), (l0_0), (wrap64 ((y1079.length : Int) - 1)), z3, H', ⟨Nat.le_refl _⟩, ⟨by (with_reducible repeat (first | apply Kd.S_alloc | apply Kd.S_drewN | apply Kd.S_drew)); exact Kd.S_mono HO1081.out (fun _ hk => hk.1)⟩, ⟨by (with_reducible repeat (first | apply Kd.V_alloc | apply Kd.V_drewN | apply Kd.V_drew)); exact Kd.V_mono HO0_0.out (fun _ hk => ⟨hk.1.1, ⟨hk.2, hk.1.2⟩⟩)⟩, ⟨by (with_reducible repeat (first | apply Kd.V_alloc | apply Kd.V_drewN | apply Kd.V_drew)); exact Kd.V_mono HO0_0.out (fun _ hk => ⟨hk.1.1, ⟨hk.2, hk.1.2⟩⟩)⟩, ⟨by (with_reducible repeat (first | refine blk_drewN ?_ _ | refine blk_drew ?_ | refine blk_alloc ?_ _)); exact BK1077.out⟩, ⟨by repeat (first | (with_reducible first | exact HB.out | apply below_alloc | apply pw_below_drewN | apply below_drew1 | refine below_set ?_ GE1077.out) | exact HB.out)⟩⟩
       case round =>
        clear H'
        try clear c1
        try clear p2
        try clear c3
        try clear c4
        try clear c4b0
        try clear c4b1
        try clear c5
        try clear c5b0
        try clear c5b1
        try clear p6
        try clear hcz7_0
        try clear hcz7_1
        try clear hcz7_2
        try clear hfz7_0
        try clear hfz7_1
        try clear hfz7_2
        obtain ⟨x4_1, x5_1, x6_1, rfl, HA, HK1, HO_4, HO_5, HO_1078000, BK1077, HB⟩ := hrel
        have hl4_1 := (Kd.S_reads' HO_4.out).1
        rw [hl4_1] at HO_4
        (try simp only [hl4_1])
        (try simp only [hl4_1] at BK1077)
        (try simp only [hl4_1] at HO_5)
        (try simp only [hl4_1] at HO_1078000)
        cases gk with
        | zero => exact absurd HA.out (by simp [impl_StagewisePlan.l0])
        | succ k1 =>
         have H := HA.out
         clear HA
         simp only [impl_StagewisePlan.l0] at H
         by_cases c13 : x6_1 ≥ 0
         · rw [if_pos c13] at H
           have c13b0 : decide (0 ≤ x6_1) = true := decide_eq_true c13
           clear c13
           replace H := Option.bind_eq_some_iff.mp H
           obtain ⟨t1082, A140, H⟩ := H
           replace H : (if t1082 = true then (if 0 ≤ x6_1 then (if x6_1 < (l0_1.length : Int) then (if x6_1 < (l0_2.length : Int) then ((impl_evenCase.f k1 x5_1 (rd l0_1 x6_1) (rd l0_2 x6_1)).bind fun bt1085 => ((impl_Case_best.f k1 bt1085.1 bt1085.2.1 bt1085.2.2.1 bt1085.2.2.2).bind fun bt1098 => ((impl_Case_planFrom.f k1 bt1085.1 bt1085.2.1 bt1085.2.2.1 bt1085.2.2.2 bt1098.1).bind fun bt1102 => (if x6_1 < (x4_1.length : Int) then ((some (x4_1.set (x6_1 : Int).toNat bt1102.1 : List (List Int))).bind fun y1106 => (impl_StagewisePlan.l0 k1 y1106 (rd_L2 y1106 x6_1) (wrap64 (x6_1 - 1)) l0_0 l0_1 l0_2)) else (none))))) else (none)) else (none)) else (none)) else (some (([] : List (List Int)), false))) = some (r1, r2) := H
           have A14 := Aside0.mk A140
           clear A140
           by_cases c15 : t1082 = true
           · subst c15
             have H1 : (if 0 ≤ x6_1 then (if x6_1 < (l0_1.length : Int) then (if x6_1 < (l0_2.length : Int) then ((impl_evenCase.f k1 x5_1 (rd l0_1 x6_1) (rd l0_2 x6_1)).bind fun bt1085 => ((impl_Case_best.f k1 bt1085.1 bt1085.2.1 bt1085.2.2.1 bt1085.2.2.2).bind fun bt1098 => ((impl_Case_planFrom.f k1 bt1085.1 bt1085.2.1 bt1085.2.2.1 bt1085.2.2.2 bt1098.1).bind fun bt1102 => (if x6_1 < (x4_1.length : Int) then ((some (x4_1.set (x6_1 : Int).toNat bt1102.1 : List (List Int))).bind fun y1106 => (impl_StagewisePlan.l0 k1 y1106 (rd_L2 y1106 x6_1) (wrap64 (x6_1 - 1)) l0_0 l0_1 l0_2)) else (none))))) else (none)) else (none)) else (none)) = some (r1, r2) := by rw [if_pos rfl] at H; exact H
             clear H
             have H := H1
             clear H1
             by_cases c16 : 0 ≤ x6_1
             · rw [if_pos c16] at H
               have c16b0 : decide (0 ≤ x6_1) = true := decide_eq_true c16
               clear c16
               by_cases c17 : x6_1 < (l0_1.length : Int)
               · rw [if_pos c17] at H
                 have c17b0 : decide (x6_1 < (l0_1.length : Int)) = true := decide_eq_true c17
                 clear c17
                 by_cases c18 : x6_1 < (l0_2.length : Int)
                 · rw [if_pos c18] at H
                   have c18b0 : decide (x6_1 < (l0_2.length : Int)) = true := decide_eq_true c18
                   clear c18
                   replace H := Option.bind_eq_some_iff.mp H
                   obtain ⟨⟨t1085, t1088, t1091, t1094⟩, A190, H⟩ := H
                   replace H : ((impl_Case_best.f k1 t1085 t1088 t1091 t1094).bind fun bt1098 => ((impl_Case_planFrom.f k1 t1085 t1088 t1091 t1094 bt1098.1).bind fun bt1102 => (if x6_1 < (x4_1.length : Int) then ((some (x4_1.set (x6_1 : Int).toNat bt1102.1 : List (List Int))).bind fun y1106 => (impl_StagewisePlan.l0 k1 y1106 (rd_L2 y1106 x6_1) (wrap64 (x6_1 - 1)) l0_0 l0_1 l0_2)) else (none)))) = some (r1, r2) := H
                   have A19 := Aside0.mk A190
                   clear A190
                   replace H := Option.bind_eq_some_iff.mp H
                   obtain ⟨⟨t1098, t1101⟩, A200, H⟩ := H
                   replace H : ((impl_Case_planFrom.f k1 t1085 t1088 t1091 t1094 t1098).bind fun bt1102 => (if x6_1 < (x4_1.length : Int) then ((some (x4_1.set (x6_1 : Int).toNat bt1102.1 : List (List Int))).bind fun y1106 => (impl_StagewisePlan.l0 k1 y1106 (rd_L2 y1106 x6_1) (wrap64 (x6_1 - 1)) l0_0 l0_1 l0_2)) else (none))) = some (r1, r2) := H
                   have A20 := Aside0.mk A200
                   clear A200
                   replace H := Option.bind_eq_some_iff.mp H
                   obtain ⟨⟨t1102, t1105⟩, A210, H⟩ := H
                   replace H : (if x6_1 < (x4_1.length : Int) then ((some (x4_1.set (x6_1 : Int).toNat t1102 : List (List Int))).bind fun y1106 => (impl_StagewisePlan.l0 k1 y1106 (rd_L2 y1106 x6_1) (wrap64 (x6_1 - 1)) l0_0 l0_1 l0_2)) else (none)) = some (r1, r2) := H
                   have A21 := Aside0.mk A210
                   clear A210
                   by_cases c22 : x6_1 < (x4_1.length : Int)
                   · rw [if_pos c22] at H
                     have c22b0 : decide (x6_1 < (x4_1.length : Int)) = true := decide_eq_true c22
                     clear c22
                     obtain ⟨y1106, hy1106⟩ : ∃ y_ : List (List Int), y_ = (x4_1.set (x6_1 : Int).toNat t1102) := ⟨_, rfl⟩
                     replace H : (impl_StagewisePlan.l0 k1 y1106 (rd_L2 y1106 x6_1) (wrap64 (x6_1 - 1)) l0_0 l0_1 l0_2) = some (r1, r2) := by first | (rw [hy1106]; with_reducible exact H) | (have H2_ := (Option.bind_some _ _).symm.trans H; rw [hy1106]; with_reducible exact H2_) | (have H2_ := (Option.bind_some _ _).symm.trans H; with_reducible exact H2_) | with_reducible exact H | (rw [hy1106]; exact H) | exact H
                     have Ny1106 := Aside0.mk hy1106
                     clear hy1106
                     have H' := Aside0.mk H
                     clear H
                     obtain ⟨Ao24, co24, eo24⟩ := Kd.V_slice HO_5.out
                     subst eo24
                     try go_wp2_with (first | ((with_reducible refine gate_callee (f := 69) rfl ?_); refine goesL_ (some 27) rfl rfl Try.func69 (by kernel_rfl) rfl #[.slice Ao24 x5_1.length co24, .int .i64 0, .int .i64 20] rfl z1 ?_; (with_reducible refine (impl_allWithin.calls k1 _ _ x5_1 0 20 true _ ?side1 ?side2 A14.out).mono ?_); (case side1 => exact zC (Kd.V_reads' HO_5.out).2.2); (case side2 => exact (Kd.V_reads' HO_5.out).2.1); rintro e w' ⟨rfl, ⟨nd, rfl⟩⟩; refine ⟨_, rfl, ?_⟩; (try (rw [drewN_self wr]; generalize hq_ : World.drewN wr _ = wr; have n0_ : Aside0 (Kd.V (Kd.int .i64) 3 wr w.heap.size (fun k_ => (P0_0_ k_ ∨ w.heap.size ≤ k_) ∧ some k_ ≠ (.slice Ao12 x4_1.length co12 : Value).ownBlock ∧ k_ ≠ gb1077) (.slice A0_0 l0_0.length c0_0) l0_0) := ⟨by rw [← hq_]; exact (zV HO_1078000.out)⟩; have n1_ : Aside0 (Kd.S (Kd.slice 3 (Kd.int .i64)) 24 wr w.heap.size (fun k_ => (w.heap.size ≤ k_)) (.slice Ao12 x4_1.length co12) x4_1) := ⟨by rw [← hq_]; exact (zS HO_4.out)⟩; have n2_ : Aside0 (Kd.V (Kd.int .i64) 3 wr w.heap.size (fun k_ => (P0_0_ k_ ∨ w.heap.size ≤ k_) ∧ some k_ ≠ (.slice Ao12 x4_1.length co12 : Value).ownBlock ∧ k_ ≠ gb1077) (.slice Ao24 x5_1.length co24) x5_1) := ⟨by rw [← hq_]; exact (zV HO_5.out)⟩; have n3_ : Aside0 (wr.heap[gb1077]? = some (.cells #[.slice A0_0 l0_0.length c0_0, .slice A0_1 l0_1.length c0_1, .slice A0_2 l0_2.length c0_2] 26 (0, 0))) := ⟨by rw [← hq_]; exact (zB BK1077.out)⟩; have n4_ : Aside0 (Below w.heap.size w wr) := ⟨by rw [← hq_]; exact (zH1 GE1077.out)⟩; clear HO_1078000 HO_4 HO_5 BK1077 HB hq_; have HO_1078000 := n0_; have HO_4 := n1_; have HO_5 := n2_; have BK1077 := n3_; have HB := n4_; clear n0_ n1_ n2_ n3_ n4_))))
                     have n0_ := Aside0.mk (Kd.S_drew HO_4.out)
                     have n1_ := Aside0.mk (Kd.V_drew HO_5.out)
                     have n2_ := Aside0.mk (Kd.V_drew HO_1078000.out)
                     have n3_ := Aside0.mk (blk_drew BK1077.out)
                     have n4_ := Aside0.mk (below_drew1 HB.out)
                     clear HO_4
                     clear HO_5
                     clear HO_1078000
                     clear BK1077
                     clear HB
                     have HO_4 := n0_
                     have HO_5 := n1_
                     have HO_1078000 := n2_
                     have BK1077 := n3_
                     have HB := n4_
                     clear n0_ n1_ n2_ n3_ n4_
                     have p1083 : 0 ≤ (x6_1 : Int) := of_decide_eq_true z2
                     have q1083 : x6_1 < (l0_1.length : Int) := of_decide_eq_true z2
                     obtain ⟨ad1083, e1083, hx1083_0⟩ := Kd.at_int HR0_1.out x6_1 p1083 q1083
                     have hw1083_0 := hx1083_0
                     cases e1083
                     replace hx1083_0 := (HB.out.cell (World.block_lt_of_cell? w _ hx1083_0)).trans hx1083_0
                     replace p1083 := eq_true p1083
                     replace q1083 := eq_true q1083
                     have p1084 : 0 ≤ (x6_1 : Int) := of_decide_eq_true z2
                     have q1084 : x6_1 < (l0_2.length : Int) := of_decide_eq_true z2
                     obtain ⟨ad1084, e1084, hx1084_0⟩ := Kd.at_int HR0_2.out x6_1 p1084 q1084
                     have hw1084_0 := hx1084_0
                     cases e1084
                     replace hx1084_0 := (HB.out.cell (World.block_lt_of_cell? w _ hx1084_0)).trans hx1084_0
                     replace p1084 := eq_true p1084
                     replace q1084 := eq_true q1084
                     refine start_ (n := 14) (S := fun w' => w'.cell? ⟨gb1077, 0, none⟩ = some (.slice A0_0 l0_0.length c0_0) ∧ w'.cell? ⟨gb1077, 1, none⟩ = some (.slice (some ad1083) l0_1.length c0_1) ∧ w'.cell? ⟨gb1077, 2, none⟩ = some (.slice (some ad1084) l0_2.length c0_2) ∧ w'.cell? (ad1083.add (x6_1).toNat) = some (.int .i64 (rd l0_1 x6_1)) ∧ w'.cell? (ad1084.add (x6_1).toNat) = some (.int .i64 (rd l0_2 x6_1))) (ds := []) #[false, false, false, false, false, false, false, false, false, false, false, false, false, false] (by kernel_rfl) rfl rfl ⟨(blk_cell BK1077.out 0).trans rfl, (blk_cell BK1077.out 1).trans rfl, (blk_cell BK1077.out 2).trans rfl, ((HB.out.cell (World.block_lt_of_cell? w _ hw1083_0)).trans hw1083_0), ((HB.out.cell (World.block_lt_of_cell? w _ hw1084_0)).trans hw1084_0)⟩ (fun hHeld => ?_); refine with_tabW impl_StagewisePlan.tab9 impl_StagewisePlan.bits9 (fun HT_ HW_ => ?_)
                     generalize wr.drew = w25 at HO_4 HO_5 HO_1078000 BK1077 HB hx1083_0 hx1084_0 hHeld ⊢
                     refine zP (i := 0) (N := some 29) #[true, false, false, false, false, false, false, false, false, false, false, false, false, false] (any_of HT_.out (by kernel_rfl)) ?_
                     refine zP (i := 1) (N := some 30) #[true, true, false, false, false, false, false, false, false, false, false, false, false, false] (any_of HT_.out (by kernel_rfl)) ?_
                     refine zP (i := 3) (N := some 32) #[true, true, false, true, false, false, false, false, false, false, false, false, false, false] (any_of HT_.out (by kernel_rfl)) ?_
                     refine zP (i := 6) (N := some 35) #[true, true, false, true, false, false, true, false, false, false, false, false, false, false] (any_of HT_.out (by kernel_rfl)) ?_
                     refine zP (i := 8) (N := some 37) #[true, true, false, true, false, false, true, false, true, false, false, false, false, false] (any_of HT_.out (by kernel_rfl)) ?_
                     refine take_ (i := 2) (N := some 31) (v := ?_) (a' := ?_) #[true, true, true, true, false, false, true, false, true, false, false, false, false, false] rfl rfl (take_ofW HT_.out HW_.out (by kernel_rfl)) (fun _ _ _ h => h) (Or.inl ⟨by rfl, ?_⟩) hHeld ?_ ?_
                     rotate_left
                     · rintro w' ⟨s0, s1, s2, s3, s4⟩
                       go_simp
                       with_reducible rfl
                     rotate_left
                     · simp only [Act.put, List.setIfInBounds_toArray, List.set_cons_zero, List.set_cons_succ, i64_w, i32_w]
                       rfl
                     refine zP (i := 4) (N := some 33) #[true, true, true, true, true, false, true, false, true, false, false, false, false, false] (any_of HT_.out (by kernel_rfl)) ?_
                     refine take_ (i := 5) (N := some 34) (v := ?_) (a' := ?_) #[true, true, true, true, true, true, true, false, true, false, false, false, false, false] rfl rfl (take_ofW HT_.out HW_.out (by kernel_rfl)) (fun _ _ _ h => h) (Or.inl ⟨by rfl, ?_⟩) hHeld ?_ ?_
                     rotate_left
                     · rintro w' ⟨s0, s1, s2, s3, s4⟩
                       go_simp
                       with_reducible rfl
                     rotate_left
                     · simp only [Act.put, List.setIfInBounds_toArray, List.set_cons_zero, List.set_cons_succ, i64_w, i32_w]
                       rfl
                     refine take_ (i := 7) (N := some 36) (v := ?_) (a' := ?_) #[true, true, true, true, true, true, true, true, true, false, false, false, false, false] rfl rfl (take_ofW HT_.out HW_.out (by kernel_rfl)) (fun _ _ _ h => h) (Or.inl ⟨by rfl, ?_⟩) hHeld ?_ ?_
                     rotate_left
                     · rintro w' ⟨s0, s1, s2, s3, s4⟩
                       go_simp
                       with_reducible rfl
                     rotate_left
                     · simp only [Act.put, List.setIfInBounds_toArray, List.set_cons_zero, List.set_cons_succ, i64_w, i32_w]
                       rfl
                     refine zP (i := 9) (N := some 38) #[true, true, true, true, true, true, true, true, true, true, false, false, false, false] (any_of HT_.out (by kernel_rfl)) ?_
                     refine take_ (i := 10) (N := some 39) (v := ?_) (a' := ?_) #[true, true, true, true, true, true, true, true, true, true, true, false, false, false] rfl rfl (take_ofW HT_.out HW_.out (by kernel_rfl)) (fun _ _ _ h => h) (Or.inl ⟨by rfl, ?_⟩) hHeld ?_ ?_
                     rotate_left
                     · rintro w' ⟨s0, s1, s2, s3, s4⟩
                       go_simp
                       with_reducible rfl
                     rotate_left
                     · simp only [Act.put, List.setIfInBounds_toArray, List.set_cons_zero, List.set_cons_succ, i64_w, i32_w]
                       rfl
                     refine join_ (σ := Value × Value × Value × Value × Nat) 1 #[true, true, true, true, true, true, true, true, true, true, true, true, true, false] (fun s_ => [(40, .agg #[s_.1, s_.2.1, s_.2.2.1, s_.2.2.2.1]), (7, .pointer (some ⟨s_.2.2.2.2, 0, none⟩))]) (fun s_ w' => (w'.cell? ⟨gb1077, 0, none⟩ = some (.slice A0_0 l0_0.length c0_0) ∧ w'.cell? ⟨gb1077, 1, none⟩ = some (.slice (some ad1083) l0_1.length c0_1) ∧ w'.cell? ⟨gb1077, 2, none⟩ = some (.slice (some ad1084) l0_2.length c0_2) ∧ w'.cell? (ad1083.add (x6_1).toNat) = some (.int .i64 (rd l0_1 x6_1)) ∧ w'.cell? (ad1084.add (x6_1).toNat) = some (.int .i64 (rd l0_2 x6_1))) ∧ (Kd.R (Kd.int .i64) 3 w' w.heap.size (fun k_ => (w.heap.size ≤ k_) ∧ some k_ ≠ (s_.2.1 : Value).ownBlock ∧ some k_ ≠ (s_.2.2.1 : Value).ownBlock ∧ some k_ ≠ (s_.2.2.2.1 : Value).ownBlock) s_.1 t1085) ∧ (Kd.R (Kd.int .i64) 3 w' w.heap.size (fun k_ => (w.heap.size ≤ k_) ∧ some k_ ≠ (s_.1 : Value).ownBlock ∧ some k_ ≠ (s_.2.2.1 : Value).ownBlock ∧ some k_ ≠ (s_.2.2.2.1 : Value).ownBlock) s_.2.1 t1088) ∧ (Kd.R (Kd.int .i64) 3 w' w.heap.size (fun k_ => (w.heap.size ≤ k_) ∧ some k_ ≠ (s_.1 : Value).ownBlock ∧ some k_ ≠ (s_.2.1 : Value).ownBlock ∧ some k_ ≠ (s_.2.2.2.1 : Value).ownBlock) s_.2.2.1 t1091) ∧ (Kd.R (Kd.int .i64) 3 w' w.heap.size (fun k_ => (w.heap.size ≤ k_) ∧ some k_ ≠ (s_.1 : Value).ownBlock ∧ some k_ ≠ (s_.2.1 : Value).ownBlock ∧ some k_ ≠ (s_.2.2.1 : Value).ownBlock) s_.2.2.2.1 t1094) ∧ (Kd.V (Kd.int .i64) 3 w' w.heap.size (fun k_ => (P0_0_ k_ ∨ w.heap.size ≤ k_) ∧ some k_ ≠ (s_.1 : Value).ownBlock ∧ some k_ ≠ (s_.2.1 : Value).ownBlock ∧ some k_ ≠ (s_.2.2.1 : Value).ownBlock ∧ some k_ ≠ (s_.2.2.2.1 : Value).ownBlock ∧ some k_ ≠ (.slice Ao12 x4_1.length co12 : Value).ownBlock ∧ k_ ≠ gb1077 ∧ k_ ≠ s_.2.2.2.2) (.slice A0_0 l0_0.length c0_0) l0_0) ∧ (Kd.S (Kd.slice 3 (Kd.int .i64)) 24 w' w.heap.size (fun k_ => (w.heap.size ≤ k_) ∧ some k_ ≠ (s_.1 : Value).ownBlock ∧ some k_ ≠ (s_.2.1 : Value).ownBlock ∧ some k_ ≠ (s_.2.2.1 : Value).ownBlock ∧ some k_ ≠ (s_.2.2.2.1 : Value).ownBlock) (.slice Ao12 x4_1.length co12) x4_1) ∧ (Kd.V (Kd.int .i64) 3 w' w.heap.size (fun k_ => (P0_0_ k_ ∨ w.heap.size ≤ k_) ∧ some k_ ≠ (s_.1 : Value).ownBlock ∧ some k_ ≠ (s_.2.1 : Value).ownBlock ∧ some k_ ≠ (s_.2.2.1 : Value).ownBlock ∧ some k_ ≠ (s_.2.2.2.1 : Value).ownBlock ∧ some k_ ≠ (.slice Ao12 x4_1.length co12 : Value).ownBlock ∧ k_ ≠ gb1077 ∧ k_ ≠ s_.2.2.2.2) (.slice Ao24 x5_1.length co24) x5_1) ∧ (w'.heap[gb1077]? = some (.cells #[.slice A0_0 l0_0.length c0_0, .slice (some ad1083) l0_1.length c0_1, .slice (some ad1084) l0_2.length c0_2] 26 (0, 0))) ∧ (w'.heap[s_.2.2.2.2]? = some (.cells #[.slice none 0 0, .slice none 0 0, .slice none 0 0, .slice none 0 0] 49 (0, 0))) ∧ (w.heap.size ≤ s_.2.2.2.2) ∧ (w.heap.size ≤ s_.2.2.2.2) ∧ (gb1077 ≠ s_.2.2.2.2) ∧ (s_.2.2.2.2 ≠ gb1077) ∧ (Below w.heap.size w w')) ?_ ?_
                     rotate_left
                     · intro hCont
                       refine two_ (i := 11) (j := 12) (Ni := some 40) (Nj := some 7) #[true, true, true, true, true, true, true, true, true, true, true, true, false, false] #[true, true, true, true, true, true, true, true, true, true, true, false, true, false] rfl rfl rfl rfl (two_of HT_.out (by kernel_rfl)) (by decide) (by decide) (fun K hK => ?_) (fun K hK => ?_)
                       · skip
                         refine goes_ Try.func57 (by kernel_rfl) rfl #[.slice Ao24 x5_1.length co24, .int .i64 (rd l0_1 x6_1), .int .i64 (rd l0_2 x6_1)] (by rfl) rfl rfl z1 ?_
                         with_reducible refine (impl_evenCase.calls k1 _ _ x5_1 (rd l0_1 x6_1) (rd l0_2 x6_1) t1085 t1088 t1091 t1094 _ ?side1 ?side2 A19.out).mono ?_
                         (case side1 => exact zC (Kd.V_reads' HO_5.out).2.2)
                         (case side2 => exact (Kd.V_reads' HO_5.out).2.1)
                         rintro e w26 ⟨v1086, v1089, v1092, v1095, rfl, ho0, ho1, ho2, ho3, hb⟩
                         refine ⟨_, rfl, ?_⟩
                         have n0_ := Aside0.mk (Kd.S_mono (Kd.S_told (Kd.S_told (Kd.S_told (Kd.S_told (Kd.S_old (zS HO_4.out) hb) (Kd.R_base ho0)) (Kd.R_base ho1)) (Kd.R_base ho2)) (Kd.R_base ho3)) (fun _ h_ => h_.1))
                         have n1_ := Aside0.mk (Kd.V_mono (Kd.V_told (Kd.V_told (Kd.V_told (Kd.V_told (Kd.V_old (zV HO_5.out) hb) (Kd.R_base ho0)) (Kd.R_base ho1)) (Kd.R_base ho2)) (Kd.R_base ho3)) (fun _ h_ => h_.1))
                         have n2_ := Aside0.mk (Kd.V_mono (Kd.V_told (Kd.V_told (Kd.V_told (Kd.V_told (Kd.V_old (zV HO_1078000.out) hb) (Kd.R_base ho0)) (Kd.R_base ho1)) (Kd.R_base ho2)) (Kd.R_base ho3)) (fun _ h_ => h_.1))
                         have n3_ := Aside0.mk (Kd.R_lower (Kd.R_newM (M := fun k_ => (w.heap.size ≤ k_)) ho0 (below_size (zH1 GE1077.out)) (fun k_ h_ => h_)) (below_size (zH1 GE1077.out)))
                         have n4_ := Aside0.mk (Kd.R_lower (Kd.R_newM (M := fun k_ => (w.heap.size ≤ k_)) ho1 (below_size (zH1 GE1077.out)) (fun k_ h_ => h_)) (below_size (zH1 GE1077.out)))
                         have n5_ := Aside0.mk (Kd.R_lower (Kd.R_newM (M := fun k_ => (w.heap.size ≤ k_)) ho2 (below_size (zH1 GE1077.out)) (fun k_ h_ => h_)) (below_size (zH1 GE1077.out)))
                         have n6_ := Aside0.mk (Kd.R_lower (Kd.R_newM (M := fun k_ => (w.heap.size ≤ k_)) ho3 (below_size (zH1 GE1077.out)) (fun k_ h_ => h_)) (below_size (zH1 GE1077.out)))
                         have n7_ := Aside0.mk (blk_below (g := gb1077) (o := .cells #[.slice A0_0 l0_0.length c0_0, .slice (some ad1083) l0_1.length c0_1, .slice (some ad1084) l0_2.length c0_2] 26 (0, 0)) (zB BK1077.out) hb)
                         have n8_ := Aside0.mk (below_step (zH1 GE1077.out) hb)
                         clear HO_4
                         clear HO_5
                         clear HO_1078000
                         clear BK1077
                         clear HB
                         have HO_4 := n0_
                         have HO_5 := n1_
                         have HO_1078000 := n2_
                         have HO1087 := n3_
                         have HO1090 := n4_
                         have HO1093 := n5_
                         have HO1096 := n6_
                         have BK1077 := n7_
                         have HB := n8_
                         clear n0_ n1_ n2_ n3_ n4_ n5_ n6_ n7_ n8_
                         (try clear hb)
                         (try clear hb2)
                         (try clear hk)
                         (try clear hi)
                         (try clear ho0)
                         (try clear ho1)
                         (try clear ho2)
                         (try clear ho3)
                         refine hK.out _ _ ⟨(blk_cell BK1077.out 0).trans rfl, (blk_cell BK1077.out 1).trans rfl, (blk_cell BK1077.out 2).trans rfl, ((HB.out.cell (World.block_lt_of_cell? w _ hw1083_0)).trans hw1083_0), ((HB.out.cell (World.block_lt_of_cell? w _ hw1084_0)).trans hw1084_0)⟩ (fun hHeld => ?_)
                         clear hK K
                         refine norm_ (a' := ?_) ?_ ?_
                         rotate_left
                         · show Act.put _ (some 40) _ = _
                           simp only [Act.put, List.setIfInBounds_toArray, List.set_cons_zero, List.set_cons_succ, i64_w, i32_w]
                           rfl
                         refine one_ (i := 12) (N := some 7) #[true, true, true, true, true, true, true, true, true, true, true, true, true, false] rfl rfl (one_of HT_.out (by kernel_rfl)) (by decide) (fun K hK => ?_)
                         refine box_step ?hg (N := 7) ?hd (cs := #[.slice none 0 0, .slice none 0 0, .slice none 0 0, .slice none 0 0]) (t := 49) ?hr ?_; (case hd => rfl); (case hg => rfl); (case hr => first | (go_simp; done) | (go_simp; rfl))
                         intro gb1097 hg w27 hbox hb
                         have n0_ := Aside0.mk (Kd.S_below (zS HO_4.out) hb)
                         have n1_ := Aside0.mk (Kd.V_below (Kd.V_elderB (zV HO_5.out) gb1097 (Nat.le_of_eq hg.symm)) hb)
                         have n2_ := Aside0.mk (Kd.V_below (Kd.V_elderB (zV HO_1078000.out) gb1097 (Nat.le_of_eq hg.symm)) hb)
                         have n3_ := Aside0.mk (Kd.R_below (zR HO1087.out) hb)
                         have n4_ := Aside0.mk (Kd.R_below (zR HO1090.out) hb)
                         have n5_ := Aside0.mk (Kd.R_below (zR HO1093.out) hb)
                         have n6_ := Aside0.mk (Kd.R_below (zR HO1096.out) hb)
                         have n7_ := Aside0.mk (blk_below (g := gb1077) (o := .cells #[.slice A0_0 l0_0.length c0_0, .slice (some ad1083) l0_1.length c0_1, .slice (some ad1084) l0_2.length c0_2] 26 (0, 0)) (zB BK1077.out) hb)
                         have n8_ := Aside0.mk (below_step (zH1 GE1077.out) hb)
                         have n9_ := Aside0.mk (hbox)
                         have n10_ := Aside0.mk ((z41 : w.heap.size ≤ gb1097))
                         have n11_ := Aside0.mk ((z41 : w.heap.size ≤ gb1097))
                         have n12_ := Aside0.mk ((by rw [hg]; exact Nat.ne_of_lt (blk_lt (g := gb1077) (o := .cells #[.slice A0_0 l0_0.length c0_0, .slice (some ad1083) l0_1.length c0_1, .slice (some ad1084) l0_2.length c0_2] 26 (0, 0)) (zB BK1077.out)) : gb1077 ≠ gb1097))
                         have n13_ := Aside0.mk ((by rw [hg]; exact Nat.ne_of_gt (blk_lt (g := gb1077) (o := .cells #[.slice A0_0 l0_0.length c0_0, .slice (some ad1083) l0_1.length c0_1, .slice (some ad1084) l0_2.length c0_2] 26 (0, 0)) (zB BK1077.out)) : gb1097 ≠ gb1077))
                         clear HO_4
                         clear HO_5
                         clear HO_1078000
                         clear HO1087
                         clear HO1090
                         clear HO1093
                         clear HO1096
                         clear BK1077
                         clear HB
                         have HO_4 := n0_
                         have HO_5 := n1_
                         have HO_1078000 := n2_
                         have HO1087 := n3_
                         have HO1090 := n4_
                         have HO1093 := n5_
                         have HO1096 := n6_
                         have BK1077 := n7_
                         have HB := n8_
                         have BK1097 := n9_
                         have GW1097 := n10_
                         have GE1097 := n11_
                         have NB1077_1097 := n12_
                         have NB1097_1077 := n13_
                         clear n0_ n1_ n2_ n3_ n4_ n5_ n6_ n7_ n8_ n9_ n10_ n11_ n12_ n13_
                         clear hb hbox hg
                         refine hK.out _ _ ⟨(blk_cell BK1077.out 0).trans rfl, (blk_cell BK1077.out 1).trans rfl, (blk_cell BK1077.out 2).trans rfl, ((HB.out.cell (World.block_lt_of_cell? w _ hw1083_0)).trans hw1083_0), ((HB.out.cell (World.block_lt_of_cell? w _ hw1084_0)).trans hw1084_0)⟩ (fun hHeld => ?_)
                         clear hK K
                         refine norm_ (a' := ?_) ?_ ?_
                         rotate_left
                         · show Act.put _ (some 7) _ = _
                           simp only [Act.put, List.setIfInBounds_toArray, List.set_cons_zero, List.set_cons_succ, i64_w, i32_w]
                           rfl
                         exact norm_ z20 (hCont (v1086, v1089, v1092, v1095, gb1097) _ ⟨hHeld, (zR HO1087.out), (zR HO1090.out), (zR HO1093.out), (zR HO1096.out), (by (with_reducible repeat (first | apply Kd.V_alloc | apply Kd.V_drewN | apply Kd.V_drew)); exact Kd.V_mono HO_1078000.out (fun _ hk => ⟨hk.1.1.1.1.1.1, ⟨hk.1.1.1.1.2, ⟨hk.1.1.1.2, ⟨hk.1.1.2, ⟨hk.1.2, ⟨hk.1.1.1.1.1.2.1, ⟨hk.1.1.1.1.1.2.2, hk.2⟩⟩⟩⟩⟩⟩⟩)), (by (with_reducible repeat (first | apply Kd.S_alloc | apply Kd.S_drewN | apply Kd.S_drew)); exact Kd.S_mono HO_4.out (fun _ hk => ⟨hk.1.1.1.1, ⟨hk.1.1.1.2, ⟨hk.1.1.2, ⟨hk.1.2, hk.2⟩⟩⟩⟩)), z27, (zB BK1077.out), (zB BK1097.out), GW1097.out, GE1097.out, NB1077_1097.out, NB1097_1077.out, (zH2 GE1077.out GE1097.out)⟩)
                       · skip
                         refine box_step ?hg (N := 7) ?hd (cs := #[.slice none 0 0, .slice none 0 0, .slice none 0 0, .slice none 0 0]) (t := 49) ?hr ?_; (case hd => rfl); (case hg => rfl); (case hr => first | (go_simp; done) | (go_simp; rfl))
                         intro gb1097 hg w26 hbox hb
                         have n0_ := Aside0.mk (Kd.S_below (zS HO_4.out) hb)
                         have n1_ := Aside0.mk (Kd.V_below (Kd.V_elderB (zV HO_5.out) gb1097 (Nat.le_of_eq hg.symm)) hb)
                         have n2_ := Aside0.mk (Kd.V_below (Kd.V_elderB (zV HO_1078000.out) gb1097 (Nat.le_of_eq hg.symm)) hb)
                         have n3_ := Aside0.mk (blk_below (g := gb1077) (o := .cells #[.slice A0_0 l0_0.length c0_0, .slice (some ad1083) l0_1.length c0_1, .slice (some ad1084) l0_2.length c0_2] 26 (0, 0)) (zB BK1077.out) hb)
                         have n4_ := Aside0.mk (below_step (zH1 GE1077.out) hb)
                         have n5_ := Aside0.mk (hbox)
                         have n6_ := Aside0.mk ((z41 : w.heap.size ≤ gb1097))
                         have n7_ := Aside0.mk ((z41 : w.heap.size ≤ gb1097))
                         have n8_ := Aside0.mk ((by rw [hg]; exact Nat.ne_of_lt (blk_lt (g := gb1077) (o := .cells #[.slice A0_0 l0_0.length c0_0, .slice (some ad1083) l0_1.length c0_1, .slice (some ad1084) l0_2.length c0_2] 26 (0, 0)) (zB BK1077.out)) : gb1077 ≠ gb1097))
                         have n9_ := Aside0.mk ((by rw [hg]; exact Nat.ne_of_gt (blk_lt (g := gb1077) (o := .cells #[.slice A0_0 l0_0.length c0_0, .slice (some ad1083) l0_1.length c0_1, .slice (some ad1084) l0_2.length c0_2] 26 (0, 0)) (zB BK1077.out)) : gb1097 ≠ gb1077))
                         clear HO_4
                         clear HO_5
                         clear HO_1078000
                         clear BK1077
                         clear HB
                         have HO_4 := n0_
                         have HO_5 := n1_
                         have HO_1078000 := n2_
                         have BK1077 := n3_
                         have HB := n4_
                         have BK1097 := n5_
                         have GW1097 := n6_
                         have GE1097 := n7_
                         have NB1077_1097 := n8_
                         have NB1097_1077 := n9_
                         clear n0_ n1_ n2_ n3_ n4_ n5_ n6_ n7_ n8_ n9_
                         clear hb hbox hg
                         refine hK.out _ _ ⟨(blk_cell BK1077.out 0).trans rfl, (blk_cell BK1077.out 1).trans rfl, (blk_cell BK1077.out 2).trans rfl, ((HB.out.cell (World.block_lt_of_cell? w _ hw1083_0)).trans hw1083_0), ((HB.out.cell (World.block_lt_of_cell? w _ hw1084_0)).trans hw1084_0)⟩ (fun hHeld => ?_)
                         clear hK K
                         refine norm_ (a' := ?_) ?_ ?_
                         rotate_left
                         · show Act.put _ (some 7) _ = _
                           simp only [Act.put, List.setIfInBounds_toArray, List.set_cons_zero, List.set_cons_succ, i64_w, i32_w]
                           rfl
                         refine one_ (i := 11) (N := some 40) #[true, true, true, true, true, true, true, true, true, true, true, true, true, false] rfl rfl (one_of HT_.out (by kernel_rfl)) (by decide) (fun K hK => ?_)
                         refine goes_ Try.func57 (by kernel_rfl) rfl #[.slice Ao24 x5_1.length co24, .int .i64 (rd l0_1 x6_1), .int .i64 (rd l0_2 x6_1)] (by rfl) rfl rfl z1 ?_
                         with_reducible refine (impl_evenCase.calls k1 _ _ x5_1 (rd l0_1 x6_1) (rd l0_2 x6_1) t1085 t1088 t1091 t1094 _ ?side1 ?side2 A19.out).mono ?_
                         (case side1 => exact zC (Kd.V_reads' HO_5.out).2.2)
                         (case side2 => exact (Kd.V_reads' HO_5.out).2.1)
                         rintro e w27 ⟨v1086, v1089, v1092, v1095, rfl, ho0, ho1, ho2, ho3, hb⟩
                         refine ⟨_, rfl, ?_⟩
                         have n0_ := Aside0.mk (Kd.S_mono (Kd.S_told (Kd.S_told (Kd.S_told (Kd.S_told (Kd.S_old (zS HO_4.out) hb) (Kd.R_base ho0)) (Kd.R_base ho1)) (Kd.R_base ho2)) (Kd.R_base ho3)) (fun _ h_ => h_.1))
                         have n1_ := Aside0.mk (Kd.V_mono (Kd.V_told (Kd.V_told (Kd.V_told (Kd.V_told (Kd.V_old (zV HO_5.out) hb) (Kd.R_base ho0)) (Kd.R_base ho1)) (Kd.R_base ho2)) (Kd.R_base ho3)) (fun _ h_ => h_.1))
                         have n2_ := Aside0.mk (Kd.V_mono (Kd.V_told (Kd.V_told (Kd.V_told (Kd.V_told (Kd.V_old (zV HO_1078000.out) hb) (Kd.R_base ho0)) (Kd.R_base ho1)) (Kd.R_base ho2)) (Kd.R_base ho3)) (fun _ h_ => h_.1))
                         have n3_ := Aside0.mk (Kd.R_lower (Kd.R_newM (M := fun k_ => (w.heap.size ≤ k_)) ho0 (below_size (zH2 GE1077.out GE1097.out)) (fun k_ h_ => h_)) (below_size (zH2 GE1077.out GE1097.out)))
                         have n4_ := Aside0.mk (Kd.R_lower (Kd.R_newM (M := fun k_ => (w.heap.size ≤ k_)) ho1 (below_size (zH2 GE1077.out GE1097.out)) (fun k_ h_ => h_)) (below_size (zH2 GE1077.out GE1097.out)))
                         have n5_ := Aside0.mk (Kd.R_lower (Kd.R_newM (M := fun k_ => (w.heap.size ≤ k_)) ho2 (below_size (zH2 GE1077.out GE1097.out)) (fun k_ h_ => h_)) (below_size (zH2 GE1077.out GE1097.out)))
                         have n6_ := Aside0.mk (Kd.R_lower (Kd.R_newM (M := fun k_ => (w.heap.size ≤ k_)) ho3 (below_size (zH2 GE1077.out GE1097.out)) (fun k_ h_ => h_)) (below_size (zH2 GE1077.out GE1097.out)))
                         have n7_ := Aside0.mk (blk_below (g := gb1077) (o := .cells #[.slice A0_0 l0_0.length c0_0, .slice (some ad1083) l0_1.length c0_1, .slice (some ad1084) l0_2.length c0_2] 26 (0, 0)) (zB BK1077.out) hb)
                         have n8_ := Aside0.mk (blk_below (g := gb1097) (o := .cells #[.slice none 0 0, .slice none 0 0, .slice none 0 0, .slice none 0 0] 49 (0, 0)) (zB BK1097.out) hb)
                         have n9_ := Aside0.mk (below_step (zH2 GE1077.out GE1097.out) hb)
                         clear HO_4
                         clear HO_5
                         clear HO_1078000
                         clear BK1077
                         clear BK1097
                         clear HB
                         have HO_4 := n0_
                         have HO_5 := n1_
                         have HO_1078000 := n2_
                         have HO1087 := n3_
                         have HO1090 := n4_
                         have HO1093 := n5_
                         have HO1096 := n6_
                         have BK1077 := n7_
                         have BK1097 := n8_
                         have HB := n9_
                         clear n0_ n1_ n2_ n3_ n4_ n5_ n6_ n7_ n8_ n9_
                         (try clear hb)
                         (try clear hb2)
                         (try clear hk)
                         (try clear hi)
                         (try clear ho0)
                         (try clear ho1)
                         (try clear ho2)
                         (try clear ho3)
                         refine hK.out _ _ ⟨(blk_cell BK1077.out 0).trans rfl, (blk_cell BK1077.out 1).trans rfl, (blk_cell BK1077.out 2).trans rfl, ((HB.out.cell (World.block_lt_of_cell? w _ hw1083_0)).trans hw1083_0), ((HB.out.cell (World.block_lt_of_cell? w _ hw1084_0)).trans hw1084_0)⟩ (fun hHeld => ?_)
                         clear hK K
                         refine norm_ (a' := ?_) ?_ ?_
                         rotate_left
                         · show Act.put _ (some 40) _ = _
                           simp only [Act.put, List.setIfInBounds_toArray, List.set_cons_zero, List.set_cons_succ, i64_w, i32_w]
                           rfl
                         exact norm_ z20 (hCont (v1086, v1089, v1092, v1095, gb1097) _ ⟨hHeld, (zR HO1087.out), (zR HO1090.out), (zR HO1093.out), (zR HO1096.out), (by (with_reducible repeat (first | apply Kd.V_alloc | apply Kd.V_drewN | apply Kd.V_drew)); exact Kd.V_mono HO_1078000.out (fun _ hk => ⟨hk.1.1.1.1.1.1, ⟨hk.1.1.1.2, ⟨hk.1.1.2, ⟨hk.1.2, ⟨hk.2, ⟨hk.1.1.1.1.1.2.1, ⟨hk.1.1.1.1.1.2.2, hk.1.1.1.1.2⟩⟩⟩⟩⟩⟩⟩)), (by (with_reducible repeat (first | apply Kd.S_alloc | apply Kd.S_drewN | apply Kd.S_drew)); exact Kd.S_mono HO_4.out (fun _ hk => ⟨hk.1.1.1.1, ⟨hk.1.1.1.2, ⟨hk.1.1.2, ⟨hk.1.2, hk.2⟩⟩⟩⟩)), z26, (zB BK1077.out), (zB BK1097.out), GW1097.out, GE1097.out, NB1077_1097.out, NB1097_1077.out, (zH2 GE1077.out GE1097.out)⟩)
                     rintro ⟨v1086, v1089, v1092, v1095, gb1097⟩ w28 ⟨hS_, h0_, h1_, h2_, h3_, h4_, h5_, h6_, h7_, h8_, h9_, h10_, h11_, h12_, h13_⟩
                     have n0_ : Aside0 (Kd.R (Kd.int .i64) 3 w28 w.heap.size (fun k_ => (w.heap.size ≤ k_) ∧ some k_ ≠ (v1089 : Value).ownBlock ∧ some k_ ≠ (v1092 : Value).ownBlock ∧ some k_ ≠ (v1095 : Value).ownBlock) v1086 t1085) := ⟨h0_⟩
                     have n1_ : Aside0 (Kd.R (Kd.int .i64) 3 w28 w.heap.size (fun k_ => (w.heap.size ≤ k_) ∧ some k_ ≠ (v1086 : Value).ownBlock ∧ some k_ ≠ (v1092 : Value).ownBlock ∧ some k_ ≠ (v1095 : Value).ownBlock) v1089 t1088) := ⟨h1_⟩
                     have n2_ : Aside0 (Kd.R (Kd.int .i64) 3 w28 w.heap.size (fun k_ => (w.heap.size ≤ k_) ∧ some k_ ≠ (v1086 : Value).ownBlock ∧ some k_ ≠ (v1089 : Value).ownBlock ∧ some k_ ≠ (v1095 : Value).ownBlock) v1092 t1091) := ⟨h2_⟩
                     have n3_ : Aside0 (Kd.R (Kd.int .i64) 3 w28 w.heap.size (fun k_ => (w.heap.size ≤ k_) ∧ some k_ ≠ (v1086 : Value).ownBlock ∧ some k_ ≠ (v1089 : Value).ownBlock ∧ some k_ ≠ (v1092 : Value).ownBlock) v1095 t1094) := ⟨h3_⟩
                     have n4_ : Aside0 (Kd.V (Kd.int .i64) 3 w28 w.heap.size (fun k_ => (P0_0_ k_ ∨ w.heap.size ≤ k_) ∧ some k_ ≠ (v1086 : Value).ownBlock ∧ some k_ ≠ (v1089 : Value).ownBlock ∧ some k_ ≠ (v1092 : Value).ownBlock ∧ some k_ ≠ (v1095 : Value).ownBlock ∧ some k_ ≠ (.slice Ao12 x4_1.length co12 : Value).ownBlock ∧ k_ ≠ gb1077 ∧ k_ ≠ gb1097) (.slice A0_0 l0_0.length c0_0) l0_0) := ⟨h4_⟩
                     have n5_ : Aside0 (Kd.S (Kd.slice 3 (Kd.int .i64)) 24 w28 w.heap.size (fun k_ => (w.heap.size ≤ k_) ∧ some k_ ≠ (v1086 : Value).ownBlock ∧ some k_ ≠ (v1089 : Value).ownBlock ∧ some k_ ≠ (v1092 : Value).ownBlock ∧ some k_ ≠ (v1095 : Value).ownBlock) (.slice Ao12 x4_1.length co12) x4_1) := ⟨h5_⟩
                     have n6_ : Aside0 (Kd.V (Kd.int .i64) 3 w28 w.heap.size (fun k_ => (P0_0_ k_ ∨ w.heap.size ≤ k_) ∧ some k_ ≠ (v1086 : Value).ownBlock ∧ some k_ ≠ (v1089 : Value).ownBlock ∧ some k_ ≠ (v1092 : Value).ownBlock ∧ some k_ ≠ (v1095 : Value).ownBlock ∧ some k_ ≠ (.slice Ao12 x4_1.length co12 : Value).ownBlock ∧ k_ ≠ gb1077 ∧ k_ ≠ gb1097) (.slice Ao24 x5_1.length co24) x5_1) := ⟨h6_⟩
                     have n7_ : Aside0 (w28.heap[gb1077]? = some (.cells #[.slice A0_0 l0_0.length c0_0, .slice (some ad1083) l0_1.length c0_1, .slice (some ad1084) l0_2.length c0_2] 26 (0, 0))) := ⟨h7_⟩
                     have n8_ : Aside0 (w28.heap[gb1097]? = some (.cells #[.slice none 0 0, .slice none 0 0, .slice none 0 0, .slice none 0 0] 49 (0, 0))) := ⟨h8_⟩
                     have n9_ : Aside0 (w.heap.size ≤ gb1097) := ⟨h9_⟩
                     have n10_ : Aside0 (w.heap.size ≤ gb1097) := ⟨h10_⟩
                     have n11_ : Aside0 (gb1077 ≠ gb1097) := ⟨h11_⟩
                     have n12_ : Aside0 (gb1097 ≠ gb1077) := ⟨h12_⟩
                     have n13_ : Aside0 (Below w.heap.size w w28) := ⟨h13_⟩
                     clear HO_4
                     clear HO_5
                     clear HO_1078000
                     clear BK1077
                     clear HB
                     clear h0_ h1_ h2_ h3_ h4_ h5_ h6_ h7_ h8_ h9_ h10_ h11_ h12_ h13_
                     have HO1087 := n0_
                     have HO1090 := n1_
                     have HO1093 := n2_
                     have HO1096 := n3_
                     have HO_1078000 := n4_
                     have HO_4 := n5_
                     have HO_5 := n6_
                     have BK1077 := n7_
                     have BK1097 := n8_
                     have GW1097 := n9_
                     have GE1097 := n10_
                     have NB1077_1097 := n11_
                     have NB1097_1077 := n12_
                     have HB := n13_
                     clear n0_ n1_ n2_ n3_ n4_ n5_ n6_ n7_ n8_ n9_ n10_ n11_ n12_ n13_
                     have hHeld : w28.cell? ⟨gb1077, 0, none⟩ = some (.slice A0_0 l0_0.length c0_0) ∧ w28.cell? ⟨gb1077, 1, none⟩ = some (.slice (some ad1083) l0_1.length c0_1) ∧ w28.cell? ⟨gb1077, 2, none⟩ = some (.slice (some ad1084) l0_2.length c0_2) ∧ w28.cell? (ad1083.add (x6_1).toNat) = some (.int .i64 (rd l0_1 x6_1)) ∧ w28.cell? (ad1084.add (x6_1).toNat) = some (.int .i64 (rd l0_2 x6_1)) := hS_
                     obtain ⟨Ao29, co29, eo29⟩ := Kd.R_slice HO1087.out
                     (first | subst eo29 | (injection eo29 with f1_ f2_ f3_; have f4_ := f1_.symm; have f5_ := f3_.symm; clear f1_ f2_ f3_; subst f4_; subst f5_))
                     obtain ⟨Ao31, co31, eo31⟩ := Kd.R_slice HO1090.out
                     (first | subst eo31 | (injection eo31 with f1_ f2_ f3_; have f4_ := f1_.symm; have f5_ := f3_.symm; clear f1_ f2_ f3_; subst f4_; subst f5_))
                     obtain ⟨Ao33, co33, eo33⟩ := Kd.R_slice HO1093.out
                     (first | subst eo33 | (injection eo33 with f1_ f2_ f3_; have f4_ := f1_.symm; have f5_ := f3_.symm; clear f1_ f2_ f3_; subst f4_; subst f5_))
                     obtain ⟨Ao35, co35, eo35⟩ := Kd.R_slice HO1096.out
                     (first | subst eo35 | (injection eo35 with f1_ f2_ f3_; have f4_ := f1_.symm; have f5_ := f3_.symm; clear f1_ f2_ f3_; subst f4_; subst f5_))
                     refine norm_ (a' := ?_) ?_ ?_
                     rotate_left
                     · simp only [putAll, Act.put, List.setIfInBounds_toArray, List.set_cons_zero, List.set_cons_succ]
                       rfl
                     refine one_ (i := 13) (N := none) #[true, true, true, true, true, true, true, true, true, true, true, true, true, true] rfl rfl (one_of HT_.out (by kernel_rfl)) (by decide) (fun K hK => ?_)
                     have hs30 : w28.cell? ⟨gb1097, 0, none⟩ = some (.slice none 0 0) := (blk_cell BK1097.out 0).trans rfl
                     have hfs30 := blk_frozen BK1097.out 0
                     have hns30_0 := NB1077_1097.out
                     have hms30_0 := NB1097_1077.out
                     have hs32 : w28.cell? ⟨gb1097, 1, none⟩ = some (.slice none 0 0) := (blk_cell BK1097.out 1).trans rfl
                     have hfs32 := blk_frozen BK1097.out 1
                     have hns32_0 := NB1077_1097.out
                     have hms32_0 := NB1097_1077.out
                     have hs34 : w28.cell? ⟨gb1097, 2, none⟩ = some (.slice none 0 0) := (blk_cell BK1097.out 2).trans rfl
                     have hfs34 := blk_frozen BK1097.out 2
                     have hns34_0 := NB1077_1097.out
                     have hms34_0 := NB1097_1077.out
                     have hs36 : w28.cell? ⟨gb1097, 3, none⟩ = some (.slice none 0 0) := (blk_cell BK1097.out 3).trans rfl
                     have hfs36 := blk_frozen BK1097.out 3
                     have hns36_0 := NB1077_1097.out
                     have hms36_0 := NB1097_1077.out
                     refine skip_ (w1 := ?_) (by rfl) rfl ?_ ?_
                     rotate_left
                     · go_simp
                       rfl
                     refine hK.out _ _ ⟨((cell_far (p := ⟨gb1097, _, none⟩) NB1077_1097.out _).trans (((cell_far (p := ⟨gb1097, _, none⟩) NB1077_1097.out _).trans (((cell_far (p := ⟨gb1097, _, none⟩) NB1077_1097.out _).trans (((cell_far (p := ⟨gb1097, _, none⟩) NB1077_1097.out _).trans (hHeld.1)))))))), ((cell_far (p := ⟨gb1097, _, none⟩) NB1077_1097.out _).trans (((cell_far (p := ⟨gb1097, _, none⟩) NB1077_1097.out _).trans (((cell_far (p := ⟨gb1097, _, none⟩) NB1077_1097.out _).trans (((cell_far (p := ⟨gb1097, _, none⟩) NB1077_1097.out _).trans (hHeld.2.1)))))))), ((cell_far (p := ⟨gb1097, _, none⟩) NB1077_1097.out _).trans (((cell_far (p := ⟨gb1097, _, none⟩) NB1077_1097.out _).trans (((cell_far (p := ⟨gb1097, _, none⟩) NB1077_1097.out _).trans (((cell_far (p := ⟨gb1097, _, none⟩) NB1077_1097.out _).trans (hHeld.2.2.1)))))))), ((cell_far (p := ⟨gb1097, _, none⟩) z9 _).trans (((cell_far (p := ⟨gb1097, _, none⟩) z9 _).trans (((cell_far (p := ⟨gb1097, _, none⟩) z9 _).trans (((cell_far (p := ⟨gb1097, _, none⟩) z9 _).trans (hHeld.2.2.2.1)))))))), ((cell_far (p := ⟨gb1097, _, none⟩) z8 _).trans (((cell_far (p := ⟨gb1097, _, none⟩) z8 _).trans (((cell_far (p := ⟨gb1097, _, none⟩) z8 _).trans (((cell_far (p := ⟨gb1097, _, none⟩) z8 _).trans (hHeld.2.2.2.2))))))))⟩ (fun hHeld => ?_)
                     clear hK K
                     refine done_ (done_of HT_.out (by kernel_rfl)) ?_
                     have hnb37 := NB1097_1077.out
                     have hnc37 := NB1077_1097.out
                     have hcz38_0 : w28.cell? ⟨gb1097, 0, none⟩ = some (.slice none 0 0) := (blk_cell BK1097.out 0).trans rfl
                     have hcz38_1 : w28.cell? ⟨gb1097, 1, none⟩ = some (.slice none 0 0) := (blk_cell BK1097.out 1).trans rfl
                     have hcz38_2 : w28.cell? ⟨gb1097, 2, none⟩ = some (.slice none 0 0) := (blk_cell BK1097.out 2).trans rfl
                     have hcz38_3 : w28.cell? ⟨gb1097, 3, none⟩ = some (.slice none 0 0) := (blk_cell BK1097.out 3).trans rfl
                     have hfz38_0 := blk_frozen BK1097.out 0
                     have hfz38_1 := blk_frozen BK1097.out 1
                     have hfz38_2 := blk_frozen BK1097.out 2
                     have hfz38_3 := blk_frozen BK1097.out 3
                     try go_wp2_with (first | ((with_reducible refine gate_callee (f := 70) rfl ?_); refine goesL_ (some 43) rfl rfl Try.func70 (by kernel_rfl) rfl #[.agg #[.slice Ao29 t1085.length co29, .slice Ao31 t1088.length co31, .slice Ao33 t1091.length co33, .slice Ao35 t1094.length co35]] rfl z1 ?_; (with_reducible refine (impl_Case_best.calls k1 _ _ t1085 _ _ t1088 _ _ t1091 _ _ t1094 t1098 t1101 _ ?side1 ?side2 ?side3 ?side4 ?side5 ?side6 ?side7 ?side8 A20.out).mono ?_); (case side1 => refine (Kd.R_reads' (e := 3) (base := w.heap.size) (ok := fun k_ => ((w.heap.size ≤ k_) ∧ (some k_ ≠ (.slice Ao31 t1088.length co31 : Value).ownBlock ∧ (some k_ ≠ (.slice Ao33 t1091.length co33 : Value).ownBlock ∧ some k_ ≠ (.slice Ao35 t1094.length co35 : Value).ownBlock)))) (n := t1085.length) (c := co29) ?_).2.2; exact z16); (case side2 => exact (Kd.R_reads' HO1087.out).2.1); (case side3 => refine (Kd.R_reads' (e := 3) (base := w.heap.size) (ok := fun k_ => ((w.heap.size ≤ k_) ∧ (some k_ ≠ (.slice Ao29 t1085.length co29 : Value).ownBlock ∧ (some k_ ≠ (.slice Ao33 t1091.length co33 : Value).ownBlock ∧ some k_ ≠ (.slice Ao35 t1094.length co35 : Value).ownBlock)))) (n := t1088.length) (c := co31) ?_).2.2; exact z15); (case side4 => exact (Kd.R_reads' HO1090.out).2.1); (case side5 => refine (Kd.R_reads' (e := 3) (base := w.heap.size) (ok := fun k_ => ((w.heap.size ≤ k_) ∧ (some k_ ≠ (.slice Ao29 t1085.length co29 : Value).ownBlock ∧ (some k_ ≠ (.slice Ao31 t1088.length co31 : Value).ownBlock ∧ some k_ ≠ (.slice Ao35 t1094.length co35 : Value).ownBlock)))) (n := t1091.length) (c := co33) ?_).2.2; exact z14); (case side6 => exact (Kd.R_reads' HO1093.out).2.1); (case side7 => refine (Kd.R_reads' (e := 3) (base := w.heap.size) (ok := fun k_ => ((w.heap.size ≤ k_) ∧ (some k_ ≠ (.slice Ao29 t1085.length co29 : Value).ownBlock ∧ (some k_ ≠ (.slice Ao31 t1088.length co31 : Value).ownBlock ∧ some k_ ≠ (.slice Ao33 t1091.length co33 : Value).ownBlock)))) (n := t1094.length) (c := co35) ?_).2.2; exact z13); (case side8 => exact (Kd.R_reads' HO1096.out).2.1); rintro e w39 ⟨v1099, rfl, ho0, hb⟩; refine ⟨_, rfl, ?_⟩; have n0_ := Aside0.mk (Kd.S_elder' (by (with_reducible repeat (first | apply Kd.S_alloc | apply Kd.S_drewN | apply Kd.S_drew)); exact (Kd.S_mono (Kd.S_far (p := ⟨gb1097, 3, none⟩) (Kd.S_far (p := ⟨gb1097, 2, none⟩) (Kd.S_far (p := ⟨gb1097, 1, none⟩) (Kd.S_far (p := ⟨gb1097, 0, none⟩) (Kd.S_types HO_4.out BK1097.out (by decide)) (fun _ hk => hk.2) (.slice Ao29 t1085.length co29)) (fun _ hk => hk.2) (.slice Ao31 t1088.length co31)) (fun _ hk => hk.2) (.slice Ao33 t1091.length co33)) (fun _ hk => hk.2) (.slice Ao35 t1094.length co35)) (fun _ h_ => h_.1))) (Kd.R_base ho0) hb); have n1_ := Aside0.mk (Kd.V_elder' (by (with_reducible repeat (first | apply Kd.V_alloc | apply Kd.V_drewN | apply Kd.V_drew)); exact (Kd.V_mono (Kd.V_far (p := ⟨gb1097, 3, none⟩) (Kd.V_far (p := ⟨gb1097, 2, none⟩) (Kd.V_far (p := ⟨gb1097, 1, none⟩) (Kd.V_far (p := ⟨gb1097, 0, none⟩) (Kd.V_mono HO_5.out (fun k_ hk => (⟨hk, hk.2.2.2.2.2.2.2⟩ : _ ∧ k_ ≠ gb1097))) (fun _ hk => hk.2) (.slice Ao29 t1085.length co29)) (fun _ hk => hk.2) (.slice Ao31 t1088.length co31)) (fun _ hk => hk.2) (.slice Ao33 t1091.length co33)) (fun _ hk => hk.2) (.slice Ao35 t1094.length co35)) (fun _ h_ => h_.1))) (Kd.R_base ho0) hb); have n2_ := Aside0.mk (Kd.V_elder' (by (with_reducible repeat (first | apply Kd.V_alloc | apply Kd.V_drewN | apply Kd.V_drew)); exact (Kd.V_mono (Kd.V_far (p := ⟨gb1097, 3, none⟩) (Kd.V_far (p := ⟨gb1097, 2, none⟩) (Kd.V_far (p := ⟨gb1097, 1, none⟩) (Kd.V_far (p := ⟨gb1097, 0, none⟩) (Kd.V_mono HO_1078000.out (fun k_ hk => (⟨hk, hk.2.2.2.2.2.2.2⟩ : _ ∧ k_ ≠ gb1097))) (fun _ hk => hk.2) (.slice Ao29 t1085.length co29)) (fun _ hk => hk.2) (.slice Ao31 t1088.length co31)) (fun _ hk => hk.2) (.slice Ao33 t1091.length co33)) (fun _ hk => hk.2) (.slice Ao35 t1094.length co35)) (fun _ h_ => h_.1))) (Kd.R_base ho0) hb); have n3_ := Aside0.mk (Kd.R_elder' z16 (Kd.R_base ho0) hb); have n4_ := Aside0.mk (Kd.R_elder' z15 (Kd.R_base ho0) hb); have n5_ := Aside0.mk (Kd.R_elder' z14 (Kd.R_base ho0) hb); have n6_ := Aside0.mk (Kd.R_elder' z13 (Kd.R_base ho0) hb); have n7_ := Aside0.mk (Kd.R_lower (Kd.R_new' (Kd.R_new' (Kd.R_new' (Kd.R_new' (Kd.R_newM (M := fun k_ => (w.heap.size ≤ k_)) ho0 (below_size (zH2 GE1077.out GE1097.out)) (fun k_ h_ => h_)) (Kd.R_lt z16)) (Kd.R_lt z15)) (Kd.R_lt z14)) (Kd.R_lt z13)) (below_size (zH2 GE1077.out GE1097.out))); have n8_ := Aside0.mk (blk_below (g := gb1077) (o := .cells #[.slice A0_0 l0_0.length c0_0, .slice (some ad1083) l0_1.length c0_1, .slice (some ad1084) l0_2.length c0_2] 26 (0, 0)) (by (with_reducible repeat (first | refine blk_drewN ?_ _ | refine blk_drew ?_ | refine blk_alloc ?_ _)); refine blk_far ?_ NB1077_1097.out _; (with_reducible repeat (first | refine blk_drewN ?_ _ | refine blk_drew ?_ | refine blk_alloc ?_ _)); refine blk_far ?_ NB1077_1097.out _; (with_reducible repeat (first | refine blk_drewN ?_ _ | refine blk_drew ?_ | refine blk_alloc ?_ _)); refine blk_far ?_ NB1077_1097.out _; (with_reducible repeat (first | refine blk_drewN ?_ _ | refine blk_drew ?_ | refine blk_alloc ?_ _)); refine blk_far ?_ NB1077_1097.out _; (with_reducible repeat (first | refine blk_drewN ?_ _ | refine blk_drew ?_ | refine blk_alloc ?_ _)); exact BK1077.out) hb); have n9_ := Aside0.mk (blk_below (g := gb1097) (o := .cells #[.slice Ao29 t1085.length co29, .slice Ao31 t1088.length co31, .slice Ao33 t1091.length co33, .slice Ao35 t1094.length co35] 49 (0, 0)) (by (with_reducible repeat (first | refine blk_drewN ?_ _ | refine blk_drew ?_ | refine blk_alloc ?_ _)); refine blk_put (cs := #[.slice Ao29 t1085.length co29, .slice Ao31 t1088.length co31, .slice Ao33 t1091.length co33, .slice none 0 0]) ?_ 3 _ rfl; (with_reducible repeat (first | refine blk_drewN ?_ _ | refine blk_drew ?_ | refine blk_alloc ?_ _)); refine blk_put (cs := #[.slice Ao29 t1085.length co29, .slice Ao31 t1088.length co31, .slice none 0 0, .slice none 0 0]) ?_ 2 _ rfl; (with_reducible repeat (first | refine blk_drewN ?_ _ | refine blk_drew ?_ | refine blk_alloc ?_ _)); refine blk_put (cs := #[.slice Ao29 t1085.length co29, .slice none 0 0, .slice none 0 0, .slice none 0 0]) ?_ 1 _ rfl; (with_reducible repeat (first | refine blk_drewN ?_ _ | refine blk_drew ?_ | refine blk_alloc ?_ _)); refine blk_put (cs := #[.slice none 0 0, .slice none 0 0, .slice none 0 0, .slice none 0 0]) ?_ 0 _ rfl; (with_reducible repeat (first | refine blk_drewN ?_ _ | refine blk_drew ?_ | refine blk_alloc ?_ _)); exact BK1097.out) hb); have n10_ := Aside0.mk (below_step (zH2 GE1077.out GE1097.out) hb); clear HO_4; clear HO_5; clear HO_1078000; clear HO1087; clear HO1090; clear HO1093; clear HO1096; clear BK1077; clear BK1097; clear HB; have HO_4 := n0_; have HO_5 := n1_; have HO_1078000 := n2_; have HO1087 := n3_; have HO1090 := n4_; have HO1093 := n5_; have HO1096 := n6_; have HO1100 := n7_; have BK1077 := n8_; have BK1097 := n9_; have HB := n10_; clear n0_ n1_ n2_ n3_ n4_ n5_ n6_ n7_ n8_ n9_ n10_; (try clear hb); (try clear hb2); (try clear hk); (try clear hi); (try clear ho0); have hcz40_0 : w39.cell? ⟨gb1097, 0, none⟩ = some (.slice Ao29 t1085.length co29) := (blk_cell BK1097.out 0).trans rfl; have hcz40_1 : w39.cell? ⟨gb1097, 1, none⟩ = some (.slice Ao31 t1088.length co31) := (blk_cell BK1097.out 1).trans rfl; have hcz40_2 : w39.cell? ⟨gb1097, 2, none⟩ = some (.slice Ao33 t1091.length co33) := (blk_cell BK1097.out 2).trans rfl; have hcz40_3 : w39.cell? ⟨gb1097, 3, none⟩ = some (.slice Ao35 t1094.length co35) := (blk_cell BK1097.out 3).trans rfl; have hfz40_0 := blk_frozen BK1097.out 0; have hfz40_1 := blk_frozen BK1097.out 1; have hfz40_2 := blk_frozen BK1097.out 2; have hfz40_3 := blk_frozen BK1097.out 3; obtain ⟨Ao41, co41, eo41⟩ := Kd.R_slice HO1100.out; subst eo41) | ((with_reducible refine gate_callee (f := 71) rfl ?_); refine goesL_ (some 51) rfl rfl Try.func71 (by kernel_rfl) rfl #[.agg #[.slice Ao29 t1085.length co29, .slice Ao31 t1088.length co31, .slice Ao33 t1091.length co33, .slice Ao35 t1094.length co35], .slice Ao41 t1098.length co41] rfl z1 ?_; (with_reducible refine (impl_Case_planFrom.calls k1 _ _ t1085 _ _ t1088 _ _ t1091 _ _ t1094 _ _ t1098 t1102 t1105 _ ?side1 ?side2 ?side3 ?side4 ?side5 ?side6 ?side7 ?side8 ?side9 ?side10 A21.out).mono ?_); (case side1 => exact zC (Kd.R_reads' HO1087.out).2.2); (case side2 => exact (Kd.R_reads' HO1087.out).2.1); (case side3 => exact zC (Kd.R_reads' HO1090.out).2.2); (case side4 => exact (Kd.R_reads' HO1090.out).2.1); (case side5 => exact zC (Kd.R_reads' HO1093.out).2.2); (case side6 => exact (Kd.R_reads' HO1093.out).2.1); (case side7 => exact zC (Kd.R_reads' HO1096.out).2.2); (case side8 => exact (Kd.R_reads' HO1096.out).2.1); (case side9 => exact zC (Kd.R_reads' HO1100.out).2.2); (case side10 => exact (Kd.R_reads' HO1100.out).2.1); rintro e w42 ⟨v1103, rfl, ho0, hb⟩; refine ⟨_, rfl, ?_⟩; have n0_ := Aside0.mk (Kd.S_elder' (zS HO_4.out) (Kd.R_base ho0) hb); have n1_ := Aside0.mk (Kd.V_elder' (zV HO_5.out) (Kd.R_base ho0) hb); have n2_ := Aside0.mk (Kd.V_elder' (zV HO_1078000.out) (Kd.R_base ho0) hb); have n3_ := Aside0.mk (Kd.R_elder' (zR HO1087.out) (Kd.R_base ho0) hb); have n4_ := Aside0.mk (Kd.R_elder' (zR HO1090.out) (Kd.R_base ho0) hb); have n5_ := Aside0.mk (Kd.R_elder' (zR HO1093.out) (Kd.R_base ho0) hb); have n6_ := Aside0.mk (Kd.R_elder' (zR HO1096.out) (Kd.R_base ho0) hb); have n7_ := Aside0.mk (Kd.R_elder' (zR HO1100.out) (Kd.R_base ho0) hb); have n8_ := Aside0.mk (Kd.R_lower (Kd.R_new' (Kd.R_new' (Kd.R_new' (Kd.R_new' (Kd.R_new' (Kd.R_newM (M := fun k_ => (w.heap.size ≤ k_)) ho0 (below_size (zH2 GE1077.out GE1097.out)) (fun k_ h_ => h_)) (Kd.R_lt (zR HO1087.out))) (Kd.R_lt (zR HO1090.out))) (Kd.R_lt (zR HO1093.out))) (Kd.R_lt (zR HO1096.out))) (Kd.R_lt (zR HO1100.out))) (below_size (zH2 GE1077.out GE1097.out))); have n9_ := Aside0.mk (blk_below (g := gb1077) (o := .cells #[.slice A0_0 l0_0.length c0_0, .slice (some ad1083) l0_1.length c0_1, .slice (some ad1084) l0_2.length c0_2] 26 (0, 0)) (zB BK1077.out) hb); have n10_ := Aside0.mk (blk_below (g := gb1097) (o := .cells #[.slice Ao29 t1085.length co29, .slice Ao31 t1088.length co31, .slice Ao33 t1091.length co33, .slice Ao35 t1094.length co35] 49 (0, 0)) (zB BK1097.out) hb); have n11_ := Aside0.mk (below_step (zH2 GE1077.out GE1097.out) hb); clear HO_4; clear HO_5; clear HO_1078000; clear HO1087; clear HO1090; clear HO1093; clear HO1096; clear HO1100; clear BK1077; clear BK1097; clear HB; have HO_4 := n0_; have HO_5 := n1_; have HO_1078000 := n2_; have HO1087 := n3_; have HO1090 := n4_; have HO1093 := n5_; have HO1096 := n6_; have HO1100 := n7_; have HO1104 := n8_; have BK1077 := n9_; have BK1097 := n10_; have HB := n11_; clear n0_ n1_ n2_ n3_ n4_ n5_ n6_ n7_ n8_ n9_ n10_ n11_; (try clear hb); (try clear hb2); (try clear hk); (try clear hi); (try clear ho0); have p23 : 0 ≤ (x6_1 : Int) := of_decide_eq_true z2; have q23 : (x6_1 : Int) < ((x4_1.length : Int) : Int) := of_decide_eq_true z2; obtain ⟨go23, co23, eo23, gb23, gl23, cl23, HG23⟩ := Kd.S_form HO_4.out (by omega); (first | cases eo23 | (injection eo23 with ea_ en_ ec_; (first | subst ea_ | (injection ea_ with ea_; subst ea_)); subst ec_; clear en_)); have GB23 := Aside0.mk gb23; have GG23 := Aside0.mk HG23; clear gb23 gl23 HG23; obtain ⟨_, ce23, hcl23, hM23, hcc23, hfr23, _, _⟩ := Kd.S_elem HO_4.out [] (x6_1 : Int) p23 q23; obtain ⟨ve23_0, rfl, ge23_0⟩ := hM23; have hx23_0 := hcc23 0 _ rfl; have hf23_0 := hfr23 0; (try simp only [show ((Kd.slice 3 (Kd.int .i64))).sz = 1 from rfl, Nat.mul_one, Nat.add_zero] at hx23_0); (try simp only [show ((Kd.slice 3 (Kd.int .i64))).sz = 1 from rfl, Nat.mul_one, Nat.add_zero] at hf23_0); (try clear hM23); clear hcl23 hcc23 hfr23; replace p23 := eq_true p23; replace q23 := eq_true q23; have n_ := Aside0.mk (Kd.S_mono (ok' := (fun k_ => (w.heap.size ≤ k_) ∧ some k_ ≠ (.slice Ao29 t1085.length co29 : Value).ownBlock ∧ some k_ ≠ (.slice Ao31 t1088.length co31 : Value).ownBlock ∧ some k_ ≠ (.slice Ao33 t1091.length co33 : Value).ownBlock ∧ some k_ ≠ (.slice Ao35 t1094.length co35 : Value).ownBlock ∧ some k_ ≠ (.slice Ao41 t1098.length co41 : Value).ownBlock ∧ some k_ ≠ (v1103 : Value).ownBlock)) HO_4.out (fun k_ hk => ⟨hk.1.1.1, ⟨hk.1.1.2.1, ⟨hk.1.1.2.2.1, ⟨hk.1.1.2.2.2.1, ⟨hk.1.1.2.2.2.2, ⟨hk.1.2, hk.2⟩⟩⟩⟩⟩⟩)); clear HO_4; have HO_4 := n_; clear n_; have HX43 := Aside0.mk (show Kd.S (Kd.slice 3 (Kd.int .i64)) 24 w42 w.heap.size (fun k_ => ((fun k_ => (w.heap.size ≤ k_) ∧ some k_ ≠ (.slice Ao29 t1085.length co29 : Value).ownBlock ∧ some k_ ≠ (.slice Ao31 t1088.length co31 : Value).ownBlock ∧ some k_ ≠ (.slice Ao33 t1091.length co33 : Value).ownBlock ∧ some k_ ≠ (.slice Ao35 t1094.length co35 : Value).ownBlock ∧ some k_ ≠ (.slice Ao41 t1098.length co41 : Value).ownBlock)) k_ ∧ ¬ ((fun k_ => some k_ = (v1103 : Value).ownBlock)) k_) (.slice (some ⟨go23, 0, none⟩) x4_1.length co12) x4_1 from (by (with_reducible repeat (first | apply Kd.S_alloc | apply Kd.S_drewN | apply Kd.S_drew)); exact Kd.S_mono HO_4.out (fun k_ hk => ⟨⟨hk.1, ⟨hk.2.1, ⟨hk.2.2.1, ⟨hk.2.2.2.1, ⟨hk.2.2.2.2.1, hk.2.2.2.2.2.1⟩⟩⟩⟩⟩, fun e_ => hk.2.2.2.2.2.2 e_⟩))); obtain ⟨oki43, ce43, hcl43, hM43, hcc43, hfr43, hoki43, hH43⟩ := Kd.S_elem HX43.out [] (x6_1 : Int) (of_decide_eq_true z2) (by have h_ : (x6_1 : Int) < ((x4_1.length : Int) : Int) := of_decide_eq_true z2; first | exact h_ | (have e_ := (Kd.S_reads' HO_4.out).1; omega) | simpa using h_); obtain ⟨ve43_0, rfl, ge43_0⟩ := hM43; have HP43 := Kd.S_seg hH43 (of_decide_eq_true z2) (by have h_ : (x6_1 : Int) < ((x4_1.length : Int) : Int) := of_decide_eq_true z2; first | exact h_ | (have e_ := (Kd.S_reads' HO_4.out).1; omega) | simpa using h_) (seg := [v1103]) (j := 0) (show 1 ≤ 1 from by decide) (x' := t1102) (Kd.M_row (Kd.R_mono (Kd.R_tight rfl (Kd.R_mono (ok' := fun k_ => ((fun k_ => (w.heap.size ≤ k_) ∧ some k_ ≠ (.slice Ao29 t1085.length co29 : Value).ownBlock ∧ some k_ ≠ (.slice Ao31 t1088.length co31 : Value).ownBlock ∧ some k_ ≠ (.slice Ao33 t1091.length co33 : Value).ownBlock ∧ some k_ ≠ (.slice Ao35 t1094.length co35 : Value).ownBlock ∧ some k_ ≠ (.slice Ao41 t1098.length co41 : Value).ownBlock)) k_ ∧ k_ ≠ go23) (Kd.R_apart' (HO1104.out) (Kd.S_typed HO_4.out) (by decide)) (fun k_ hk => ⟨⟨hk.1.1.1.1.1.1.1, ⟨hk.1.1.1.1.1.2, ⟨hk.1.1.1.1.2, ⟨hk.1.1.1.2, ⟨hk.1.1.2, hk.1.2⟩⟩⟩⟩⟩, fun e_ => (hk.2) (by rw [e_]; rfl)⟩))) (fun _ h_ => Or.inr (h_)))) (fun _ hk => hk) (fun k_ hk_ => ((Kd.R_mono (ok' := fun k_ => ((fun k_ => (w.heap.size ≤ k_) ∧ some k_ ≠ (.slice Ao29 t1085.length co29 : Value).ownBlock ∧ some k_ ≠ (.slice Ao31 t1088.length co31 : Value).ownBlock ∧ some k_ ≠ (.slice Ao33 t1091.length co33 : Value).ownBlock ∧ some k_ ≠ (.slice Ao35 t1094.length co35 : Value).ownBlock ∧ some k_ ≠ (.slice Ao41 t1098.length co41 : Value).ownBlock)) k_ ∧ k_ ≠ go23) (Kd.R_apart' (HO1104.out) (Kd.S_typed HO_4.out) (by decide)) (fun k_ hk => ⟨⟨hk.1.1.1.1.1.1.1, ⟨hk.1.1.1.1.1.2, ⟨hk.1.1.1.1.2, ⟨hk.1.1.1.2, ⟨hk.1.1.2, hk.1.2⟩⟩⟩⟩⟩, fun e_ => (hk.2) (by rw [e_]; rfl)⟩))).1 k_ hk_.symm); have hx43_0 := hcc43 0 _ rfl; (try simp only [show ((Kd.slice 3 (Kd.int .i64))).sz = 1 from rfl, Nat.mul_one, Nat.add_zero] at hx43_0); have hf43_0 := hfr43 0; (try simp only [show ((Kd.slice 3 (Kd.int .i64))).sz = 1 from rfl, Nat.mul_one, Nat.add_zero] at hf43_0); (try clear hM43); clear hcl43 hcc43 hfr43 hoki43 hH43; (try simp only [show ((Kd.slice 3 (Kd.int .i64))).sz = 1 from rfl, Nat.mul_one, Nat.add_zero] at HP43)) | ((with_reducible refine gate_store (t := 24) (p := 54) rfl ?_); refine store_event (t := 24) (p := 54) (v := ?vo_w44) (w1 := (w42.setCell ⟨go23, (x6_1 : Int).toNat, none⟩ (v1103))) ?hg ?ho ?hn ?hr ?_; (case ho => rfl); (case hg => rfl); (case hn => rfl); (case hr => (obtain ⟨Az_, cz_, ez_⟩ := Kd.R_slice HO1104.out; subst ez_; go_simp; first | done | rfl)); intro w44 hw; have hg : w42.grownBy w44 (some go23) := (by rw [hw]; exact HP43.2); have hp_ : Kd.S (Kd.slice 3 (Kd.int .i64)) 24 w44 w.heap.size (fun k_ => (w.heap.size ≤ k_) ∧ some k_ ≠ (.slice Ao29 t1085.length co29 : Value).ownBlock ∧ some k_ ≠ (.slice Ao31 t1088.length co31 : Value).ownBlock ∧ some k_ ≠ (.slice Ao33 t1091.length co33 : Value).ownBlock ∧ some k_ ≠ (.slice Ao35 t1094.length co35 : Value).ownBlock ∧ some k_ ≠ (.slice Ao41 t1098.length co41 : Value).ownBlock) (.slice (some ⟨go23, 0, none⟩) x4_1.length co12) y1106 := (by rw [hw, Ny1106.out]; exact HP43.1); clear HP43; have n0_ := Aside0.mk (hp_); have n1_ := Aside0.mk (Kd.V_afterv (v := (.slice (some ⟨go23, 0, none⟩) x4_1.length co12)) (v1 := (.slice (some ⟨go23, 0, none⟩) x4_1.length co12)) (ok := (fun k_ => (P0_0_ k_ ∨ w.heap.size ≤ k_) ∧ some k_ ≠ (.slice Ao29 t1085.length co29 : Value).ownBlock ∧ some k_ ≠ (.slice Ao31 t1088.length co31 : Value).ownBlock ∧ some k_ ≠ (.slice Ao33 t1091.length co33 : Value).ownBlock ∧ some k_ ≠ (.slice Ao35 t1094.length co35 : Value).ownBlock ∧ some k_ ≠ (.slice Ao41 t1098.length co41 : Value).ownBlock ∧ some k_ ≠ (v1103 : Value).ownBlock ∧ k_ ≠ gb1077 ∧ k_ ≠ gb1097)) (by (with_reducible repeat (first | apply Kd.V_alloc | apply Kd.V_drewN | apply Kd.V_drew)); exact Kd.V_mono HO_5.out (fun _ hk => ⟨⟨hk.1.1.1, ⟨hk.1.1.2.1, ⟨hk.1.1.2.2.1, ⟨hk.1.1.2.2.2.1, ⟨hk.1.1.2.2.2.2.1, ⟨hk.1.2, ⟨hk.2, ⟨hk.1.1.2.2.2.2.2.2.1, hk.1.1.2.2.2.2.2.2.2⟩⟩⟩⟩⟩⟩⟩⟩, hk.1.1.2.2.2.2.2.1⟩)) hg (.inl rfl)); have n2_ := Aside0.mk (Kd.V_afterv (v := (.slice (some ⟨go23, 0, none⟩) x4_1.length co12)) (v1 := (.slice (some ⟨go23, 0, none⟩) x4_1.length co12)) (ok := (fun k_ => (P0_0_ k_ ∨ w.heap.size ≤ k_) ∧ some k_ ≠ (.slice Ao29 t1085.length co29 : Value).ownBlock ∧ some k_ ≠ (.slice Ao31 t1088.length co31 : Value).ownBlock ∧ some k_ ≠ (.slice Ao33 t1091.length co33 : Value).ownBlock ∧ some k_ ≠ (.slice Ao35 t1094.length co35 : Value).ownBlock ∧ some k_ ≠ (.slice Ao41 t1098.length co41 : Value).ownBlock ∧ some k_ ≠ (v1103 : Value).ownBlock ∧ k_ ≠ gb1077 ∧ k_ ≠ gb1097)) (by (with_reducible repeat (first | apply Kd.V_alloc | apply Kd.V_drewN | apply Kd.V_drew)); exact Kd.V_mono HO_1078000.out (fun _ hk => ⟨⟨hk.1.1.1, ⟨hk.1.1.2.1, ⟨hk.1.1.2.2.1, ⟨hk.1.1.2.2.2.1, ⟨hk.1.1.2.2.2.2.1, ⟨hk.1.2, ⟨hk.2, ⟨hk.1.1.2.2.2.2.2.2.1, hk.1.1.2.2.2.2.2.2.2⟩⟩⟩⟩⟩⟩⟩⟩, hk.1.1.2.2.2.2.2.1⟩)) hg (.inl rfl)); have n3_ := Aside0.mk (blk_grown (g := gb1077) (o := .cells #[.slice A0_0 l0_0.length c0_0, .slice (some ad1083) l0_1.length c0_1, .slice (some ad1084) l0_2.length c0_2] 26 (0, 0)) (zB BK1077.out) hg (Kd.S_ne HO_4.out BK1077.out (by decide))); have n4_ := Aside0.mk (Kd.R_over' (v := (.slice (some ⟨go23, 0, none⟩) x4_1.length co12)) (zR HO1087.out) (Kd.S_typed HO_4.out) (by decide) hg); have n5_ := Aside0.mk (Kd.R_over' (v := (.slice (some ⟨go23, 0, none⟩) x4_1.length co12)) (zR HO1090.out) (Kd.S_typed HO_4.out) (by decide) hg); have n6_ := Aside0.mk (Kd.R_over' (v := (.slice (some ⟨go23, 0, none⟩) x4_1.length co12)) (zR HO1093.out) (Kd.S_typed HO_4.out) (by decide) hg); have n7_ := Aside0.mk (Kd.R_over' (v := (.slice (some ⟨go23, 0, none⟩) x4_1.length co12)) (zR HO1096.out) (Kd.S_typed HO_4.out) (by decide) hg); have n8_ := Aside0.mk (blk_grown (g := gb1097) (o := .cells #[.slice Ao29 t1085.length co29, .slice Ao31 t1088.length co31, .slice Ao33 t1091.length co33, .slice Ao35 t1094.length co35] 49 (0, 0)) (zB BK1097.out) hg (Kd.S_ne HO_4.out BK1097.out (by decide))); have n9_ := Aside0.mk (Kd.R_over' (v := (.slice (some ⟨go23, 0, none⟩) x4_1.length co12)) (zR HO1100.out) (Kd.S_typed HO_4.out) (by decide) hg); have n10_ := Aside0.mk ((by rw [hw]; exact below_set (HB.out) GB23.out : Below w.heap.size w w44)); clear HO_4; clear HO_5; clear HO_1078000; clear BK1077; clear HO1087; clear HO1090; clear HO1093; clear HO1096; clear BK1097; clear HO1100; clear HB; clear HO1104; have HO_4 := n0_; have HO_5 := n1_; have HO_1078000 := n2_; have BK1077 := n3_; have HO1087 := n4_; have HO1090 := n5_; have HO1093 := n6_; have HO1096 := n7_; have BK1097 := n8_; have HO1100 := n9_; have HB := n10_; clear n0_ n1_ n2_ n3_ n4_ n5_ n6_ n7_ n8_ n9_ n10_; clear hg hw hp_; have p1107 : 0 ≤ (x6_1 : Int) := of_decide_eq_true z2; have q1107 : x6_1 < (y1106.length : Int) := (by have h_ : (x6_1 : Int) < ((x4_1.length : Int) : Int) := of_decide_eq_true z2; first | (have e_ := (Kd.S_reads' HO_4.out).1; omega) | simpa only [Ny1106.out, List.length_set] using h_); have ql1107 : ((x6_1 : Int) < ((x4_1.length : Int) : Int)) = True := eq_true (of_decide_eq_true z2); obtain ⟨ad1107, A1107_0, c1107_0, e1107, hx1107_0, hl1107_0, hi1107_0⟩ := at_L2 (Kd.S_reads' HO_4.out).2.2 x6_1 p1107 q1107; obtain rfl : (⟨go23, 0, none⟩ : Addr) = ad1107 := (by injection e1107); obtain ⟨ce1107, hce1107, hMe1107, hcc1107⟩ := Kd.S_get HO_4.out [] x6_1 p1107 (by first | exact q1107 | exact of_decide_eq_true z2 | (have e_ := (Kd.S_reads' HO_4.out).1; omega)); obtain ⟨ve1107_0, rfl, ge1107_0⟩ := hMe1107; have hv1107_0 := hcc1107 0 _ rfl; rw [Nat.add_zero, show ((Kd.slice 3 (Kd.int .i64))).sz = 1 from rfl, Nat.mul_one] at hv1107_0; replace hv1107_0 := Option.some.inj (hv1107_0.symm.trans hx1107_0); rw [hv1107_0] at ge1107_0; have HL1107_0 := Aside0.mk (show Kd.R (Kd.int .i64) 3 _ _ _ _ (rd_L2 y1106 x6_1) from ge1107_0); clear hv1107_0 ge1107_0; clear hcc1107 hce1107; (first | simp only [add_plain] at hx1107_0 | simp only [add_at] at hx1107_0 | simp only [Addr.add, Nat.zero_add] at hx1107_0 | skip); have HR1107_0 := Aside0.mk hi1107_0; have HC1107_0 := Aside0.mk hl1107_0; clear hi1107_0 hl1107_0; replace p1107 := eq_true p1107; replace q1107 := eq_true q1107))
                     (try simp only [← hl4_1])
                     go_roundg k1
                     case measure => have := HK1.out; omega
                     case rel => exact ⟨(y1106), (rd_L2 y1106 x6_1), (wrap64 (x6_1 - 1)), z3, H', ⟨by have := HK1.out; omega⟩, ⟨by (try simp only [hl4_1]); (with_reducible repeat (first | apply Kd.S_alloc | apply Kd.S_drewN | apply Kd.S_drew)); exact Kd.S_mono HO_4.out (fun _ hk => hk.1)⟩, ⟨Kd.V_mono (Kd.R_V (by (try simp only [hl4_1]); (with_reducible repeat (first | apply Kd.R_alloc | apply Kd.R_drewN | apply Kd.R_drew)); exact Kd.R_types HL1107_0.out BK1077.out (by decide))) (fun k_ hk => by first | exact ⟨.inr hk.1.1.1, hk.1.2, hk.2⟩ | exact ⟨(.inr (hk.1)), hk.2⟩ | exact (.inr (hk)))⟩, ⟨by (try simp only [hl4_1]); (with_reducible repeat (first | apply Kd.V_alloc | apply Kd.V_drewN | apply Kd.V_drew)); exact Kd.V_mono HO_1078000.out (fun _ hk => ⟨hk.1.1, ⟨hk.2, hk.1.2.2.2.2.2.2.2.1⟩⟩)⟩, ⟨by (try simp only [hl4_1]); (with_reducible repeat (first | refine blk_drewN ?_ _ | refine blk_drew ?_ | refine blk_alloc ?_ _)); exact BK1077.out⟩, ⟨by repeat (first | (with_reducible first | exact HB.out | apply below_alloc | apply pw_below_drewN | apply below_drew1 | refine below_set ?_ GE1077.out | refine below_set ?_ GE1097.out) | exact HB.out)⟩⟩
                   · rw [if_neg c22] at H
                     exact absurd H (by simp)
                 · rw [if_neg c18] at H
                   exact absurd H (by simp)
               · rw [if_neg c17] at H
                 exact absurd H (by simp)
             · rw [if_neg c16] at H
               exact absurd H (by simp)
           · replace c15 := Bool.eq_false_iff.mpr c15
             subst c15
             have H1 : (some (([] : List (List Int)), false)) = some (r1, r2) := by rw [if_neg (show ¬ (false = true) by decide)] at H; exact H
             clear H
             have H := H1
             clear H1
             simp only [Option.some.injEq, Prod.mk.injEq] at H
             obtain ⟨rfl, rfl⟩ := H
             obtain ⟨Ao45, co45, eo45⟩ := Kd.V_slice HO_5.out
             subst eo45
             go_wp2_with (first | ((with_reducible refine gate_callee (f := 69) rfl ?_); refine goesL_ (some 27) rfl rfl Try.func69 (by kernel_rfl) rfl #[.slice Ao45 x5_1.length co45, .int .i64 0, .int .i64 20] rfl z1 ?_; (with_reducible refine (impl_allWithin.calls k1 _ _ x5_1 0 20 false _ ?side1 ?side2 A14.out).mono ?_); (case side1 => exact zC (Kd.V_reads' HO_5.out).2.2); (case side2 => exact (Kd.V_reads' HO_5.out).2.1); rintro e w' ⟨rfl, ⟨nd, rfl⟩⟩; refine ⟨_, rfl, ?_⟩))
             go_ret2
             exact ⟨_, by first | rfl | (simp [errW_none, errW_some] <;> rfl) | (simp [*, errW_none, errW_some] <;> rfl), by first | exact Kd.S_nil _ _ _ _ _ | exact Kd.N_nil _ _ _ _ _ | exact Kd.V_nil _ _ _ _ _ | exact Kd.Q_nil _ _ _ _ _ | exact Kd.R_nil _ _ _ _ _, by repeat (first | (with_reducible first | exact HB.out | apply below_alloc | apply pw_below_drewN | apply below_drew1 | refine below_set ?_ GE1077.out) | exact HB.out)⟩
         · rw [if_neg c13] at H
           have c13b0 : decide (0 ≤ x6_1) = false := decide_eq_false c13
           clear c13
           simp only [Option.some.injEq, Prod.mk.injEq] at H
           obtain ⟨rfl, rfl⟩ := H
           go_wp2
           go_ret2
           exact ⟨_, by first | rfl | (simp [errW_none, errW_some] <;> rfl) | (simp [*, errW_none, errW_some] <;> rfl), by (with_reducible repeat (first | apply Kd.S_alloc | apply Kd.S_drewN | apply Kd.S_drew)); exact HO_4.out, by repeat (first | (with_reducible first | exact HB.out | apply below_alloc | apply pw_below_drewN | apply below_drew1 | refine below_set ?_ GE1077.out) | exact HB.out)⟩
     · rw [if_neg c5] at H
       exact absurd H (by simp)
   · rw [if_neg c4] at H
     exact absurd H (by simp)
 · replace c3 := Bool.eq_false_iff.mpr c3
   subst c3
   have H1 : (some (([] : List (List Int)), false)) = some (r1, r2) := by rw [if_neg (show ¬ (false = true) by decide)] at H; exact H
   clear H
   have H := H1
   clear H1
   simp only [Option.some.injEq, Prod.mk.injEq] at H
   obtain ⟨rfl, rfl⟩ := H
   go_enter Try.func17, Try.ntmps17
   go_wp2_with (first | ((with_reducible refine gate_dst (N := 1) rfl ?_); refine box_event ?hg (N := 1) ?hd (cs := #[.slice A0_0 l0_0.length c0_0, .slice A0_1 l0_1.length c0_1, .slice A0_2 l0_2.length c0_2]) (t := 26) ?hr ?_; (case hd => rfl); (case hg => rfl); (case hr => first | (go_simp; done) | (go_simp; rfl)); intro gb1077 hg w46 hbox hb; have n0_ := Aside0.mk (Kd.V_below (Kd.V_elderB (zV HO0_0.out) gb1077 (Nat.le_of_eq hg.symm)) hb); have n1_ := Aside0.mk (below_step zH0 hb); have n2_ := Aside0.mk (hbox); have n3_ := Aside0.mk ((z6 : w.heap.size ≤ gb1077)); have n4_ := Aside0.mk ((z6 : w.heap.size ≤ gb1077)); clear HO0_0; clear HB; have HO0_0 := n0_; have HB := n1_; have BK1077 := n2_; have GW1077 := n3_; have GE1077 := n4_; clear n0_ n1_ n2_ n3_ n4_; clear hb hbox hg; have hcz47_0 : w46.cell? ⟨gb1077, 0, none⟩ = some (.slice A0_0 l0_0.length c0_0) := (blk_cell BK1077.out 0).trans rfl; have hcz47_1 : w46.cell? ⟨gb1077, 1, none⟩ = some (.slice A0_1 l0_1.length c0_1) := (blk_cell BK1077.out 1).trans rfl; have hcz47_2 : w46.cell? ⟨gb1077, 2, none⟩ = some (.slice A0_2 l0_2.length c0_2) := (blk_cell BK1077.out 2).trans rfl; have hfz47_0 := blk_frozen BK1077.out 0; have hfz47_1 := blk_frozen BK1077.out 1; have hfz47_2 := blk_frozen BK1077.out 2) | ((with_reducible refine gate_callee (f := 50) rfl ?_); refine goesL_ (some 11) rfl rfl Try.func50 (by kernel_rfl) rfl #[.agg #[.slice A0_0 l0_0.length c0_0, .slice A0_1 l0_1.length c0_1, .slice A0_2 l0_2.length c0_2]] rfl z1 ?_; (with_reducible refine (impl_IsChain.calls k _ _ l0_0 _ _ l0_1 _ _ l0_2 false _ ?side1 ?side2 ?side3 ?side4 ?side5 ?side6 A2.out).mono ?_); (case side1 => exact zC (Kd.V_reads' HO0_0.out).2.2); (case side2 => exact (Kd.V_reads' HO0_0.out).2.1); (case side3 => exact zC (Kd.C_below HR0_1.out HB.out)); (case side4 => exact HC0_1.out); (case side5 => exact zC (Kd.C_below HR0_2.out HB.out)); (case side6 => exact HC0_2.out); rintro e w48 ⟨rfl, hb⟩; refine ⟨_, rfl, ?_⟩; have n0_ := Aside0.mk (Kd.V_below (zV HO0_0.out) hb); have n1_ := Aside0.mk (blk_below (g := gb1077) (o := .cells #[.slice A0_0 l0_0.length c0_0, .slice A0_1 l0_1.length c0_1, .slice A0_2 l0_2.length c0_2] 26 (0, 0)) (zB BK1077.out) hb); have n2_ := Aside0.mk (below_step (zH1 GE1077.out) hb); clear HO0_0; clear BK1077; clear HB; have HO0_0 := n0_; have BK1077 := n1_; have HB := n2_; clear n0_ n1_ n2_; (try clear hb); (try clear hb2); (try clear hk); (try clear hi)))
   go_ret2
   exact ⟨_, by first | rfl | (simp [errW_none, errW_some] <;> rfl) | (simp [*, errW_none, errW_some] <;> rfl), by first | exact Kd.S_nil _ _ _ _ _ | exact Kd.N_nil _ _ _ _ _ | exact Kd.V_nil _ _ _ _ _ | exact Kd.Q_nil _ _ _ _ _ | exact Kd.R_nil _ _ _ _ _, by repeat (first | (with_reducible first | exact HB.out | apply below_alloc | apply pw_below_drewN | apply below_drew1 | refine below_set ?_ GE1077.out) | exact HB.out)⟩
end Go.Proofs.Ythlmmcmpllgflaa.P
namespace Go.Proofs.Ythlmmcmpllgflaa.P
open Go.RowKit Go.Proofs.YthlmmcmpllgflaaW.PrintWords Go.Proofs.YthlmmcmpllgflaaW.PrintLast Go.Proofs.YthlmmcmpllgflaaW.PrintMore
attribute [local go_sem] max2_int min2_int max_two min_two max_three min_three max_four min_four
set_option linter.unusedVariables false
set_option linter.unusedSimpArgs false
def spec_l7Case.l0 : Nat → List Int → Int → Int → Int → List Int → List Int → List Int → List Int → Option (List Int × List Int × List Int × List Int)
 | 0, _, _, _, _, _, _, _, _ => none
 | k + 1, x0, x1, x2, x8, x1110000, x1110001, x1110002, x1110003 => if x8 < (x0.length : Int) then (if 0 ≤ x8 then (if x1110000.length < 17592186044416 then (if x1110001.length < 17592186044416 then (if x1110002.length < 17592186044416 then (if x1110003.length < 17592186044416 then (spec_l7Case.l0 k x0 x1 x2 (wrap64 (x8 + 1)) (x1110000 ++ [rd x0 x8]) (x1110001 ++ [x1]) (x1110002 ++ [0]) (x1110003 ++ [x2])) else (none)) else (none)) else (none)) else (none)) else (none)) else (some (x1110000, x1110001, x1110002, x1110003))
def spec_l7Case.f (k : Nat) (l0 : List Int) (a1 : Int) (a2 : Int) : Option (List Int × List Int × List Int × List Int) := spec_l7Case.l0 k l0 a1 a2 0 ([] : List Int) ([] : List Int) ([] : List Int) ([] : List Int)
def spec_l7Case.T5 : Bool × List (List Nat × List Nat) := (true, [([], []), ([0], [0]), ([], []), ([], []), ([2, 3], [2, 3]), ([4], [4]), ([5], [5]), ([1, 6], [1, 6]), ([0, 1, 2, 3, 4, 5, 6, 7], []), ([8, 7, 7, 0, 1, 2, 3, 4, 5, 6, 7], [7, 8])])
def spec_l7Case.B5 : List Nat := [0, 1, 0, 0, 12, 28, 60, 127, 255, 511]
theorem spec_l7Case.tab5 : rtab .any (opsOf Try.f72 5) = spec_l7Case.T5 := by kernel_rfl
theorem spec_l7Case.bits5 : waitsOk spec_l7Case.T5.2 spec_l7Case.B5 = true := by kernel_rfl
set_option maxHeartbeats 8000000 in
set_option maxRecDepth 100000 in
theorem spec_l7Case.calls (k : Nat) (A0 : Option Addr) (c0 : Nat) (l0 : List Int) (a1 : Int) (a2 : Int) (r1 : List Int) (r2 : List Int) (r3 : List Int) (r4 : List Int) (w : World) (hr0 : Kd.C (Kd.int .i64) w A0 l0.length l0) (hc0 : l0.length ≤ c0) (h : spec_l7Case.f k l0 a1 a2 = some (r1, r2, r3, r4)) :
 Calls Try.prog 72 #[.slice A0 l0.length c0, .int .i64 a1, .int .i64 a2] w fun e w' => ∃ v0_ v1_ v2_ v3_ : Value, e = .returned (.agg #[v0_, v1_, v2_, v3_]) ∧ Kd.R (Kd.int .i64) 3 w' w.heap.size (fun k_ => some k_ ≠ (v1_ : Value).ownBlock ∧ some k_ ≠ (v2_ : Value).ownBlock ∧ some k_ ≠ (v3_ : Value).ownBlock) v0_ r1 ∧ Kd.R (Kd.int .i64) 3 w' w.heap.size (fun k_ => some k_ ≠ (v0_ : Value).ownBlock ∧ some k_ ≠ (v2_ : Value).ownBlock ∧ some k_ ≠ (v3_ : Value).ownBlock) v1_ r2 ∧ Kd.R (Kd.int .i64) 3 w' w.heap.size (fun k_ => some k_ ≠ (v0_ : Value).ownBlock ∧ some k_ ≠ (v1_ : Value).ownBlock ∧ some k_ ≠ (v3_ : Value).ownBlock) v2_ r3 ∧ Kd.R (Kd.int .i64) 3 w' w.heap.size (fun k_ => some k_ ≠ (v0_ : Value).ownBlock ∧ some k_ ≠ (v1_ : Value).ownBlock ∧ some k_ ≠ (v2_ : Value).ownBlock) v3_ r4 ∧ Below w.heap.size w w' := by
 have hu49 := Try.underlying49
 have HR0 := Aside0.mk hr0
 have HC0 := Aside0.mk hc0
 clear hr0 hc0
 have HB := Aside0.mk (Below.refl w.heap.size w)
 have H : (spec_l7Case.l0 k l0 a1 a2 0 ([] : List Int) ([] : List Int) ([] : List Int) ([] : List Int)) = some (r1, r2, r3, r4) := h
 clear h
 have H' := Aside0.mk H
 clear H
 go_enter Try.func72, Try.ntmps72
 go_wp2_with (first | ((with_reducible refine gate_dst (N := 6) rfl ?_); refine box_event ?hg (N := 6) ?hd (cs := #[.slice none 0 0, .slice none 0 0, .slice none 0 0, .slice none 0 0]) (t := 49) ?hr ?_; (case hd => rfl); (case hg => rfl); (case hr => first | (go_simp; done) | (go_simp; rfl)); intro gb1108 hg w4 hbox hb; have n0_ := Aside0.mk (below_step zH0 hb); have n1_ := Aside0.mk (hbox); have n2_ := Aside0.mk ((z6 : w.heap.size ≤ gb1108)); have n3_ := Aside0.mk ((z6 : w.heap.size ≤ gb1108)); clear HB; have HB := n0_; have BK1108 := n1_; have GW1108 := n2_; have GE1108 := n3_; clear n0_ n1_ n2_ n3_; clear hb hbox hg) | ((with_reducible refine gate_dst (N := 7) rfl ?_); refine box_event ?hg (N := 7) ?hd (cs := #[.slice none 0 0, .slice none 0 0, .slice none 0 0, .slice none 0 0]) (t := 49) ?hr ?_; (case hd => rfl); (case hg => rfl); (case hr => first | (go_simp; done) | (go_simp; rfl)); intro gb1109 hg w5 hbox hb; have n0_ := Aside0.mk (blk_below (g := gb1108) (o := .cells #[.slice none 0 0, .slice none 0 0, .slice none 0 0, .slice none 0 0] 49 (0, 0)) (zB BK1108.out) hb); have n1_ := Aside0.mk (below_step (zH1 GE1108.out) hb); have n2_ := Aside0.mk (hbox); have n3_ := Aside0.mk ((by rw [hg]; exact (below_size (zH1 GE1108.out)) : w.heap.size ≤ gb1109)); have n4_ := Aside0.mk ((by rw [hg]; exact (below_size (zH1 GE1108.out)) : w.heap.size ≤ gb1109)); have n5_ := Aside0.mk ((by rw [hg]; exact Nat.ne_of_lt (blk_lt (g := gb1108) (o := .cells #[.slice none 0 0, .slice none 0 0, .slice none 0 0, .slice none 0 0] 49 (0, 0)) (zB BK1108.out)) : gb1108 ≠ gb1109)); have n6_ := Aside0.mk ((by rw [hg]; exact Nat.ne_of_gt (blk_lt (g := gb1108) (o := .cells #[.slice none 0 0, .slice none 0 0, .slice none 0 0, .slice none 0 0] 49 (0, 0)) (zB BK1108.out)) : gb1109 ≠ gb1108)); clear BK1108; clear HB; have BK1108 := n0_; have HB := n1_; have BK1109 := n2_; have GW1109 := n3_; have GE1109 := n4_; have NB1108_1109 := n5_; have NB1109_1108 := n6_; clear n0_ n1_ n2_ n3_ n4_ n5_ n6_; clear hb hbox hg; have hnb6 := NB1109_1108.out; have hnc6 := NB1108_1109.out; have hcz7_0 : w5.cell? ⟨gb1109, 0, none⟩ = some (.slice none 0 0) := (blk_cell BK1109.out 0).trans rfl; have hcz7_1 : w5.cell? ⟨gb1109, 1, none⟩ = some (.slice none 0 0) := (blk_cell BK1109.out 1).trans rfl; have hcz7_2 : w5.cell? ⟨gb1109, 2, none⟩ = some (.slice none 0 0) := (blk_cell BK1109.out 2).trans rfl; have hcz7_3 : w5.cell? ⟨gb1109, 3, none⟩ = some (.slice none 0 0) := (blk_cell BK1109.out 3).trans rfl; have hfz7_0 := blk_frozen BK1109.out 0; have hfz7_1 := blk_frozen BK1109.out 1; have hfz7_2 := blk_frozen BK1109.out 2; have hfz7_3 := blk_frozen BK1109.out 3))
 go_loopg [8] k (fun kq v8 w' => ∃ (x8_1 : Int) (x1110000_1 : List Int) (x1110001_1 : List Int) (x1110002_1 : List Int) (x1110003_1 : List Int) (u1110000 : Value) (u1110001 : Value) (u1110002 : Value) (u1110003 : Value), v8 = .int .i64 x8_1 ∧ Aside0 (spec_l7Case.l0 kq l0 a1 a2 x8_1 x1110000_1 x1110001_1 x1110002_1 x1110003_1 = some (r1, r2, r3, r4)) ∧ Aside0 (kq ≤ k) ∧ Aside0 (Kd.R (Kd.int .i64) 3 w' w.heap.size (fun k_ => some k_ ≠ (u1110001 : Value).ownBlock ∧ some k_ ≠ (u1110002 : Value).ownBlock ∧ some k_ ≠ (u1110003 : Value).ownBlock) u1110000 x1110000_1) ∧ Aside0 (Kd.R (Kd.int .i64) 3 w' w.heap.size (fun k_ => some k_ ≠ (u1110000 : Value).ownBlock ∧ some k_ ≠ (u1110002 : Value).ownBlock ∧ some k_ ≠ (u1110003 : Value).ownBlock) u1110001 x1110001_1) ∧ Aside0 (Kd.R (Kd.int .i64) 3 w' w.heap.size (fun k_ => some k_ ≠ (u1110000 : Value).ownBlock ∧ some k_ ≠ (u1110001 : Value).ownBlock ∧ some k_ ≠ (u1110003 : Value).ownBlock) u1110002 x1110002_1) ∧ Aside0 (Kd.R (Kd.int .i64) 3 w' w.heap.size (fun k_ => some k_ ≠ (u1110000 : Value).ownBlock ∧ some k_ ≠ (u1110001 : Value).ownBlock ∧ some k_ ≠ (u1110002 : Value).ownBlock) u1110003 x1110003_1) ∧ Aside0 (w'.heap[gb1108]? = some (.cells #[(.slice none 0 0), (.slice none 0 0), (.slice none 0 0), (.slice none 0 0)] 49 (0, 0))) ∧ Aside0 (w'.heap[gb1109]? = some (.cells #[u1110000, u1110001, u1110002, u1110003] 49 (0, 0))) ∧ Aside0 (Below w.heap.size w w'))
 case atStart => exact ⟨(0), (([] : List Int)), (([] : List Int)), (([] : List Int)), (([] : List Int)), (.slice none 0 0), (.slice none 0 0), (.slice none 0 0), (.slice none 0 0), z3, H', ⟨Nat.le_refl _⟩, ⟨by first | exact Kd.R_nil _ _ _ _ _ | exact Kd.N_nil _ _ _ _ _ | exact Kd.V_nil _ _ _ _ _ | exact Kd.Q_nil _ _ _ _ _ | exact Kd.S_nil _ _ _ _ _⟩, ⟨by first | exact Kd.R_nil _ _ _ _ _ | exact Kd.N_nil _ _ _ _ _ | exact Kd.V_nil _ _ _ _ _ | exact Kd.Q_nil _ _ _ _ _ | exact Kd.S_nil _ _ _ _ _⟩, ⟨by first | exact Kd.R_nil _ _ _ _ _ | exact Kd.N_nil _ _ _ _ _ | exact Kd.V_nil _ _ _ _ _ | exact Kd.Q_nil _ _ _ _ _ | exact Kd.S_nil _ _ _ _ _⟩, ⟨by first | exact Kd.R_nil _ _ _ _ _ | exact Kd.N_nil _ _ _ _ _ | exact Kd.V_nil _ _ _ _ _ | exact Kd.Q_nil _ _ _ _ _ | exact Kd.S_nil _ _ _ _ _⟩, ⟨by (with_reducible repeat (first | refine blk_drewN ?_ _ | refine blk_drew ?_ | refine blk_alloc ?_ _)); refine blk_far ?_ NB1108_1109.out _; (with_reducible repeat (first | refine blk_drewN ?_ _ | refine blk_drew ?_ | refine blk_alloc ?_ _)); refine blk_far ?_ NB1108_1109.out _; (with_reducible repeat (first | refine blk_drewN ?_ _ | refine blk_drew ?_ | refine blk_alloc ?_ _)); refine blk_far ?_ NB1108_1109.out _; (with_reducible repeat (first | refine blk_drewN ?_ _ | refine blk_drew ?_ | refine blk_alloc ?_ _)); refine blk_far ?_ NB1108_1109.out _; (with_reducible repeat (first | refine blk_drewN ?_ _ | refine blk_drew ?_ | refine blk_alloc ?_ _)); exact BK1108.out⟩, ⟨by (with_reducible repeat (first | refine blk_drewN ?_ _ | refine blk_drew ?_ | refine blk_alloc ?_ _)); refine blk_put (cs := #[.slice none 0 0, .slice none 0 0, .slice none 0 0, .slice none 0 0]) ?_ 3 _ rfl; (with_reducible repeat (first | refine blk_drewN ?_ _ | refine blk_drew ?_ | refine blk_alloc ?_ _)); refine blk_put (cs := #[.slice none 0 0, .slice none 0 0, .slice none 0 0, .slice none 0 0]) ?_ 2 _ rfl; (with_reducible repeat (first | refine blk_drewN ?_ _ | refine blk_drew ?_ | refine blk_alloc ?_ _)); refine blk_put (cs := #[.slice none 0 0, .slice none 0 0, .slice none 0 0, .slice none 0 0]) ?_ 1 _ rfl; (with_reducible repeat (first | refine blk_drewN ?_ _ | refine blk_drew ?_ | refine blk_alloc ?_ _)); refine blk_put (cs := #[.slice none 0 0, .slice none 0 0, .slice none 0 0, .slice none 0 0]) ?_ 0 _ rfl; (with_reducible repeat (first | refine blk_drewN ?_ _ | refine blk_drew ?_ | refine blk_alloc ?_ _)); exact BK1109.out⟩, ⟨by repeat (first | (with_reducible first | exact HB.out | apply below_alloc | apply pw_below_drewN | apply below_drew1 | refine below_set ?_ GE1108.out | refine below_set ?_ GE1109.out) | exact HB.out)⟩⟩
 case round =>
  clear H'
  try clear p2
  try clear c6
  try clear c7
  try clear hcz7_0
  try clear hcz7_1
  try clear hcz7_2
  try clear hcz7_3
  try clear hfz7_0
  try clear hfz7_1
  try clear hfz7_2
  try clear hfz7_3
  obtain ⟨x8_1, x1110000_1, x1110001_1, x1110002_1, x1110003_1, u1110000, u1110001, u1110002, u1110003, rfl, HA, HK1, HO_1110000, HO_1110001, HO_1110002, HO_1110003, BK1108, BK1109, HB⟩ := hrel
  cases gk with
  | zero => exact absurd HA.out (by simp [spec_l7Case.l0])
  | succ k1 =>
   have H := HA.out
   clear HA
   simp only [spec_l7Case.l0] at H
   by_cases c8 : x8_1 < (l0.length : Int)
   · rw [if_pos c8] at H
     have c8b0 : decide (x8_1 < (l0.length : Int)) = true := decide_eq_true c8
     clear c8
     by_cases c9 : 0 ≤ x8_1
     · rw [if_pos c9] at H
       have c9b0 : decide (0 ≤ x8_1) = true := decide_eq_true c9
       clear c9
       by_cases c10 : x1110000_1.length < 17592186044416
       · rw [if_pos c10] at H
         have LMc10 := Aside0.mk c10
         clear c10
         obtain ⟨y1111, hy1111⟩ : ∃ y_ : List Int, y_ = (x1110000_1 ++ [rd l0 x8_1]) := ⟨_, rfl⟩
         replace H : (if x1110001_1.length < 17592186044416 then (if x1110002_1.length < 17592186044416 then (if x1110003_1.length < 17592186044416 then (spec_l7Case.l0 k1 l0 a1 a2 (wrap64 (x8_1 + 1)) y1111 (x1110001_1 ++ [a1]) (x1110002_1 ++ [0]) (x1110003_1 ++ [a2])) else (none)) else (none)) else (none)) = some (r1, r2, r3, r4) := by first | (rw [hy1111]; with_reducible exact H) | (have H2_ := (Option.bind_some _ _).symm.trans H; rw [hy1111]; with_reducible exact H2_) | (have H2_ := (Option.bind_some _ _).symm.trans H; with_reducible exact H2_) | with_reducible exact H | (rw [hy1111]; exact H) | exact H
         have Ny1111 := Aside0.mk hy1111
         clear hy1111
         by_cases c11 : x1110001_1.length < 17592186044416
         · rw [if_pos c11] at H
           have LMc11 := Aside0.mk c11
           clear c11
           obtain ⟨y1114, hy1114⟩ : ∃ y_ : List Int, y_ = (x1110001_1 ++ [a1]) := ⟨_, rfl⟩
           replace H : (if x1110002_1.length < 17592186044416 then (if x1110003_1.length < 17592186044416 then (spec_l7Case.l0 k1 l0 a1 a2 (wrap64 (x8_1 + 1)) y1111 y1114 (x1110002_1 ++ [0]) (x1110003_1 ++ [a2])) else (none)) else (none)) = some (r1, r2, r3, r4) := by first | (rw [hy1114]; with_reducible exact H) | (have H2_ := (Option.bind_some _ _).symm.trans H; rw [hy1114]; with_reducible exact H2_) | (have H2_ := (Option.bind_some _ _).symm.trans H; with_reducible exact H2_) | with_reducible exact H | (rw [hy1114]; exact H) | exact H
           have Ny1114 := Aside0.mk hy1114
           clear hy1114
           by_cases c12 : x1110002_1.length < 17592186044416
           · rw [if_pos c12] at H
             have LMc12 := Aside0.mk c12
             clear c12
             obtain ⟨y1117, hy1117⟩ : ∃ y_ : List Int, y_ = (x1110002_1 ++ [0]) := ⟨_, rfl⟩
             replace H : (if x1110003_1.length < 17592186044416 then (spec_l7Case.l0 k1 l0 a1 a2 (wrap64 (x8_1 + 1)) y1111 y1114 y1117 (x1110003_1 ++ [a2])) else (none)) = some (r1, r2, r3, r4) := by first | (rw [hy1117]; with_reducible exact H) | (have H2_ := (Option.bind_some _ _).symm.trans H; rw [hy1117]; with_reducible exact H2_) | (have H2_ := (Option.bind_some _ _).symm.trans H; with_reducible exact H2_) | with_reducible exact H | (rw [hy1117]; exact H) | exact H
             have Ny1117 := Aside0.mk hy1117
             clear hy1117
             by_cases c13 : x1110003_1.length < 17592186044416
             · rw [if_pos c13] at H
               have LMc13 := Aside0.mk c13
               clear c13
               obtain ⟨y1120, hy1120⟩ : ∃ y_ : List Int, y_ = (x1110003_1 ++ [a2]) := ⟨_, rfl⟩
               replace H : (spec_l7Case.l0 k1 l0 a1 a2 (wrap64 (x8_1 + 1)) y1111 y1114 y1117 y1120) = some (r1, r2, r3, r4) := by first | (rw [hy1120]; with_reducible exact H) | (have H2_ := (Option.bind_some _ _).symm.trans H; rw [hy1120]; with_reducible exact H2_) | (have H2_ := (Option.bind_some _ _).symm.trans H; with_reducible exact H2_) | with_reducible exact H | (rw [hy1120]; exact H) | exact H
               have Ny1120 := Aside0.mk hy1120
               clear hy1120
               have H' := Aside0.mk H
               clear H
               try go_wp2
               have n0_ := Aside0.mk (Kd.R_drew HO_1110000.out)
               have n1_ := Aside0.mk (Kd.R_drew HO_1110001.out)
               have n2_ := Aside0.mk (Kd.R_drew HO_1110002.out)
               have n3_ := Aside0.mk (Kd.R_drew HO_1110003.out)
               have n4_ := Aside0.mk (blk_drew BK1108.out)
               have n5_ := Aside0.mk (blk_drew BK1109.out)
               have n6_ := Aside0.mk (below_drew1 HB.out)
               clear HO_1110000
               clear HO_1110001
               clear HO_1110002
               clear HO_1110003
               clear BK1108
               clear BK1109
               clear HB
               have HO_1110000 := n0_
               have HO_1110001 := n1_
               have HO_1110002 := n2_
               have HO_1110003 := n3_
               have BK1108 := n4_
               have BK1109 := n5_
               have HB := n6_
               clear n0_ n1_ n2_ n3_ n4_ n5_ n6_
               have p1110 : 0 ≤ (x8_1 : Int) := of_decide_eq_true z2
               have q1110 : x8_1 < (l0.length : Int) := of_decide_eq_true z2
               obtain ⟨ad1110, e1110, hx1110_0⟩ := Kd.at_int HR0.out x8_1 p1110 q1110
               have hw1110_0 := hx1110_0
               cases e1110
               replace hx1110_0 := (HB.out.cell (World.block_lt_of_cell? w _ hx1110_0)).trans hx1110_0
               replace p1110 := eq_true p1110
               replace q1110 := eq_true q1110
               refine start_ (n := 10) (S := fun w' => w'.cell? ⟨gb1109, 0, none⟩ = some (u1110000) ∧ w'.cell? ⟨gb1109, 1, none⟩ = some (u1110001) ∧ w'.cell? ⟨gb1109, 2, none⟩ = some (u1110002) ∧ w'.cell? ⟨gb1109, 3, none⟩ = some (u1110003) ∧ w'.cell? (ad1110.add (x8_1).toNat) = some (.int .i64 (rd l0 x8_1))) (ds := [9]) #[false, false, false, false, false, false, false, false, false, false] (by kernel_rfl) rfl rfl ⟨(blk_cell BK1109.out 0).trans rfl, (blk_cell BK1109.out 1).trans rfl, (blk_cell BK1109.out 2).trans rfl, (blk_cell BK1109.out 3).trans rfl, ((HB.out.cell (World.block_lt_of_cell? w _ hw1110_0)).trans hw1110_0)⟩ (fun hHeld => ?_); refine with_tabW spec_l7Case.tab5 spec_l7Case.bits5 (fun HT_ HW_ => ?_)
               generalize wr.drew = w14 at HO_1110000 HO_1110001 HO_1110002 HO_1110003 BK1108 BK1109 HB hx1110_0 hHeld ⊢
               refine zP (i := 0) (N := some 16) #[true, false, false, false, false, false, false, false, false, false] (any_of HT_.out (by kernel_rfl)) ?_
               refine zP (i := 2) (N := some 18) #[true, false, true, false, false, false, false, false, false, false] (any_of HT_.out (by kernel_rfl)) ?_
               refine zP (i := 3) (N := some 19) #[true, false, true, true, false, false, false, false, false, false] (any_of HT_.out (by kernel_rfl)) ?_
               refine zP (i := 4) (N := some 20) #[true, false, true, true, true, false, false, false, false, false] (any_of HT_.out (by kernel_rfl)) ?_
               refine take_ (i := 1) (N := some 17) (v := ?_) (a' := ?_) #[true, true, true, true, true, false, false, false, false, false] rfl rfl (take_ofW HT_.out HW_.out (by kernel_rfl)) (fun _ _ _ h => h) (Or.inl ⟨by rfl, ?_⟩) hHeld ?_ ?_
               rotate_left
               · rintro w' ⟨s0, s1, s2, s3, s4⟩
                 go_simp
                 with_reducible rfl
               rotate_left
               · simp only [Act.put, List.setIfInBounds_toArray, List.set_cons_zero, List.set_cons_succ, i64_w, i32_w]
                 rfl
               refine take_ (i := 5) (N := some 21) (v := ?_) (a' := ?_) #[true, true, true, true, true, true, false, false, false, false] rfl rfl (take_ofW HT_.out HW_.out (by kernel_rfl)) (fun _ _ _ h => h) (Or.inl ⟨by rfl, ?_⟩) hHeld ?_ ?_
               rotate_left
               · rintro w' ⟨s0, s1, s2, s3, s4⟩
                 go_simp
                 with_reducible rfl
               rotate_left
               · simp only [Act.put, List.setIfInBounds_toArray, List.set_cons_zero, List.set_cons_succ, i64_w, i32_w]
                 rfl
               refine one_ (i := 6) (N := some 22) #[true, true, true, true, true, true, true, false, false, false] rfl rfl (one_of HT_.out (by kernel_rfl)) (by decide) (fun K hK => ?_)
               refine value_ (w1 := ?_) (v := ?_) (by rfl) rfl ?_ ?_
               rotate_left 2
               · go_simp
                 constructor
                 · rfl
                 · rfl
               refine hK.out _ _ ⟨(blk_cell (blk_alloc BK1109.out _) 0).trans rfl, (blk_cell (blk_alloc BK1109.out _) 1).trans rfl, (blk_cell (blk_alloc BK1109.out _) 2).trans rfl, (blk_cell (blk_alloc BK1109.out _) 3).trans rfl, (World.cell?_alloc_lt _ _ _ (World.block_lt_of_cell? _ _ (((HB.out.cell (World.block_lt_of_cell? w _ hw1110_0)).trans hw1110_0)))).trans (((HB.out.cell (World.block_lt_of_cell? w _ hw1110_0)).trans hw1110_0))⟩ (fun hHeld => ?_)
               clear hK K
               refine norm_ (a' := ?_) ?_ ?_
               rotate_left
               · show Act.put _ (some 22) _ = _
                 simp only [Act.put, List.setIfInBounds_toArray, List.set_cons_zero, List.set_cons_succ, i64_w, i32_w]
                 rfl
               refine one_ (i := 7) (N := some 23) #[true, true, true, true, true, true, true, true, false, false] rfl rfl (one_of HT_.out (by kernel_rfl)) (by decide) (fun K hK => ?_)
               refine Kd.R_append_step (Kd.int .i64) (w0 := w) w.heap.size (by rfl) (.tmp 17) (.tmp 22) 24 3 (.int .i64 0) 8 rfl Try.underlying24 info3 rfl (by decide) (by omega) u1110000 x1110000_1 (rd l0 x8_1) [.int .i64 (rd l0 x8_1)] (fun k_ => some k_ ≠ (u1110001 : Value).ownBlock ∧ some k_ ≠ (u1110002 : Value).ownBlock ∧ some k_ ≠ (u1110003 : Value).ownBlock) (fun _ => False) rfl rfl ?aP (fun _ hk => hk.elim) ?aF ?aO ?aB ?aS ?aL ?_
               (case aP => exact rfl)
               (case aB => exact (zH2 GE1108.out GE1109.out))
               (case aF => exact (fun k_ hk => ⟨Kd.fresh' (Kd.R_lt (zR HO_1110001.out)) k_ hk, Kd.fresh' (Kd.R_lt (zR HO_1110002.out)) k_ hk, Kd.fresh' (Kd.R_lt (zR HO_1110003.out)) k_ hk⟩))
               (case aO => exact (zR HO_1110000.out))
               (case aS => exact (below_size (zH2 GE1108.out GE1109.out)))
               (case aL => have := LMc10.out; omega)
               intro v1112 w15 ho hb hg hat
               rw [← Ny1111.out] at ho
               have n0_ := Aside0.mk (Kd.R_after (ok := (fun k_ => some k_ ≠ (u1110002 : Value).ownBlock ∧ some k_ ≠ (u1110003 : Value).ownBlock)) (by (with_reducible repeat (first | apply Kd.R_alloc | apply Kd.R_drewN | apply Kd.R_drew)); exact Kd.R_mono HO_1110001.out (fun _ hk => ⟨⟨hk.2.1, hk.2.2⟩, hk.1⟩)) hg hat)
               have n1_ := Aside0.mk (Kd.R_after (ok := (fun k_ => some k_ ≠ (u1110001 : Value).ownBlock ∧ some k_ ≠ (u1110003 : Value).ownBlock)) (by (with_reducible repeat (first | apply Kd.R_alloc | apply Kd.R_drewN | apply Kd.R_drew)); exact Kd.R_mono HO_1110002.out (fun _ hk => ⟨⟨hk.2.1, hk.2.2⟩, hk.1⟩)) hg hat)
               have n2_ := Aside0.mk (Kd.R_after (ok := (fun k_ => some k_ ≠ (u1110001 : Value).ownBlock ∧ some k_ ≠ (u1110002 : Value).ownBlock)) (by (with_reducible repeat (first | apply Kd.R_alloc | apply Kd.R_drewN | apply Kd.R_drew)); exact Kd.R_mono HO_1110003.out (fun _ hk => ⟨⟨hk.2.1, hk.2.2⟩, hk.1⟩)) hg hat)
               have n3_ := Aside0.mk (blk_grown (g := gb1108) (o := .cells #[.slice none 0 0, .slice none 0 0, .slice none 0 0, .slice none 0 0] 49 (0, 0)) (zB BK1108.out) hg (Kd.R_ne HO_1110000.out BK1108.out (by decide)))
               have n4_ := Aside0.mk (blk_grown (g := gb1109) (o := .cells #[u1110000, u1110001, u1110002, u1110003] 49 (0, 0)) (zB BK1109.out) hg (Kd.R_ne HO_1110000.out BK1109.out (by decide)))
               have n5_ := Aside0.mk (hb)
               have n6_ := Aside0.mk (ho)
               clear HO_1110001
               clear HO_1110002
               clear HO_1110003
               clear BK1108
               clear BK1109
               clear HB
               clear HO_1110000
               have HO_1110001 := n0_
               have HO_1110002 := n1_
               have HO_1110003 := n2_
               have BK1108 := n3_
               have BK1109 := n4_
               have HB := n5_
               have HO1113 := n6_
               clear n0_ n1_ n2_ n3_ n4_ n5_ n6_
               clear ho hb hg hat
               obtain ⟨Ao16, co16, eo16⟩ := Kd.R_slice HO1113.out
               (first | subst eo16 | (injection eo16 with f1_ f2_ f3_; have f4_ := f1_.symm; have f5_ := f3_.symm; clear f1_ f2_ f3_; subst f4_; subst f5_))
               refine hK.out _ _ ⟨(blk_cell BK1109.out 0).trans rfl, (blk_cell BK1109.out 1).trans rfl, (blk_cell BK1109.out 2).trans rfl, (blk_cell BK1109.out 3).trans rfl, ((HB.out.cell (World.block_lt_of_cell? w _ hw1110_0)).trans hw1110_0)⟩ (fun hHeld => ?_)
               clear hK K
               refine norm_ (a' := ?_) ?_ ?_
               rotate_left
               · show Act.put _ (some 23) _ = _
                 simp only [Act.put, List.setIfInBounds_toArray, List.set_cons_zero, List.set_cons_succ, i64_w, i32_w]
                 rfl
               refine zP (i := 8) (N := some 24) #[true, true, true, true, true, true, true, true, true, false] (any_of HT_.out (by kernel_rfl)) ?_
               refine last_ (i := 9) (N := none) #[true, true, true, true, true, true, true, true, true, true] rfl rfl (one_of HT_.out (by kernel_rfl)) (by decide) (fun K hK => ?_)
               have hs17 : w15.cell? ⟨gb1109, 0, none⟩ = some (u1110000) := (blk_cell BK1109.out 0).trans rfl
               have hfs17 := blk_frozen BK1109.out 0
               have hns17_0 := NB1108_1109.out
               have hms17_0 := NB1109_1108.out
               refine skip_ (w1 := ?_) (by rfl) rfl ?_ ?_
               rotate_left
               · go_simp
                 rfl
               refine hK.out _ _ ?_
               clear hK K
               refine done_ (done_of HT_.out (by kernel_rfl)) ?_
               have hnb18 := NB1109_1108.out
               have hnc18 := NB1108_1109.out
               have hcz19_0 : w15.cell? ⟨gb1109, 0, none⟩ = some (u1110000) := (blk_cell BK1109.out 0).trans rfl
               have hcz19_1 : w15.cell? ⟨gb1109, 1, none⟩ = some (u1110001) := (blk_cell BK1109.out 1).trans rfl
               have hcz19_2 : w15.cell? ⟨gb1109, 2, none⟩ = some (u1110002) := (blk_cell BK1109.out 2).trans rfl
               have hcz19_3 : w15.cell? ⟨gb1109, 3, none⟩ = some (u1110003) := (blk_cell BK1109.out 3).trans rfl
               have hfz19_0 := blk_frozen BK1109.out 0
               have hfz19_1 := blk_frozen BK1109.out 1
               have hfz19_2 := blk_frozen BK1109.out 2
               have hfz19_3 := blk_frozen BK1109.out 3
               try go_wp2_with (first | ((with_reducible refine gate_builtin (b := .append) (xs := #[.tmp 26, .tmp 28]) rfl ?_); at_builtin; refine Kd.R_append (Kd.int .i64) (w0 := w) w.heap.size rfl (.tmp 26) (.tmp 28) 24 3 (.int .i64 0) 8 rfl Try.underlying24 info3 rfl (by decide) (by omega) u1110001 x1110001_1 a1 [.int .i64 a1] (fun k_ => some k_ ≠ (u1110002 : Value).ownBlock ∧ some k_ ≠ (u1110003 : Value).ownBlock ∧ some k_ ≠ (.slice Ao16 y1111.length co16 : Value).ownBlock) (fun _ => False) rfl (by first | (go_simp; done) | (go_simp; rfl)) ?aP (fun _ hk => hk.elim) ?aF ?aO ?aB ?aS ?aL ?_; (case aP => exact rfl); (case aB => exact (zH2 GE1108.out GE1109.out)); (case aF => exact (fun k_ hk => ⟨Kd.fresh' (Kd.R_lt (by (with_reducible repeat (first | apply Kd.R_alloc | apply Kd.R_drewN | apply Kd.R_drew)); exact (Kd.R_mono (Kd.R_far (p := ⟨gb1109, 0, none⟩) (Kd.R_types HO_1110002.out BK1109.out (by decide)) (fun _ hk => hk.2) (.slice Ao16 y1111.length co16)) (fun _ h_ => h_.1)))) k_ hk, Kd.fresh' (Kd.R_lt (by (with_reducible repeat (first | apply Kd.R_alloc | apply Kd.R_drewN | apply Kd.R_drew)); exact (Kd.R_mono (Kd.R_far (p := ⟨gb1109, 0, none⟩) (Kd.R_types HO_1110003.out BK1109.out (by decide)) (fun _ hk => hk.2) (.slice Ao16 y1111.length co16)) (fun _ h_ => h_.1)))) k_ hk, Kd.fresh' (Kd.R_lt (by (with_reducible repeat (first | apply Kd.R_alloc | apply Kd.R_drewN | apply Kd.R_drew)); exact (Kd.R_mono (Kd.R_far (p := ⟨gb1109, 0, none⟩) (Kd.R_types HO1113.out BK1109.out (by decide)) (fun _ hk => hk.2) (.slice Ao16 y1111.length co16)) (fun _ h_ => h_.1)))) k_ hk⟩)); (case aO => exact (by (with_reducible repeat (first | apply Kd.R_alloc | apply Kd.R_drewN | apply Kd.R_drew)); exact Kd.R_mono (Kd.R_far (p := ⟨gb1109, 0, none⟩) (Kd.R_types HO_1110001.out BK1109.out (by decide)) (fun _ hk => hk.2) (.slice Ao16 y1111.length co16)) (fun _ hk => ⟨hk.1.1.1, ⟨hk.1.1.2, hk.1.2⟩⟩))); (case aS => exact (below_size (zH2 GE1108.out GE1109.out))); (case aL => have := LMc11.out; omega); intro v1115 w20 ho hb hg hat; rw [← Ny1114.out] at ho; have n0_ := Aside0.mk (Kd.R_after (ok := (fun k_ => some k_ ≠ (u1110003 : Value).ownBlock ∧ some k_ ≠ (.slice Ao16 y1111.length co16 : Value).ownBlock)) (by (with_reducible repeat (first | apply Kd.R_alloc | apply Kd.R_drewN | apply Kd.R_drew)); exact Kd.R_mono (Kd.R_far (p := ⟨gb1109, 0, none⟩) (Kd.R_types HO_1110002.out BK1109.out (by decide)) (fun _ hk => hk.2) (.slice Ao16 y1111.length co16)) (fun _ hk => ⟨⟨hk.1.1.2, hk.1.2⟩, hk.1.1.1⟩)) hg hat); have n1_ := Aside0.mk (Kd.R_after (ok := (fun k_ => some k_ ≠ (u1110002 : Value).ownBlock ∧ some k_ ≠ (.slice Ao16 y1111.length co16 : Value).ownBlock)) (by (with_reducible repeat (first | apply Kd.R_alloc | apply Kd.R_drewN | apply Kd.R_drew)); exact Kd.R_mono (Kd.R_far (p := ⟨gb1109, 0, none⟩) (Kd.R_types HO_1110003.out BK1109.out (by decide)) (fun _ hk => hk.2) (.slice Ao16 y1111.length co16)) (fun _ hk => ⟨⟨hk.1.1.2, hk.1.2⟩, hk.1.1.1⟩)) hg hat); have n2_ := Aside0.mk (blk_grown (g := gb1108) (o := .cells #[.slice none 0 0, .slice none 0 0, .slice none 0 0, .slice none 0 0] 49 (0, 0)) z28 hg (Kd.R_ne HO_1110001.out BK1108.out (by decide))); have n3_ := Aside0.mk (blk_grown (g := gb1109) (o := .cells #[.slice Ao16 y1111.length co16, u1110001, u1110002, u1110003] 49 (0, 0)) (by (with_reducible repeat (first | refine blk_drewN ?_ _ | refine blk_drew ?_ | refine blk_alloc ?_ _)); refine blk_put (cs := #[u1110000, u1110001, u1110002, u1110003]) ?_ 0 _ rfl; (with_reducible repeat (first | refine blk_drewN ?_ _ | refine blk_drew ?_ | refine blk_alloc ?_ _)); exact BK1109.out) hg (Kd.R_ne HO_1110001.out BK1109.out (by decide))); have n4_ := Aside0.mk (Kd.R_after (ok := (fun k_ => some k_ ≠ (u1110002 : Value).ownBlock ∧ some k_ ≠ (u1110003 : Value).ownBlock)) (by (with_reducible repeat (first | apply Kd.R_alloc | apply Kd.R_drewN | apply Kd.R_drew)); exact Kd.R_mono (Kd.R_far (p := ⟨gb1109, 0, none⟩) (Kd.R_types HO1113.out BK1109.out (by decide)) (fun _ hk => hk.2) (.slice Ao16 y1111.length co16)) (fun _ hk => ⟨⟨hk.1.2.1, hk.1.2.2⟩, hk.1.1⟩)) hg hat); have n5_ := Aside0.mk (hb); have n6_ := Aside0.mk (ho); clear HO_1110002; clear HO_1110003; clear BK1108; clear BK1109; clear HO1113; clear HB; clear HO_1110001; have HO_1110002 := n0_; have HO_1110003 := n1_; have BK1108 := n2_; have BK1109 := n3_; have HO1113 := n4_; have HB := n5_; have HO1116 := n6_; clear n0_ n1_ n2_ n3_ n4_ n5_ n6_; clear ho hb hg hat; obtain ⟨Ao21, co21, eo21⟩ := Kd.R_slice HO1116.out; subst eo21; have hcz22_0 : w20.cell? ⟨gb1109, 0, none⟩ = some (.slice Ao16 y1111.length co16) := (blk_cell BK1109.out 0).trans rfl; have hcz22_1 : w20.cell? ⟨gb1109, 1, none⟩ = some (u1110001) := (blk_cell BK1109.out 1).trans rfl; have hcz22_2 : w20.cell? ⟨gb1109, 2, none⟩ = some (u1110002) := (blk_cell BK1109.out 2).trans rfl; have hcz22_3 : w20.cell? ⟨gb1109, 3, none⟩ = some (u1110003) := (blk_cell BK1109.out 3).trans rfl; have hfz22_0 := blk_frozen BK1109.out 0; have hfz22_1 := blk_frozen BK1109.out 1; have hfz22_2 := blk_frozen BK1109.out 2; have hfz22_3 := blk_frozen BK1109.out 3) | ((with_reducible refine gate_builtin (b := .append) (xs := #[.tmp 32, .tmp 33]) rfl ?_); at_builtin; refine Kd.R_append (Kd.int .i64) (w0 := w) w.heap.size rfl (.tmp 32) (.tmp 33) 24 3 (.int .i64 0) 8 rfl Try.underlying24 info3 rfl (by decide) (by omega) u1110002 x1110002_1 0 [.int .i64 0] (fun k_ => some k_ ≠ (u1110003 : Value).ownBlock ∧ some k_ ≠ (.slice Ao16 y1111.length co16 : Value).ownBlock ∧ some k_ ≠ (.slice Ao21 y1114.length co21 : Value).ownBlock) (fun _ => False) rfl (by first | (go_simp; done) | (go_simp; rfl)) ?aP (fun _ hk => hk.elim) ?aF ?aO ?aB ?aS ?aL ?_; (case aP => exact rfl); (case aB => exact (zH2 GE1108.out GE1109.out)); (case aF => exact (fun k_ hk => ⟨Kd.fresh' (Kd.R_lt (by (with_reducible repeat (first | apply Kd.R_alloc | apply Kd.R_drewN | apply Kd.R_drew)); exact (Kd.R_mono (Kd.R_far (p := ⟨gb1109, 1, none⟩) (Kd.R_types HO_1110003.out BK1109.out (by decide)) (fun _ hk => hk.2) (.slice Ao21 y1114.length co21)) (fun _ h_ => h_.1)))) k_ hk, Kd.fresh' (Kd.R_lt (by (with_reducible repeat (first | apply Kd.R_alloc | apply Kd.R_drewN | apply Kd.R_drew)); exact (Kd.R_mono (Kd.R_far (p := ⟨gb1109, 1, none⟩) (Kd.R_types HO1113.out BK1109.out (by decide)) (fun _ hk => hk.2) (.slice Ao21 y1114.length co21)) (fun _ h_ => h_.1)))) k_ hk, Kd.fresh' (Kd.R_lt (by (with_reducible repeat (first | apply Kd.R_alloc | apply Kd.R_drewN | apply Kd.R_drew)); exact (Kd.R_mono (Kd.R_far (p := ⟨gb1109, 1, none⟩) (Kd.R_types HO1116.out BK1109.out (by decide)) (fun _ hk => hk.2) (.slice Ao21 y1114.length co21)) (fun _ h_ => h_.1)))) k_ hk⟩)); (case aO => exact (by (with_reducible repeat (first | apply Kd.R_alloc | apply Kd.R_drewN | apply Kd.R_drew)); exact Kd.R_mono (Kd.R_far (p := ⟨gb1109, 1, none⟩) (Kd.R_types HO_1110002.out BK1109.out (by decide)) (fun _ hk => hk.2) (.slice Ao21 y1114.length co21)) (fun _ hk => ⟨hk.1.1.1, ⟨hk.1.1.2, hk.1.2⟩⟩))); (case aS => exact (below_size (zH2 GE1108.out GE1109.out))); (case aL => have := LMc12.out; omega); intro v1118 w23 ho hb hg hat; rw [← Ny1117.out] at ho; have n0_ := Aside0.mk (Kd.R_after (ok := (fun k_ => some k_ ≠ (.slice Ao16 y1111.length co16 : Value).ownBlock ∧ some k_ ≠ (.slice Ao21 y1114.length co21 : Value).ownBlock)) (by (with_reducible repeat (first | apply Kd.R_alloc | apply Kd.R_drewN | apply Kd.R_drew)); exact Kd.R_mono (Kd.R_far (p := ⟨gb1109, 1, none⟩) (Kd.R_types HO_1110003.out BK1109.out (by decide)) (fun _ hk => hk.2) (.slice Ao21 y1114.length co21)) (fun _ hk => ⟨⟨hk.1.1.2, hk.1.2⟩, hk.1.1.1⟩)) hg hat); have n1_ := Aside0.mk (blk_grown (g := gb1108) (o := .cells #[.slice none 0 0, .slice none 0 0, .slice none 0 0, .slice none 0 0] 49 (0, 0)) z28 hg (Kd.R_ne HO_1110002.out BK1108.out (by decide))); have n2_ := Aside0.mk (blk_grown (g := gb1109) (o := .cells #[.slice Ao16 y1111.length co16, .slice Ao21 y1114.length co21, u1110002, u1110003] 49 (0, 0)) (by (with_reducible repeat (first | refine blk_drewN ?_ _ | refine blk_drew ?_ | refine blk_alloc ?_ _)); refine blk_put (cs := #[.slice Ao16 y1111.length co16, u1110001, u1110002, u1110003]) ?_ 1 _ rfl; (with_reducible repeat (first | refine blk_drewN ?_ _ | refine blk_drew ?_ | refine blk_alloc ?_ _)); exact BK1109.out) hg (Kd.R_ne HO_1110002.out BK1109.out (by decide))); have n3_ := Aside0.mk (Kd.R_after (ok := (fun k_ => some k_ ≠ (u1110003 : Value).ownBlock ∧ some k_ ≠ (.slice Ao21 y1114.length co21 : Value).ownBlock)) (by (with_reducible repeat (first | apply Kd.R_alloc | apply Kd.R_drewN | apply Kd.R_drew)); exact Kd.R_mono (Kd.R_far (p := ⟨gb1109, 1, none⟩) (Kd.R_types HO1113.out BK1109.out (by decide)) (fun _ hk => hk.2) (.slice Ao21 y1114.length co21)) (fun _ hk => ⟨⟨hk.1.1.2, hk.1.2⟩, hk.1.1.1⟩)) hg hat); have n4_ := Aside0.mk (Kd.R_after (ok := (fun k_ => some k_ ≠ (u1110003 : Value).ownBlock ∧ some k_ ≠ (.slice Ao16 y1111.length co16 : Value).ownBlock)) (by (with_reducible repeat (first | apply Kd.R_alloc | apply Kd.R_drewN | apply Kd.R_drew)); exact Kd.R_mono (Kd.R_far (p := ⟨gb1109, 1, none⟩) (Kd.R_types HO1116.out BK1109.out (by decide)) (fun _ hk => hk.2) (.slice Ao21 y1114.length co21)) (fun _ hk => ⟨⟨hk.1.2.1, hk.1.2.2⟩, hk.1.1⟩)) hg hat); have n5_ := Aside0.mk (hb); have n6_ := Aside0.mk (ho); clear HO_1110003; clear BK1108; clear BK1109; clear HO1113; clear HO1116; clear HB; clear HO_1110002; have HO_1110003 := n0_; have BK1108 := n1_; have BK1109 := n2_; have HO1113 := n3_; have HO1116 := n4_; have HB := n5_; have HO1119 := n6_; clear n0_ n1_ n2_ n3_ n4_ n5_ n6_; clear ho hb hg hat; obtain ⟨Ao24, co24, eo24⟩ := Kd.R_slice HO1119.out; subst eo24; have hcz25_0 : w23.cell? ⟨gb1109, 0, none⟩ = some (.slice Ao16 y1111.length co16) := (blk_cell BK1109.out 0).trans rfl; have hcz25_1 : w23.cell? ⟨gb1109, 1, none⟩ = some (.slice Ao21 y1114.length co21) := (blk_cell BK1109.out 1).trans rfl; have hcz25_2 : w23.cell? ⟨gb1109, 2, none⟩ = some (u1110002) := (blk_cell BK1109.out 2).trans rfl; have hcz25_3 : w23.cell? ⟨gb1109, 3, none⟩ = some (u1110003) := (blk_cell BK1109.out 3).trans rfl; have hfz25_0 := blk_frozen BK1109.out 0; have hfz25_1 := blk_frozen BK1109.out 1; have hfz25_2 := blk_frozen BK1109.out 2; have hfz25_3 := blk_frozen BK1109.out 3) | ((with_reducible refine gate_builtin (b := .append) (xs := #[.tmp 37, .tmp 39]) rfl ?_); at_builtin; refine Kd.R_append (Kd.int .i64) (w0 := w) w.heap.size rfl (.tmp 37) (.tmp 39) 24 3 (.int .i64 0) 8 rfl Try.underlying24 info3 rfl (by decide) (by omega) u1110003 x1110003_1 a2 [.int .i64 a2] (fun k_ => some k_ ≠ (.slice Ao16 y1111.length co16 : Value).ownBlock ∧ some k_ ≠ (.slice Ao21 y1114.length co21 : Value).ownBlock ∧ some k_ ≠ (.slice Ao24 y1117.length co24 : Value).ownBlock) (fun _ => False) rfl (by first | (go_simp; done) | (go_simp; rfl)) ?aP (fun _ hk => hk.elim) ?aF ?aO ?aB ?aS ?aL ?_; (case aP => exact rfl); (case aB => exact (zH2 GE1108.out GE1109.out)); (case aF => exact (fun k_ hk => ⟨Kd.fresh' (Kd.R_lt (by (with_reducible repeat (first | apply Kd.R_alloc | apply Kd.R_drewN | apply Kd.R_drew)); exact (Kd.R_mono (Kd.R_far (p := ⟨gb1109, 2, none⟩) (Kd.R_types HO1113.out BK1109.out (by decide)) (fun _ hk => hk.2) (.slice Ao24 y1117.length co24)) (fun _ h_ => h_.1)))) k_ hk, Kd.fresh' (Kd.R_lt (by (with_reducible repeat (first | apply Kd.R_alloc | apply Kd.R_drewN | apply Kd.R_drew)); exact (Kd.R_mono (Kd.R_far (p := ⟨gb1109, 2, none⟩) (Kd.R_types HO1116.out BK1109.out (by decide)) (fun _ hk => hk.2) (.slice Ao24 y1117.length co24)) (fun _ h_ => h_.1)))) k_ hk, Kd.fresh' (Kd.R_lt (by (with_reducible repeat (first | apply Kd.R_alloc | apply Kd.R_drewN | apply Kd.R_drew)); exact (Kd.R_mono (Kd.R_far (p := ⟨gb1109, 2, none⟩) (Kd.R_types HO1119.out BK1109.out (by decide)) (fun _ hk => hk.2) (.slice Ao24 y1117.length co24)) (fun _ h_ => h_.1)))) k_ hk⟩)); (case aO => exact (by (with_reducible repeat (first | apply Kd.R_alloc | apply Kd.R_drewN | apply Kd.R_drew)); exact Kd.R_mono (Kd.R_far (p := ⟨gb1109, 2, none⟩) (Kd.R_types HO_1110003.out BK1109.out (by decide)) (fun _ hk => hk.2) (.slice Ao24 y1117.length co24)) (fun _ hk => ⟨hk.1.1.1, ⟨hk.1.1.2, hk.1.2⟩⟩))); (case aS => exact (below_size (zH2 GE1108.out GE1109.out))); (case aL => have := LMc13.out; omega); intro v1121 w26 ho hb hg hat; rw [← Ny1120.out] at ho; have n0_ := Aside0.mk (blk_grown (g := gb1108) (o := .cells #[.slice none 0 0, .slice none 0 0, .slice none 0 0, .slice none 0 0] 49 (0, 0)) z28 hg (Kd.R_ne HO_1110003.out BK1108.out (by decide))); have n1_ := Aside0.mk (blk_grown (g := gb1109) (o := .cells #[.slice Ao16 y1111.length co16, .slice Ao21 y1114.length co21, .slice Ao24 y1117.length co24, u1110003] 49 (0, 0)) (by (with_reducible repeat (first | refine blk_drewN ?_ _ | refine blk_drew ?_ | refine blk_alloc ?_ _)); refine blk_put (cs := #[.slice Ao16 y1111.length co16, .slice Ao21 y1114.length co21, u1110002, u1110003]) ?_ 2 _ rfl; (with_reducible repeat (first | refine blk_drewN ?_ _ | refine blk_drew ?_ | refine blk_alloc ?_ _)); exact BK1109.out) hg (Kd.R_ne HO_1110003.out BK1109.out (by decide))); have n2_ := Aside0.mk (Kd.R_after (ok := (fun k_ => some k_ ≠ (.slice Ao21 y1114.length co21 : Value).ownBlock ∧ some k_ ≠ (.slice Ao24 y1117.length co24 : Value).ownBlock)) (by (with_reducible repeat (first | apply Kd.R_alloc | apply Kd.R_drewN | apply Kd.R_drew)); exact Kd.R_mono (Kd.R_far (p := ⟨gb1109, 2, none⟩) (Kd.R_types HO1113.out BK1109.out (by decide)) (fun _ hk => hk.2) (.slice Ao24 y1117.length co24)) (fun _ hk => ⟨⟨hk.1.1.2, hk.1.2⟩, hk.1.1.1⟩)) hg hat); have n3_ := Aside0.mk (Kd.R_after (ok := (fun k_ => some k_ ≠ (.slice Ao16 y1111.length co16 : Value).ownBlock ∧ some k_ ≠ (.slice Ao24 y1117.length co24 : Value).ownBlock)) (by (with_reducible repeat (first | apply Kd.R_alloc | apply Kd.R_drewN | apply Kd.R_drew)); exact Kd.R_mono (Kd.R_far (p := ⟨gb1109, 2, none⟩) (Kd.R_types HO1116.out BK1109.out (by decide)) (fun _ hk => hk.2) (.slice Ao24 y1117.length co24)) (fun _ hk => ⟨⟨hk.1.1.2, hk.1.2⟩, hk.1.1.1⟩)) hg hat); have n4_ := Aside0.mk (Kd.R_after (ok := (fun k_ => some k_ ≠ (.slice Ao16 y1111.length co16 : Value).ownBlock ∧ some k_ ≠ (.slice Ao21 y1114.length co21 : Value).ownBlock)) (by (with_reducible repeat (first | apply Kd.R_alloc | apply Kd.R_drewN | apply Kd.R_drew)); exact Kd.R_mono (Kd.R_far (p := ⟨gb1109, 2, none⟩) (Kd.R_types HO1119.out BK1109.out (by decide)) (fun _ hk => hk.2) (.slice Ao24 y1117.length co24)) (fun _ hk => ⟨⟨hk.1.2.1, hk.1.2.2⟩, hk.1.1⟩)) hg hat); have n5_ := Aside0.mk (hb); have n6_ := Aside0.mk (ho); clear BK1108; clear BK1109; clear HO1113; clear HO1116; clear HO1119; clear HB; clear HO_1110003; have BK1108 := n0_; have BK1109 := n1_; have HO1113 := n2_; have HO1116 := n3_; have HO1119 := n4_; have HB := n5_; have HO1122 := n6_; clear n0_ n1_ n2_ n3_ n4_ n5_ n6_; clear ho hb hg hat; obtain ⟨Ao27, co27, eo27⟩ := Kd.R_slice HO1122.out; subst eo27; have hcz28_0 : w26.cell? ⟨gb1109, 0, none⟩ = some (.slice Ao16 y1111.length co16) := (blk_cell BK1109.out 0).trans rfl; have hcz28_1 : w26.cell? ⟨gb1109, 1, none⟩ = some (.slice Ao21 y1114.length co21) := (blk_cell BK1109.out 1).trans rfl; have hcz28_2 : w26.cell? ⟨gb1109, 2, none⟩ = some (.slice Ao24 y1117.length co24) := (blk_cell BK1109.out 2).trans rfl; have hcz28_3 : w26.cell? ⟨gb1109, 3, none⟩ = some (u1110003) := (blk_cell BK1109.out 3).trans rfl; have hfz28_0 := blk_frozen BK1109.out 0; have hfz28_1 := blk_frozen BK1109.out 1; have hfz28_2 := blk_frozen BK1109.out 2; have hfz28_3 := blk_frozen BK1109.out 3))
               go_roundg k1
               case measure => have := HK1.out; omega
               case rel => exact ⟨(wrap64 (x8_1 + 1)), (y1111), (y1114), (y1117), (y1120), (.slice Ao16 y1111.length co16), (.slice Ao21 y1114.length co21), (.slice Ao24 y1117.length co24), (.slice Ao27 y1120.length co27), z3, H', ⟨by have := HK1.out; omega⟩, ⟨by (with_reducible repeat (first | apply Kd.R_alloc | apply Kd.R_drewN | apply Kd.R_drew)); exact Kd.R_mono (Kd.R_far (p := ⟨gb1109, 3, none⟩) (Kd.R_types HO1113.out BK1109.out (by decide)) (fun _ hk => hk.2) (.slice Ao27 y1120.length co27)) (fun _ hk => ⟨hk.1.1.1, ⟨hk.1.1.2, hk.1.2⟩⟩)⟩, ⟨by (with_reducible repeat (first | apply Kd.R_alloc | apply Kd.R_drewN | apply Kd.R_drew)); exact Kd.R_mono (Kd.R_far (p := ⟨gb1109, 3, none⟩) (Kd.R_types HO1116.out BK1109.out (by decide)) (fun _ hk => hk.2) (.slice Ao27 y1120.length co27)) (fun _ hk => ⟨hk.1.1.1, ⟨hk.1.1.2, hk.1.2⟩⟩)⟩, ⟨by (with_reducible repeat (first | apply Kd.R_alloc | apply Kd.R_drewN | apply Kd.R_drew)); exact Kd.R_mono (Kd.R_far (p := ⟨gb1109, 3, none⟩) (Kd.R_types HO1119.out BK1109.out (by decide)) (fun _ hk => hk.2) (.slice Ao27 y1120.length co27)) (fun _ hk => ⟨hk.1.1.1, ⟨hk.1.1.2, hk.1.2⟩⟩)⟩, ⟨by (with_reducible repeat (first | apply Kd.R_alloc | apply Kd.R_drewN | apply Kd.R_drew)); exact Kd.R_mono (Kd.R_far (p := ⟨gb1109, 3, none⟩) (Kd.R_types HO1122.out BK1109.out (by decide)) (fun _ hk => hk.2) (.slice Ao27 y1120.length co27)) (fun _ hk => ⟨hk.1.1, ⟨hk.1.2.1, hk.1.2.2⟩⟩)⟩, ⟨by (with_reducible repeat (first | refine blk_drewN ?_ _ | refine blk_drew ?_ | refine blk_alloc ?_ _)); refine blk_far ?_ NB1108_1109.out _; (with_reducible repeat (first | refine blk_drewN ?_ _ | refine blk_drew ?_ | refine blk_alloc ?_ _)); exact BK1108.out⟩, ⟨by (with_reducible repeat (first | refine blk_drewN ?_ _ | refine blk_drew ?_ | refine blk_alloc ?_ _)); refine blk_put (cs := #[.slice Ao16 y1111.length co16, .slice Ao21 y1114.length co21, .slice Ao24 y1117.length co24, u1110003]) ?_ 3 _ rfl; (with_reducible repeat (first | refine blk_drewN ?_ _ | refine blk_drew ?_ | refine blk_alloc ?_ _)); exact BK1109.out⟩, ⟨by repeat (first | (with_reducible first | exact HB.out | apply below_alloc | apply pw_below_drewN | apply below_drew1 | refine below_set ?_ GE1108.out | refine below_set ?_ GE1109.out) | exact HB.out)⟩⟩
             · rw [if_neg c13] at H
               exact absurd H (by simp)
           · rw [if_neg c12] at H
             exact absurd H (by simp)
         · rw [if_neg c11] at H
           exact absurd H (by simp)
       · rw [if_neg c10] at H
         exact absurd H (by simp)
     · rw [if_neg c9] at H
       exact absurd H (by simp)
   · rw [if_neg c8] at H
     have c8b0 : decide (x8_1 < (l0.length : Int)) = false := decide_eq_false c8
     clear c8
     simp only [Option.some.injEq, Prod.mk.injEq] at H
     obtain ⟨rfl, rfl, rfl, rfl⟩ := H
     have hnb29 := NB1109_1108.out
     have hnc29 := NB1108_1109.out
     have hcz30_0 : wr.cell? ⟨gb1109, 0, none⟩ = some (u1110000) := (blk_cell BK1109.out 0).trans rfl
     have hcz30_1 : wr.cell? ⟨gb1109, 1, none⟩ = some (u1110001) := (blk_cell BK1109.out 1).trans rfl
     have hcz30_2 : wr.cell? ⟨gb1109, 2, none⟩ = some (u1110002) := (blk_cell BK1109.out 2).trans rfl
     have hcz30_3 : wr.cell? ⟨gb1109, 3, none⟩ = some (u1110003) := (blk_cell BK1109.out 3).trans rfl
     have hfz30_0 := blk_frozen BK1109.out 0
     have hfz30_1 := blk_frozen BK1109.out 1
     have hfz30_2 := blk_frozen BK1109.out 2
     have hfz30_3 := blk_frozen BK1109.out 3
     obtain ⟨Ao31, co31, eo31⟩ := Kd.R_slice HO_1110000.out
     subst eo31
     have hcz32_0 : wr.cell? ⟨gb1108, 0, none⟩ = some (.slice none 0 0) := (blk_cell BK1108.out 0).trans rfl
     have hcz32_1 : wr.cell? ⟨gb1108, 1, none⟩ = some (.slice none 0 0) := (blk_cell BK1108.out 1).trans rfl
     have hcz32_2 : wr.cell? ⟨gb1108, 2, none⟩ = some (.slice none 0 0) := (blk_cell BK1108.out 2).trans rfl
     have hcz32_3 : wr.cell? ⟨gb1108, 3, none⟩ = some (.slice none 0 0) := (blk_cell BK1108.out 3).trans rfl
     have hfz32_0 := blk_frozen BK1108.out 0
     have hfz32_1 := blk_frozen BK1108.out 1
     have hfz32_2 := blk_frozen BK1108.out 2
     have hfz32_3 := blk_frozen BK1108.out 3
     obtain ⟨Ao33, co33, eo33⟩ := Kd.R_slice HO_1110001.out
     subst eo33
     obtain ⟨Ao34, co34, eo34⟩ := Kd.R_slice HO_1110002.out
     subst eo34
     obtain ⟨Ao35, co35, eo35⟩ := Kd.R_slice HO_1110003.out
     subst eo35
     go_wp2
     refine bodyPost_ret (results_cell_row rfl _ _ gb1108 49 #[.slice Ao31 x1110000_1.length co31, .slice Ao33 x1110001_1.length co33, .slice Ao34 x1110002_1.length co34, .slice Ao35 x1110003_1.length co35] (0, 0) _ rfl (by (with_reducible repeat (first | refine blk_drewN ?_ _ | refine blk_drew ?_ | refine blk_alloc ?_ _)); refine blk_put (cs := #[.slice Ao31 x1110000_1.length co31, .slice Ao33 x1110001_1.length co33, .slice Ao34 x1110002_1.length co34, .slice none 0 0]) ?_ 3 _ rfl; (with_reducible repeat (first | refine blk_drewN ?_ _ | refine blk_drew ?_ | refine blk_alloc ?_ _)); refine blk_put (cs := #[.slice Ao31 x1110000_1.length co31, .slice Ao33 x1110001_1.length co33, .slice none 0 0, .slice none 0 0]) ?_ 2 _ rfl; (with_reducible repeat (first | refine blk_drewN ?_ _ | refine blk_drew ?_ | refine blk_alloc ?_ _)); refine blk_put (cs := #[.slice Ao31 x1110000_1.length co31, .slice none 0 0, .slice none 0 0, .slice none 0 0]) ?_ 1 _ rfl; (with_reducible repeat (first | refine blk_drewN ?_ _ | refine blk_drew ?_ | refine blk_alloc ?_ _)); refine blk_put (cs := #[.slice none 0 0, .slice none 0 0, .slice none 0 0, .slice none 0 0]) ?_ 0 _ rfl; (with_reducible repeat (first | refine blk_drewN ?_ _ | refine blk_drew ?_ | refine blk_alloc ?_ _)); exact BK1108.out) Try.underlying49 rfl (by kernel_rfl)) rfl ?_
     exact ⟨_, _, _, _, by first | rfl | (simp [errW_none, errW_some] <;> rfl) | (simp [*, errW_none, errW_some] <;> rfl), by (with_reducible repeat (first | apply Kd.R_alloc | apply Kd.R_drewN | apply Kd.R_drew)); exact Kd.R_mono (Kd.R_far (p := ⟨gb1108, 3, none⟩) (Kd.R_far (p := ⟨gb1108, 2, none⟩) (Kd.R_far (p := ⟨gb1108, 1, none⟩) (Kd.R_far (p := ⟨gb1108, 0, none⟩) (Kd.R_types HO_1110000.out BK1108.out (by decide)) (fun _ hk => hk.2) (.slice Ao31 x1110000_1.length co31)) (fun _ hk => hk.2) (.slice Ao33 x1110001_1.length co33)) (fun _ hk => hk.2) (.slice Ao34 x1110002_1.length co34)) (fun _ hk => hk.2) (.slice Ao35 x1110003_1.length co35)) (fun _ hk => ⟨hk.1.1, ⟨hk.1.2.1, hk.1.2.2⟩⟩), by (with_reducible repeat (first | apply Kd.R_alloc | apply Kd.R_drewN | apply Kd.R_drew)); exact Kd.R_mono (Kd.R_far (p := ⟨gb1108, 3, none⟩) (Kd.R_far (p := ⟨gb1108, 2, none⟩) (Kd.R_far (p := ⟨gb1108, 1, none⟩) (Kd.R_far (p := ⟨gb1108, 0, none⟩) (Kd.R_types HO_1110001.out BK1108.out (by decide)) (fun _ hk => hk.2) (.slice Ao31 x1110000_1.length co31)) (fun _ hk => hk.2) (.slice Ao33 x1110001_1.length co33)) (fun _ hk => hk.2) (.slice Ao34 x1110002_1.length co34)) (fun _ hk => hk.2) (.slice Ao35 x1110003_1.length co35)) (fun _ hk => ⟨hk.1.1, ⟨hk.1.2.1, hk.1.2.2⟩⟩), by (with_reducible repeat (first | apply Kd.R_alloc | apply Kd.R_drewN | apply Kd.R_drew)); exact Kd.R_mono (Kd.R_far (p := ⟨gb1108, 3, none⟩) (Kd.R_far (p := ⟨gb1108, 2, none⟩) (Kd.R_far (p := ⟨gb1108, 1, none⟩) (Kd.R_far (p := ⟨gb1108, 0, none⟩) (Kd.R_types HO_1110002.out BK1108.out (by decide)) (fun _ hk => hk.2) (.slice Ao31 x1110000_1.length co31)) (fun _ hk => hk.2) (.slice Ao33 x1110001_1.length co33)) (fun _ hk => hk.2) (.slice Ao34 x1110002_1.length co34)) (fun _ hk => hk.2) (.slice Ao35 x1110003_1.length co35)) (fun _ hk => ⟨hk.1.1, ⟨hk.1.2.1, hk.1.2.2⟩⟩), by (with_reducible repeat (first | apply Kd.R_alloc | apply Kd.R_drewN | apply Kd.R_drew)); exact Kd.R_mono (Kd.R_far (p := ⟨gb1108, 3, none⟩) (Kd.R_far (p := ⟨gb1108, 2, none⟩) (Kd.R_far (p := ⟨gb1108, 1, none⟩) (Kd.R_far (p := ⟨gb1108, 0, none⟩) (Kd.R_types HO_1110003.out BK1108.out (by decide)) (fun _ hk => hk.2) (.slice Ao31 x1110000_1.length co31)) (fun _ hk => hk.2) (.slice Ao33 x1110001_1.length co33)) (fun _ hk => hk.2) (.slice Ao34 x1110002_1.length co34)) (fun _ hk => hk.2) (.slice Ao35 x1110003_1.length co35)) (fun _ hk => ⟨hk.1.1, ⟨hk.1.2.1, hk.1.2.2⟩⟩), by repeat (first | (with_reducible first | exact HB.out | apply below_alloc | apply pw_below_drewN | apply below_drew1 | refine below_set ?_ GE1108.out | refine below_set ?_ GE1109.out) | exact HB.out)⟩
end Go.Proofs.Ythlmmcmpllgflaa.P
namespace Go.Proofs.Ythlmmcmpllgflaa.P
open Go.RowKit Go.Proofs.YthlmmcmpllgflaaW.PrintWords Go.Proofs.YthlmmcmpllgflaaW.PrintLast Go.Proofs.YthlmmcmpllgflaaW.PrintMore
attribute [local go_sem] max2_int min2_int max_two min_two max_three min_three max_four min_four
set_option linter.unusedVariables false
set_option linter.unusedSimpArgs false
def spec_l2Good.f (k : Nat) (l0_0 : List Int) (l0_1 : List Int) (l0_2 : List Int) (l0_3 : List Int) : Option (Bool) := if (l0_0.length : Int) ≤ 8 then ((spec_l2Row.f k l0_0 (l0_0.length : Int) 20).bind fun t1124 => (if t1124 = true then ((spec_l2Row.f k l0_1 (l0_0.length : Int) 99).bind fun t1125 => (if t1125 = true then ((spec_l2Row.f k l0_2 (l0_0.length : Int) 9).bind fun t1126 => (if t1126 = true then ((spec_l2Row.f k l0_3 (l0_0.length : Int) 9).bind fun t1127 => (some t1127)) else (some false))) else (some false))) else (some false))) else (some false)
set_option maxHeartbeats 8000000 in
set_option maxRecDepth 100000 in
theorem spec_l2Good.calls (k : Nat) (A0_0 : Option Addr) (c0_0 : Nat) (l0_0 : List Int) (A0_1 : Option Addr) (c0_1 : Nat) (l0_1 : List Int) (A0_2 : Option Addr) (c0_2 : Nat) (l0_2 : List Int) (A0_3 : Option Addr) (c0_3 : Nat) (l0_3 : List Int) (r : Bool) (w : World) (hr0_0 : Kd.C (Kd.int .i64) w A0_0 l0_0.length l0_0) (hc0_0 : l0_0.length ≤ c0_0) (hr0_1 : Kd.C (Kd.int .i64) w A0_1 l0_1.length l0_1) (hc0_1 : l0_1.length ≤ c0_1) (hr0_2 : Kd.C (Kd.int .i64) w A0_2 l0_2.length l0_2) (hc0_2 : l0_2.length ≤ c0_2) (hr0_3 : Kd.C (Kd.int .i64) w A0_3 l0_3.length l0_3) (hc0_3 : l0_3.length ≤ c0_3) (h : spec_l2Good.f k l0_0 l0_1 l0_2 l0_3 = some r) :
 Calls Try.prog 73 #[.agg #[.slice A0_0 l0_0.length c0_0, .slice A0_1 l0_1.length c0_1, .slice A0_2 l0_2.length c0_2, .slice A0_3 l0_3.length c0_3]] w fun e w' => e = .returned (.bool r) ∧ Below w.heap.size w w' := by
 have hu49 := Try.underlying49
 have HR0_0 := Aside0.mk hr0_0
 have HC0_0 := Aside0.mk hc0_0
 clear hr0_0 hc0_0
 have HR0_1 := Aside0.mk hr0_1
 have HC0_1 := Aside0.mk hc0_1
 clear hr0_1 hc0_1
 have HR0_2 := Aside0.mk hr0_2
 have HC0_2 := Aside0.mk hc0_2
 clear hr0_2 hc0_2
 have HR0_3 := Aside0.mk hr0_3
 have HC0_3 := Aside0.mk hc0_3
 clear hr0_3 hc0_3
 have HB := Aside0.mk (Below.refl w.heap.size w)
 have H : (if (l0_0.length : Int) ≤ 8 then ((spec_l2Row.f k l0_0 (l0_0.length : Int) 20).bind fun t1124 => (if t1124 = true then ((spec_l2Row.f k l0_1 (l0_0.length : Int) 99).bind fun t1125 => (if t1125 = true then ((spec_l2Row.f k l0_2 (l0_0.length : Int) 9).bind fun t1126 => (if t1126 = true then ((spec_l2Row.f k l0_3 (l0_0.length : Int) 9).bind fun t1127 => (some t1127)) else (some false))) else (some false))) else (some false))) else (some false)) = some r := h
 clear h
 by_cases c2 : (l0_0.length : Int) ≤ 8
 · rw [if_pos c2] at H
   have c2b0 : decide ((l0_0.length : Int) ≤ 8) = true := decide_eq_true c2
   have c2b1 : decide (l0_0.length ≤ 8) = true := decide_eq_true (by omega)
   clear c2
   replace H := Option.bind_eq_some_iff.mp H
   obtain ⟨t1124, A30, H⟩ := H
   replace H : (if t1124 = true then ((spec_l2Row.f k l0_1 (l0_0.length : Int) 99).bind fun t1125 => (if t1125 = true then ((spec_l2Row.f k l0_2 (l0_0.length : Int) 9).bind fun t1126 => (if t1126 = true then ((spec_l2Row.f k l0_3 (l0_0.length : Int) 9).bind fun t1127 => (some t1127)) else (some false))) else (some false))) else (some false)) = some r := H
   have A3 := Aside0.mk A30
   clear A30
   by_cases c4 : t1124 = true
   · subst c4
     have H1 : ((spec_l2Row.f k l0_1 (l0_0.length : Int) 99).bind fun t1125 => (if t1125 = true then ((spec_l2Row.f k l0_2 (l0_0.length : Int) 9).bind fun t1126 => (if t1126 = true then ((spec_l2Row.f k l0_3 (l0_0.length : Int) 9).bind fun t1127 => (some t1127)) else (some false))) else (some false))) = some r := by rw [if_pos rfl] at H; exact H
     clear H
     have H := H1
     clear H1
     replace H := Option.bind_eq_some_iff.mp H
     obtain ⟨t1125, A50, H⟩ := H
     replace H : (if t1125 = true then ((spec_l2Row.f k l0_2 (l0_0.length : Int) 9).bind fun t1126 => (if t1126 = true then ((spec_l2Row.f k l0_3 (l0_0.length : Int) 9).bind fun t1127 => (some t1127)) else (some false))) else (some false)) = some r := H
     have A5 := Aside0.mk A50
     clear A50
     by_cases c6 : t1125 = true
     · subst c6
       have H1 : ((spec_l2Row.f k l0_2 (l0_0.length : Int) 9).bind fun t1126 => (if t1126 = true then ((spec_l2Row.f k l0_3 (l0_0.length : Int) 9).bind fun t1127 => (some t1127)) else (some false))) = some r := by rw [if_pos rfl] at H; exact H
       clear H
       have H := H1
       clear H1
       replace H := Option.bind_eq_some_iff.mp H
       obtain ⟨t1126, A70, H⟩ := H
       replace H : (if t1126 = true then ((spec_l2Row.f k l0_3 (l0_0.length : Int) 9).bind fun t1127 => (some t1127)) else (some false)) = some r := H
       have A7 := Aside0.mk A70
       clear A70
       by_cases c8 : t1126 = true
       · subst c8
         have H1 : ((spec_l2Row.f k l0_3 (l0_0.length : Int) 9).bind fun t1127 => (some t1127)) = some r := by rw [if_pos rfl] at H; exact H
         clear H
         have H := H1
         clear H1
         replace H := Option.bind_eq_some_iff.mp H
         obtain ⟨t1127, A90, H⟩ := H
         replace H : (some t1127) = some r := H
         have A9 := Aside0.mk A90
         clear A90
         obtain rfl := Option.some.inj H
         go_enter Try.func73, Try.ntmps73
         go_wp2_with (first | ((with_reducible refine gate_dst (N := 1) rfl ?_); refine box_event ?hg (N := 1) ?hd (cs := #[.slice A0_0 l0_0.length c0_0, .slice A0_1 l0_1.length c0_1, .slice A0_2 l0_2.length c0_2, .slice A0_3 l0_3.length c0_3]) (t := 49) ?hr ?_; (case hd => rfl); (case hg => rfl); (case hr => first | (go_simp; done) | (go_simp; rfl)); intro gb1123 hg w10 hbox hb; have n0_ := Aside0.mk (below_step zH0 hb); have n1_ := Aside0.mk (hbox); have n2_ := Aside0.mk ((z6 : w.heap.size ≤ gb1123)); have n3_ := Aside0.mk ((z6 : w.heap.size ≤ gb1123)); clear HB; have HB := n0_; have BK1123 := n1_; have GW1123 := n2_; have GE1123 := n3_; clear n0_ n1_ n2_ n3_; clear hb hbox hg; have hcz11_0 : w10.cell? ⟨gb1123, 0, none⟩ = some (.slice A0_0 l0_0.length c0_0) := (blk_cell BK1123.out 0).trans rfl; have hcz11_1 : w10.cell? ⟨gb1123, 1, none⟩ = some (.slice A0_1 l0_1.length c0_1) := (blk_cell BK1123.out 1).trans rfl; have hcz11_2 : w10.cell? ⟨gb1123, 2, none⟩ = some (.slice A0_2 l0_2.length c0_2) := (blk_cell BK1123.out 2).trans rfl; have hcz11_3 : w10.cell? ⟨gb1123, 3, none⟩ = some (.slice A0_3 l0_3.length c0_3) := (blk_cell BK1123.out 3).trans rfl; have hfz11_0 := blk_frozen BK1123.out 0; have hfz11_1 := blk_frozen BK1123.out 1; have hfz11_2 := blk_frozen BK1123.out 2; have hfz11_3 := blk_frozen BK1123.out 3) | (go_at_call 112; (with_reducible refine (spec_l2Row.calls k _ _ l0_0 (l0_0.length : Int) 20 true _ ?side1 ?side2 A3.out).mono ?_); (case side1 => exact zC (Kd.C_below HR0_0.out HB.out)); (case side2 => exact HC0_0.out); rintro e w' ⟨rfl, ⟨nd, rfl⟩⟩) | (go_at_call 112; (with_reducible refine (spec_l2Row.calls k _ _ l0_1 (l0_0.length : Int) 99 true _ ?side1 ?side2 A5.out).mono ?_); (case side1 => repeat (first | exact (Kd.C_below HR0_1.out (zH1 GE1123.out)) | (with_reducible refine Kd.C_alloc ?_ _) | (with_reducible refine Kd.C_drewN ?_ _) | (with_reducible refine Kd.C_drew ?_))); (case side2 => exact HC0_1.out); rintro e w' ⟨rfl, ⟨nd, rfl⟩⟩) | (go_at_call 112; (with_reducible refine (spec_l2Row.calls k _ _ l0_2 (l0_0.length : Int) 9 true _ ?side1 ?side2 A7.out).mono ?_); (case side1 => repeat (first | exact (Kd.C_below HR0_2.out (zH1 GE1123.out)) | (with_reducible refine Kd.C_alloc ?_ _) | (with_reducible refine Kd.C_drewN ?_ _) | (with_reducible refine Kd.C_drew ?_))); (case side2 => exact HC0_2.out); rintro e w' ⟨rfl, ⟨nd, rfl⟩⟩) | (go_at_call 112; (with_reducible refine (spec_l2Row.calls k _ _ l0_3 (l0_0.length : Int) 9 t1127 _ ?side1 ?side2 A9.out).mono ?_); (case side1 => repeat (first | exact (Kd.C_below HR0_3.out (zH1 GE1123.out)) | (with_reducible refine Kd.C_alloc ?_ _) | (with_reducible refine Kd.C_drewN ?_ _) | (with_reducible refine Kd.C_drew ?_))); (case side2 => exact HC0_3.out); rintro e w' ⟨rfl, ⟨nd, rfl⟩⟩))
         go_ret
         exact ⟨by first | rfl | (simp [errW_none, errW_some] <;> rfl) | (simp [*, errW_none, errW_some] <;> rfl), by repeat (first | (with_reducible first | exact HB.out | apply below_alloc | apply pw_below_drewN | apply below_drew1 | refine below_set ?_ GE1123.out) | exact HB.out)⟩
       · replace c8 := Bool.eq_false_iff.mpr c8
         subst c8
         have H1 : (some false) = some r := by rw [if_neg (show ¬ (false = true) by decide)] at H; exact H
         clear H
         have H := H1
         clear H1
         obtain rfl := Option.some.inj H
         go_enter Try.func73, Try.ntmps73
         go_wp2_with (first | ((with_reducible refine gate_dst (N := 1) rfl ?_); refine box_event ?hg (N := 1) ?hd (cs := #[.slice A0_0 l0_0.length c0_0, .slice A0_1 l0_1.length c0_1, .slice A0_2 l0_2.length c0_2, .slice A0_3 l0_3.length c0_3]) (t := 49) ?hr ?_; (case hd => rfl); (case hg => rfl); (case hr => first | (go_simp; done) | (go_simp; rfl)); intro gb1123 hg w12 hbox hb; have n0_ := Aside0.mk (below_step zH0 hb); have n1_ := Aside0.mk (hbox); have n2_ := Aside0.mk ((z6 : w.heap.size ≤ gb1123)); have n3_ := Aside0.mk ((z6 : w.heap.size ≤ gb1123)); clear HB; have HB := n0_; have BK1123 := n1_; have GW1123 := n2_; have GE1123 := n3_; clear n0_ n1_ n2_ n3_; clear hb hbox hg; have hcz13_0 : w12.cell? ⟨gb1123, 0, none⟩ = some (.slice A0_0 l0_0.length c0_0) := (blk_cell BK1123.out 0).trans rfl; have hcz13_1 : w12.cell? ⟨gb1123, 1, none⟩ = some (.slice A0_1 l0_1.length c0_1) := (blk_cell BK1123.out 1).trans rfl; have hcz13_2 : w12.cell? ⟨gb1123, 2, none⟩ = some (.slice A0_2 l0_2.length c0_2) := (blk_cell BK1123.out 2).trans rfl; have hcz13_3 : w12.cell? ⟨gb1123, 3, none⟩ = some (.slice A0_3 l0_3.length c0_3) := (blk_cell BK1123.out 3).trans rfl; have hfz13_0 := blk_frozen BK1123.out 0; have hfz13_1 := blk_frozen BK1123.out 1; have hfz13_2 := blk_frozen BK1123.out 2; have hfz13_3 := blk_frozen BK1123.out 3) | (go_at_call 112; (with_reducible refine (spec_l2Row.calls k _ _ l0_0 (l0_0.length : Int) 20 true _ ?side1 ?side2 A3.out).mono ?_); (case side1 => exact zC (Kd.C_below HR0_0.out HB.out)); (case side2 => exact HC0_0.out); rintro e w' ⟨rfl, ⟨nd, rfl⟩⟩) | (go_at_call 112; (with_reducible refine (spec_l2Row.calls k _ _ l0_1 (l0_0.length : Int) 99 true _ ?side1 ?side2 A5.out).mono ?_); (case side1 => repeat (first | exact (Kd.C_below HR0_1.out (zH1 GE1123.out)) | (with_reducible refine Kd.C_alloc ?_ _) | (with_reducible refine Kd.C_drewN ?_ _) | (with_reducible refine Kd.C_drew ?_))); (case side2 => exact HC0_1.out); rintro e w' ⟨rfl, ⟨nd, rfl⟩⟩) | (go_at_call 112; (with_reducible refine (spec_l2Row.calls k _ _ l0_2 (l0_0.length : Int) 9 false _ ?side1 ?side2 A7.out).mono ?_); (case side1 => repeat (first | exact (Kd.C_below HR0_2.out (zH1 GE1123.out)) | (with_reducible refine Kd.C_alloc ?_ _) | (with_reducible refine Kd.C_drewN ?_ _) | (with_reducible refine Kd.C_drew ?_))); (case side2 => exact HC0_2.out); rintro e w' ⟨rfl, ⟨nd, rfl⟩⟩))
         go_ret
         exact ⟨by first | rfl | (simp [errW_none, errW_some] <;> rfl) | (simp [*, errW_none, errW_some] <;> rfl), by repeat (first | (with_reducible first | exact HB.out | apply below_alloc | apply pw_below_drewN | apply below_drew1 | refine below_set ?_ GE1123.out) | exact HB.out)⟩
     · replace c6 := Bool.eq_false_iff.mpr c6
       subst c6
       have H1 : (some false) = some r := by rw [if_neg (show ¬ (false = true) by decide)] at H; exact H
       clear H
       have H := H1
       clear H1
       obtain rfl := Option.some.inj H
       go_enter Try.func73, Try.ntmps73
       go_wp2_with (first | ((with_reducible refine gate_dst (N := 1) rfl ?_); refine box_event ?hg (N := 1) ?hd (cs := #[.slice A0_0 l0_0.length c0_0, .slice A0_1 l0_1.length c0_1, .slice A0_2 l0_2.length c0_2, .slice A0_3 l0_3.length c0_3]) (t := 49) ?hr ?_; (case hd => rfl); (case hg => rfl); (case hr => first | (go_simp; done) | (go_simp; rfl)); intro gb1123 hg w14 hbox hb; have n0_ := Aside0.mk (below_step zH0 hb); have n1_ := Aside0.mk (hbox); have n2_ := Aside0.mk ((z6 : w.heap.size ≤ gb1123)); have n3_ := Aside0.mk ((z6 : w.heap.size ≤ gb1123)); clear HB; have HB := n0_; have BK1123 := n1_; have GW1123 := n2_; have GE1123 := n3_; clear n0_ n1_ n2_ n3_; clear hb hbox hg; have hcz15_0 : w14.cell? ⟨gb1123, 0, none⟩ = some (.slice A0_0 l0_0.length c0_0) := (blk_cell BK1123.out 0).trans rfl; have hcz15_1 : w14.cell? ⟨gb1123, 1, none⟩ = some (.slice A0_1 l0_1.length c0_1) := (blk_cell BK1123.out 1).trans rfl; have hcz15_2 : w14.cell? ⟨gb1123, 2, none⟩ = some (.slice A0_2 l0_2.length c0_2) := (blk_cell BK1123.out 2).trans rfl; have hcz15_3 : w14.cell? ⟨gb1123, 3, none⟩ = some (.slice A0_3 l0_3.length c0_3) := (blk_cell BK1123.out 3).trans rfl; have hfz15_0 := blk_frozen BK1123.out 0; have hfz15_1 := blk_frozen BK1123.out 1; have hfz15_2 := blk_frozen BK1123.out 2; have hfz15_3 := blk_frozen BK1123.out 3) | (go_at_call 112; (with_reducible refine (spec_l2Row.calls k _ _ l0_0 (l0_0.length : Int) 20 true _ ?side1 ?side2 A3.out).mono ?_); (case side1 => exact zC (Kd.C_below HR0_0.out HB.out)); (case side2 => exact HC0_0.out); rintro e w' ⟨rfl, ⟨nd, rfl⟩⟩) | (go_at_call 112; (with_reducible refine (spec_l2Row.calls k _ _ l0_1 (l0_0.length : Int) 99 false _ ?side1 ?side2 A5.out).mono ?_); (case side1 => repeat (first | exact (Kd.C_below HR0_1.out (zH1 GE1123.out)) | (with_reducible refine Kd.C_alloc ?_ _) | (with_reducible refine Kd.C_drewN ?_ _) | (with_reducible refine Kd.C_drew ?_))); (case side2 => exact HC0_1.out); rintro e w' ⟨rfl, ⟨nd, rfl⟩⟩))
       go_ret
       exact ⟨by first | rfl | (simp [errW_none, errW_some] <;> rfl) | (simp [*, errW_none, errW_some] <;> rfl), by repeat (first | (with_reducible first | exact HB.out | apply below_alloc | apply pw_below_drewN | apply below_drew1 | refine below_set ?_ GE1123.out) | exact HB.out)⟩
   · replace c4 := Bool.eq_false_iff.mpr c4
     subst c4
     have H1 : (some false) = some r := by rw [if_neg (show ¬ (false = true) by decide)] at H; exact H
     clear H
     have H := H1
     clear H1
     obtain rfl := Option.some.inj H
     go_enter Try.func73, Try.ntmps73
     go_wp2_with (first | ((with_reducible refine gate_dst (N := 1) rfl ?_); refine box_event ?hg (N := 1) ?hd (cs := #[.slice A0_0 l0_0.length c0_0, .slice A0_1 l0_1.length c0_1, .slice A0_2 l0_2.length c0_2, .slice A0_3 l0_3.length c0_3]) (t := 49) ?hr ?_; (case hd => rfl); (case hg => rfl); (case hr => first | (go_simp; done) | (go_simp; rfl)); intro gb1123 hg w16 hbox hb; have n0_ := Aside0.mk (below_step zH0 hb); have n1_ := Aside0.mk (hbox); have n2_ := Aside0.mk ((z6 : w.heap.size ≤ gb1123)); have n3_ := Aside0.mk ((z6 : w.heap.size ≤ gb1123)); clear HB; have HB := n0_; have BK1123 := n1_; have GW1123 := n2_; have GE1123 := n3_; clear n0_ n1_ n2_ n3_; clear hb hbox hg; have hcz17_0 : w16.cell? ⟨gb1123, 0, none⟩ = some (.slice A0_0 l0_0.length c0_0) := (blk_cell BK1123.out 0).trans rfl; have hcz17_1 : w16.cell? ⟨gb1123, 1, none⟩ = some (.slice A0_1 l0_1.length c0_1) := (blk_cell BK1123.out 1).trans rfl; have hcz17_2 : w16.cell? ⟨gb1123, 2, none⟩ = some (.slice A0_2 l0_2.length c0_2) := (blk_cell BK1123.out 2).trans rfl; have hcz17_3 : w16.cell? ⟨gb1123, 3, none⟩ = some (.slice A0_3 l0_3.length c0_3) := (blk_cell BK1123.out 3).trans rfl; have hfz17_0 := blk_frozen BK1123.out 0; have hfz17_1 := blk_frozen BK1123.out 1; have hfz17_2 := blk_frozen BK1123.out 2; have hfz17_3 := blk_frozen BK1123.out 3) | (go_at_call 112; (with_reducible refine (spec_l2Row.calls k _ _ l0_0 (l0_0.length : Int) 20 false _ ?side1 ?side2 A3.out).mono ?_); (case side1 => exact zC (Kd.C_below HR0_0.out HB.out)); (case side2 => exact HC0_0.out); rintro e w' ⟨rfl, ⟨nd, rfl⟩⟩))
     go_ret
     exact ⟨by first | rfl | (simp [errW_none, errW_some] <;> rfl) | (simp [*, errW_none, errW_some] <;> rfl), by repeat (first | (with_reducible first | exact HB.out | apply below_alloc | apply pw_below_drewN | apply below_drew1 | refine below_set ?_ GE1123.out) | exact HB.out)⟩
 · rw [if_neg c2] at H
   have c2b0 : decide ((l0_0.length : Int) ≤ 8) = false := decide_eq_false c2
   have c2b1 : decide (l0_0.length ≤ 8) = false := decide_eq_false (by omega)
   clear c2
   obtain rfl := Option.some.inj H
   go_enter Try.func73, Try.ntmps73
   go_wp2_with (first | ((with_reducible refine gate_dst (N := 1) rfl ?_); refine box_event ?hg (N := 1) ?hd (cs := #[.slice A0_0 l0_0.length c0_0, .slice A0_1 l0_1.length c0_1, .slice A0_2 l0_2.length c0_2, .slice A0_3 l0_3.length c0_3]) (t := 49) ?hr ?_; (case hd => rfl); (case hg => rfl); (case hr => first | (go_simp; done) | (go_simp; rfl)); intro gb1123 hg w18 hbox hb; have n0_ := Aside0.mk (below_step zH0 hb); have n1_ := Aside0.mk (hbox); have n2_ := Aside0.mk ((z6 : w.heap.size ≤ gb1123)); have n3_ := Aside0.mk ((z6 : w.heap.size ≤ gb1123)); clear HB; have HB := n0_; have BK1123 := n1_; have GW1123 := n2_; have GE1123 := n3_; clear n0_ n1_ n2_ n3_; clear hb hbox hg; have hcz19_0 : w18.cell? ⟨gb1123, 0, none⟩ = some (.slice A0_0 l0_0.length c0_0) := (blk_cell BK1123.out 0).trans rfl; have hcz19_1 : w18.cell? ⟨gb1123, 1, none⟩ = some (.slice A0_1 l0_1.length c0_1) := (blk_cell BK1123.out 1).trans rfl; have hcz19_2 : w18.cell? ⟨gb1123, 2, none⟩ = some (.slice A0_2 l0_2.length c0_2) := (blk_cell BK1123.out 2).trans rfl; have hcz19_3 : w18.cell? ⟨gb1123, 3, none⟩ = some (.slice A0_3 l0_3.length c0_3) := (blk_cell BK1123.out 3).trans rfl; have hfz19_0 := blk_frozen BK1123.out 0; have hfz19_1 := blk_frozen BK1123.out 1; have hfz19_2 := blk_frozen BK1123.out 2; have hfz19_3 := blk_frozen BK1123.out 3))
   go_ret
   exact ⟨by first | rfl | (simp [errW_none, errW_some] <;> rfl) | (simp [*, errW_none, errW_some] <;> rfl), by repeat (first | (with_reducible first | exact HB.out | apply below_alloc | apply pw_below_drewN | apply below_drew1 | refine below_set ?_ GE1123.out) | exact HB.out)⟩
end Go.Proofs.Ythlmmcmpllgflaa.P
