/- The law FnExactStagewisePlan: for every chain the program and the reference make the same plan stage by stage, which leaves its arguments as they are and shares no memory; no condition. -/
import Derived.Test.YthlmmcmpllgflaaR2c
namespace Go.Proofs.Ythlmmcmpllgflaa.P
open Go.RowKit Go.Proofs.YthlmmcmpllgflaaW.PrintWords Go.Proofs.YthlmmcmpllgflaaW.PrintLast Go.Proofs.YthlmmcmpllgflaaW.PrintMore
attribute [local go_sem] max2_int min2_int max_two min_two max_three min_three max_four min_four
set_option linter.unusedVariables false
set_option linter.unusedSimpArgs false
mutual
def spec_l7Good.j0 : Nat → Bool → List Int → List Int → List Int → Option (Bool)
 | 0, _, _, _, _ => none
 | k + 1, x23, x390000, x390001, x390002 => if x23 = true then (some false) else ((spec_l2Row.f k x390001 (x390001.length : Int) 99).bind fun t392 => (if t392 = true then ((spec_l2Row.f k x390002 (x390001.length : Int) 9).bind fun t393 => (spec_l7Good.j1 k (!t393) x390000 x390001 x390002)) else (spec_l7Good.j1 k true x390000 x390001 x390002)))
def spec_l7Good.j1 : Nat → Bool → List Int → List Int → List Int → Option (Bool)
 | 0, _, _, _, _ => none
 | k + 1, x39, x390000, x390001, x390002 => if x39 = true then (some false) else (spec_l7Good.l0 k 1 x390000 x390001 x390002)
def spec_l7Good.l0 : Nat → Int → List Int → List Int → List Int → Option (Bool)
 | 0, _, _, _, _ => none
 | k + 1, x3, x390000, x390001, x390002 => if x3 < (x390002.length : Int) then (if 0 ≤ x3 then (if 0 ≤ (wrap64 (x3 - 1)) then (if (wrap64 (x3 - 1)) < (x390002.length : Int) then (if (rd x390002 x3) < (rd x390002 (wrap64 (x3 - 1))) then (some false) else (spec_l7Good.l0 k (wrap64 (x3 + 1)) x390000 x390001 x390002)) else (none)) else (none)) else (none)) else (some true)
end
def spec_l7Good.f (k : Nat) (l0_0 : List Int) (l0_1 : List Int) (l0_2 : List Int) : Option (Bool) := if (l0_0.length : Int) > 6 then (spec_l7Good.j0 k true l0_0 l0_1 l0_2) else ((spec_l2Row.f k l0_0 (l0_0.length : Int) 20).bind fun t390 => (if t390 = true then ((spec_l1In.f (l0_1.length : Int) 1 3).bind fun t391 => (spec_l7Good.j0 k (!t391) l0_0 l0_1 l0_2)) else (spec_l7Good.j0 k true l0_0 l0_1 l0_2)))
set_option maxHeartbeats 8000000 in
set_option maxRecDepth 100000 in
theorem spec_l7Good.calls (k : Nat) (A0_0 : Option Addr) (c0_0 : Nat) (l0_0 : List Int) (A0_1 : Option Addr) (c0_1 : Nat) (l0_1 : List Int) (A0_2 : Option Addr) (c0_2 : Nat) (l0_2 : List Int) (r : Bool) (w : World) (hr0_0 : Kd.C (Kd.int .i64) w A0_0 l0_0.length l0_0) (hc0_0 : l0_0.length ≤ c0_0) (hr0_1 : Kd.C (Kd.int .i64) w A0_1 l0_1.length l0_1) (hc0_1 : l0_1.length ≤ c0_1) (hr0_2 : Kd.C (Kd.int .i64) w A0_2 l0_2.length l0_2) (hc0_2 : l0_2.length ≤ c0_2) (h : spec_l7Good.f k l0_0 l0_1 l0_2 = some r) :
 Calls Try.prog 61 #[.agg #[.slice A0_0 l0_0.length c0_0, .slice A0_1 l0_1.length c0_1, .slice A0_2 l0_2.length c0_2]] w fun e w' => e = .returned (.bool r) ∧ Below w.heap.size w w' := by
 have hu26 := Try.underlying26
 have HR0_0 := Aside0.mk hr0_0
 have HC0_0 := Aside0.mk hc0_0
 clear hr0_0 hc0_0
 have HR0_1 := Aside0.mk hr0_1
 have HC0_1 := Aside0.mk hc0_1
 clear hr0_1 hc0_1
 have HR0_2 := Aside0.mk hr0_2
 have HC0_2 := Aside0.mk hc0_2
 clear hr0_2 hc0_2
 have HB := Aside0.mk (Below.refl w.heap.size w)
 have H : (if (l0_0.length : Int) > 6 then (spec_l7Good.j0 k true l0_0 l0_1 l0_2) else ((spec_l2Row.f k l0_0 (l0_0.length : Int) 20).bind fun t390 => (if t390 = true then ((spec_l1In.f (l0_1.length : Int) 1 3).bind fun t391 => (spec_l7Good.j0 k (!t391) l0_0 l0_1 l0_2)) else (spec_l7Good.j0 k true l0_0 l0_1 l0_2)))) = some r := h
 clear h
 have HC2 := Aside0.mk H
 clear H
 go_enter Try.func61, Try.ntmps61
 go_upto_region 1 with (first | ((with_reducible refine gate_dst (N := 1) rfl ?_); (try (refine gate_guard (by rfl) ?_; dsimp only)); refine box_event ?hg (N := 1) ?hd (cs := #[.slice A0_0 l0_0.length c0_0, .slice A0_1 l0_1.length c0_1, .slice A0_2 l0_2.length c0_2]) (t := 26) ?hr ?_; (case hd => rfl); (case hg => rfl); (case hr => first | (go_simp; done) | (go_simp; rfl)); intro gb389 hg w3 hbox hb; have n0_ := Aside0.mk (below_step zH0 hb); have n1_ := Aside0.mk (hbox); have n2_ := Aside0.mk ((z6 : w.heap.size ≤ gb389)); have n3_ := Aside0.mk ((z6 : w.heap.size ≤ gb389)); clear HB; have HB := n0_; have BK389 := n1_; have GW389 := n2_; have GE389 := n3_; clear n0_ n1_ n2_ n3_; clear hb hbox hg))
 repeat (go_quiet (first | ((with_reducible refine gate_dst (N := 1) rfl ?_); (try (refine gate_guard (by rfl) ?_; dsimp only)); refine box_event ?hg (N := 1) ?hd (cs := #[.slice A0_0 l0_0.length c0_0, .slice A0_1 l0_1.length c0_1, .slice A0_2 l0_2.length c0_2]) (t := 26) ?hr ?_; (case hd => rfl); (case hg => rfl); (case hr => first | (go_simp; done) | (go_simp; rfl)); intro gb389 hg w3 hbox hb; have n0_ := Aside0.mk (below_step zH0 hb); have n1_ := Aside0.mk (hbox); have n2_ := Aside0.mk ((z6 : w.heap.size ≤ gb389)); have n3_ := Aside0.mk ((z6 : w.heap.size ≤ gb389)); clear HB; have HB := n0_; have BK389 := n1_; have GW389 := n2_; have GE389 := n3_; clear n0_ n1_ n2_ n3_; clear hb hbox hg)); go_upto_region 1 with (first | ((with_reducible refine gate_dst (N := 1) rfl ?_); (try (refine gate_guard (by rfl) ?_; dsimp only)); refine box_event ?hg (N := 1) ?hd (cs := #[.slice A0_0 l0_0.length c0_0, .slice A0_1 l0_1.length c0_1, .slice A0_2 l0_2.length c0_2]) (t := 26) ?hr ?_; (case hd => rfl); (case hg => rfl); (case hr => first | (go_simp; done) | (go_simp; rfl)); intro gb389 hg w3 hbox hb; have n0_ := Aside0.mk (below_step zH0 hb); have n1_ := Aside0.mk (hbox); have n2_ := Aside0.mk ((z6 : w.heap.size ≤ gb389)); have n3_ := Aside0.mk ((z6 : w.heap.size ≤ gb389)); clear HB; have HB := n0_; have BK389 := n1_; have GW389 := n2_; have GE389 := n3_; clear n0_ n1_ n2_ n3_; clear hb hbox hg)))
 (try simp only [Act.put, List.setIfInBounds_toArray, List.set_cons_zero, List.set_cons_succ])
 go_cut [23] (fun v23 wc => ∃ (kq : Nat) (x23_1 : Bool), v23 = .bool x23_1 ∧ Aside0 (spec_l7Good.j0 kq x23_1 l0_0 l0_1 l0_2 = some r) ∧ Aside0 (kq ≤ k) ∧ Aside0 (wc.heap[gb389]? = some (.cells #[(.slice A0_0 l0_0.length c0_0), (.slice A0_1 l0_1.length c0_1), (.slice A0_2 l0_2.length c0_2)] 26 (0, 0))) ∧ Aside0 (Below w.heap.size w wc))
 case first =>
  have H := HC2.out
  clear HC2
  by_cases c4 : (l0_0.length : Int) > 6
  · rw [if_pos c4] at H
    have c4b0 : decide (6 < (l0_0.length : Int)) = true := decide_eq_true c4
    have c4b1 : decide (6 < l0_0.length) = true := decide_eq_true (by omega)
    clear c4
    (first | rw [c4b0] | (simp only [i64_w, i32_w]; rw [c4b0]) | skip)
    have H' := Aside0.mk H
    clear H
    have hcz5_0 : w3.cell? ⟨gb389, 0, none⟩ = some (.slice A0_0 l0_0.length c0_0) := (blk_cell BK389.out 0).trans rfl
    have hcz5_1 : w3.cell? ⟨gb389, 1, none⟩ = some (.slice A0_1 l0_1.length c0_1) := (blk_cell BK389.out 1).trans rfl
    have hcz5_2 : w3.cell? ⟨gb389, 2, none⟩ = some (.slice A0_2 l0_2.length c0_2) := (blk_cell BK389.out 2).trans rfl
    have hfz5_0 := blk_frozen BK389.out 0
    have hfz5_1 := blk_frozen BK389.out 1
    have hfz5_2 := blk_frozen BK389.out 2
    go_wp2
    repeat (go_quiet (fail); try go_wp2)
    go_meet
    case rel => exact ⟨_, (true), z3, H', ⟨by first | omega | exact Nat.le_refl _⟩, ⟨by (with_reducible repeat (first | refine blk_drewN ?_ _ | refine blk_drew ?_ | refine blk_alloc ?_ _)); exact BK389.out⟩, ⟨by repeat (first | (with_reducible first | exact HB.out | apply below_alloc | apply pw_below_drewN | apply below_drew1 | refine below_set ?_ GE389.out) | exact HB.out)⟩⟩
  · rw [if_neg c4] at H
    have c4b0 : decide (6 < (l0_0.length : Int)) = false := decide_eq_false c4
    have c4b1 : decide (6 < l0_0.length) = false := decide_eq_false (by omega)
    clear c4
    (first | rw [c4b0] | (simp only [i64_w, i32_w]; rw [c4b0]) | skip)
    replace H := Option.bind_eq_some_iff.mp H
    obtain ⟨t390, A60, H⟩ := H
    replace H : (if t390 = true then ((spec_l1In.f (l0_1.length : Int) 1 3).bind fun t391 => (spec_l7Good.j0 k (!t391) l0_0 l0_1 l0_2)) else (spec_l7Good.j0 k true l0_0 l0_1 l0_2)) = some r := H
    have A6 := Aside0.mk A60
    clear A60
    by_cases c7 : t390 = true
    · subst c7
      have H1 : ((spec_l1In.f (l0_1.length : Int) 1 3).bind fun t391 => (spec_l7Good.j0 k (!t391) l0_0 l0_1 l0_2)) = some r := by rw [if_pos rfl] at H; exact H
      clear H
      have H := H1
      clear H1
      replace H := Option.bind_eq_some_iff.mp H
      obtain ⟨t391, A80, H⟩ := H
      replace H : (spec_l7Good.j0 k (!t391) l0_0 l0_1 l0_2) = some r := H
      have A8 := Aside0.mk A80
      clear A80
      have H' := Aside0.mk H
      clear H
      have hcz9_0 : w3.cell? ⟨gb389, 0, none⟩ = some (.slice A0_0 l0_0.length c0_0) := (blk_cell BK389.out 0).trans rfl
      have hcz9_1 : w3.cell? ⟨gb389, 1, none⟩ = some (.slice A0_1 l0_1.length c0_1) := (blk_cell BK389.out 1).trans rfl
      have hcz9_2 : w3.cell? ⟨gb389, 2, none⟩ = some (.slice A0_2 l0_2.length c0_2) := (blk_cell BK389.out 2).trans rfl
      have hfz9_0 := blk_frozen BK389.out 0
      have hfz9_1 := blk_frozen BK389.out 1
      have hfz9_2 := blk_frozen BK389.out 2
      go_wp2_with (first | (go_at_call 112; (with_reducible refine (spec_l2Row.calls k _ _ l0_0 (l0_0.length : Int) 20 true _ ?side1 ?side2 A6.out).mono ?_); (case side1 => exact zC (Kd.C_below HR0_0.out HB.out)); (case side2 => exact HC0_0.out); rintro e w' ⟨rfl, ⟨nd, rfl⟩⟩; (try first | exact ⟨rfl, _, World.drewN_drewN _ _ _⟩ | exact ⟨rfl, _, Eq.trans (World.drewN_drewN _ _ _) (congrArg (World.drewN _) (Nat.add_assoc _ _ _))⟩)) | (go_at_call 87; (with_reducible refine (spec_l1In.calls (l0_1.length : Int) 1 3 t391 _ A8.out).mono ?_); rintro e w' ⟨rfl, ⟨nd, rfl⟩⟩; (try first | exact ⟨rfl, _, World.drewN_drewN _ _ _⟩ | exact ⟨rfl, _, Eq.trans (World.drewN_drewN _ _ _) (congrArg (World.drewN _) (Nat.add_assoc _ _ _))⟩)))
      repeat (go_quiet (first | (go_at_call 112; (with_reducible refine (spec_l2Row.calls k _ _ l0_0 (l0_0.length : Int) 20 true _ ?side1 ?side2 A6.out).mono ?_); (case side1 => exact zC (Kd.C_below HR0_0.out HB.out)); (case side2 => exact HC0_0.out); rintro e w' ⟨rfl, ⟨nd, rfl⟩⟩; (try first | exact ⟨rfl, _, World.drewN_drewN _ _ _⟩ | exact ⟨rfl, _, Eq.trans (World.drewN_drewN _ _ _) (congrArg (World.drewN _) (Nat.add_assoc _ _ _))⟩)) | (go_at_call 87; (with_reducible refine (spec_l1In.calls (l0_1.length : Int) 1 3 t391 _ A8.out).mono ?_); rintro e w' ⟨rfl, ⟨nd, rfl⟩⟩; (try first | exact ⟨rfl, _, World.drewN_drewN _ _ _⟩ | exact ⟨rfl, _, Eq.trans (World.drewN_drewN _ _ _) (congrArg (World.drewN _) (Nat.add_assoc _ _ _))⟩))); try go_wp2_with (first | (go_at_call 112; (with_reducible refine (spec_l2Row.calls k _ _ l0_0 (l0_0.length : Int) 20 true _ ?side1 ?side2 A6.out).mono ?_); (case side1 => exact zC (Kd.C_below HR0_0.out HB.out)); (case side2 => exact HC0_0.out); rintro e w' ⟨rfl, ⟨nd, rfl⟩⟩; (try first | exact ⟨rfl, _, World.drewN_drewN _ _ _⟩ | exact ⟨rfl, _, Eq.trans (World.drewN_drewN _ _ _) (congrArg (World.drewN _) (Nat.add_assoc _ _ _))⟩)) | (go_at_call 87; (with_reducible refine (spec_l1In.calls (l0_1.length : Int) 1 3 t391 _ A8.out).mono ?_); rintro e w' ⟨rfl, ⟨nd, rfl⟩⟩; (try first | exact ⟨rfl, _, World.drewN_drewN _ _ _⟩ | exact ⟨rfl, _, Eq.trans (World.drewN_drewN _ _ _) (congrArg (World.drewN _) (Nat.add_assoc _ _ _))⟩))))
      go_meet
      case rel => exact ⟨_, (!t391), z3, H', ⟨by first | omega | exact Nat.le_refl _⟩, ⟨by (with_reducible repeat (first | refine blk_drewN ?_ _ | refine blk_drew ?_ | refine blk_alloc ?_ _)); exact BK389.out⟩, ⟨by repeat (first | (with_reducible first | exact HB.out | apply below_alloc | apply pw_below_drewN | apply below_drew1 | refine below_set ?_ GE389.out) | exact HB.out)⟩⟩
    · replace c7 := Bool.eq_false_iff.mpr c7
      subst c7
      have H1 : (spec_l7Good.j0 k true l0_0 l0_1 l0_2) = some r := by rw [if_neg (show ¬ (false = true) by decide)] at H; exact H
      clear H
      have H := H1
      clear H1
      have H' := Aside0.mk H
      clear H
      have hcz10_0 : w3.cell? ⟨gb389, 0, none⟩ = some (.slice A0_0 l0_0.length c0_0) := (blk_cell BK389.out 0).trans rfl
      have hcz10_1 : w3.cell? ⟨gb389, 1, none⟩ = some (.slice A0_1 l0_1.length c0_1) := (blk_cell BK389.out 1).trans rfl
      have hcz10_2 : w3.cell? ⟨gb389, 2, none⟩ = some (.slice A0_2 l0_2.length c0_2) := (blk_cell BK389.out 2).trans rfl
      have hfz10_0 := blk_frozen BK389.out 0
      have hfz10_1 := blk_frozen BK389.out 1
      have hfz10_2 := blk_frozen BK389.out 2
      go_wp2_with (first | (go_at_call 112; (with_reducible refine (spec_l2Row.calls k _ _ l0_0 (l0_0.length : Int) 20 false _ ?side1 ?side2 A6.out).mono ?_); (case side1 => exact zC (Kd.C_below HR0_0.out HB.out)); (case side2 => exact HC0_0.out); rintro e w' ⟨rfl, ⟨nd, rfl⟩⟩; (try first | exact ⟨rfl, _, World.drewN_drewN _ _ _⟩ | exact ⟨rfl, _, Eq.trans (World.drewN_drewN _ _ _) (congrArg (World.drewN _) (Nat.add_assoc _ _ _))⟩)))
      repeat (go_quiet (first | (go_at_call 112; (with_reducible refine (spec_l2Row.calls k _ _ l0_0 (l0_0.length : Int) 20 false _ ?side1 ?side2 A6.out).mono ?_); (case side1 => exact zC (Kd.C_below HR0_0.out HB.out)); (case side2 => exact HC0_0.out); rintro e w' ⟨rfl, ⟨nd, rfl⟩⟩; (try first | exact ⟨rfl, _, World.drewN_drewN _ _ _⟩ | exact ⟨rfl, _, Eq.trans (World.drewN_drewN _ _ _) (congrArg (World.drewN _) (Nat.add_assoc _ _ _))⟩))); try go_wp2_with (first | (go_at_call 112; (with_reducible refine (spec_l2Row.calls k _ _ l0_0 (l0_0.length : Int) 20 false _ ?side1 ?side2 A6.out).mono ?_); (case side1 => exact zC (Kd.C_below HR0_0.out HB.out)); (case side2 => exact HC0_0.out); rintro e w' ⟨rfl, ⟨nd, rfl⟩⟩; (try first | exact ⟨rfl, _, World.drewN_drewN _ _ _⟩ | exact ⟨rfl, _, Eq.trans (World.drewN_drewN _ _ _) (congrArg (World.drewN _) (Nat.add_assoc _ _ _))⟩))))
      go_meet
      case rel => exact ⟨_, (true), z3, H', ⟨by first | omega | exact Nat.le_refl _⟩, ⟨by (with_reducible repeat (first | refine blk_drewN ?_ _ | refine blk_drew ?_ | refine blk_alloc ?_ _)); exact BK389.out⟩, ⟨by repeat (first | (with_reducible first | exact HB.out | apply below_alloc | apply pw_below_drewN | apply below_drew1 | refine below_set ?_ GE389.out) | exact HB.out)⟩⟩
 case rest =>
  clear HC2
  try clear p2
  try clear c4
  try clear c4b0
  try clear c4b1
  try clear c6
  try clear c7
  try clear hcz10_0
  try clear hcz10_1
  try clear hcz10_2
  try clear hcz5_0
  try clear hcz5_1
  try clear hcz5_2
  try clear hcz9_0
  try clear hcz9_1
  try clear hcz9_2
  try clear hfz10_0
  try clear hfz10_1
  try clear hfz10_2
  try clear hfz5_0
  try clear hfz5_1
  try clear hfz5_2
  try clear hfz9_0
  try clear hfz9_1
  try clear hfz9_2
  obtain ⟨kq, x23_1, rfl, HA, HJ1, BK389, HB⟩ := hcut
  cases kq with
  | zero => exact absurd HA.out (by simp [spec_l7Good.j0])
  | succ kj1 =>
   have H := HA.out
   clear HA
   simp only [spec_l7Good.j0] at H
   by_cases c11 : x23_1 = true
   · subst c11
     have H1 : (some false) = some r := by rw [if_pos rfl] at H; exact H
     clear H
     have H := H1
     clear H1
     obtain rfl := Option.some.inj H
     go_wp2
     repeat (go_quiet (fail); try go_wp2)
     go_ret
     exact ⟨by first | rfl | (simp [errW_none, errW_some] <;> rfl) | (simp [*, errW_none, errW_some] <;> rfl), by repeat (first | (with_reducible first | exact HB.out | apply below_alloc | apply pw_below_drewN | apply below_drew1 | refine below_set ?_ GE389.out) | exact HB.out)⟩
   · replace c11 := Bool.eq_false_iff.mpr c11
     subst c11
     have H1 : ((spec_l2Row.f kj1 l0_1 (l0_1.length : Int) 99).bind fun t392 => (if t392 = true then ((spec_l2Row.f kj1 l0_2 (l0_1.length : Int) 9).bind fun t393 => (spec_l7Good.j1 kj1 (!t393) l0_0 l0_1 l0_2)) else (spec_l7Good.j1 kj1 true l0_0 l0_1 l0_2))) = some r := by rw [if_neg (show ¬ (false = true) by decide)] at H; exact H
     clear H
     have H := H1
     clear H1
     have HC12 := Aside0.mk H
     clear H
     go_upto_region 3 with (fail)
     repeat (go_quiet (fail); go_upto_region 3 with (fail))
     go_cut [39] (fun v39 wc => ∃ (kq : Nat) (x39_11 : Bool), v39 = .bool x39_11 ∧ Aside0 (spec_l7Good.j1 kq x39_11 l0_0 l0_1 l0_2 = some r) ∧ Aside0 (kq ≤ kj1) ∧ Aside0 (wc.heap[gb389]? = some (.cells #[(.slice A0_0 l0_0.length c0_0), (.slice A0_1 l0_1.length c0_1), (.slice A0_2 l0_2.length c0_2)] 26 (0, 0))) ∧ Aside0 (Below w.heap.size w wc))
     case first =>
      have H := HC12.out
      clear HC12
      replace H := Option.bind_eq_some_iff.mp H
      obtain ⟨t392, A130, H⟩ := H
      replace H : (if t392 = true then ((spec_l2Row.f kj1 l0_2 (l0_1.length : Int) 9).bind fun t393 => (spec_l7Good.j1 kj1 (!t393) l0_0 l0_1 l0_2)) else (spec_l7Good.j1 kj1 true l0_0 l0_1 l0_2)) = some r := H
      have A13 := Aside0.mk A130
      clear A130
      by_cases c14 : t392 = true
      · subst c14
        have H1 : ((spec_l2Row.f kj1 l0_2 (l0_1.length : Int) 9).bind fun t393 => (spec_l7Good.j1 kj1 (!t393) l0_0 l0_1 l0_2)) = some r := by rw [if_pos rfl] at H; exact H
        clear H
        have H := H1
        clear H1
        replace H := Option.bind_eq_some_iff.mp H
        obtain ⟨t393, A150, H⟩ := H
        replace H : (spec_l7Good.j1 kj1 (!t393) l0_0 l0_1 l0_2) = some r := H
        have A15 := Aside0.mk A150
        clear A150
        have H' := Aside0.mk H
        clear H
        have hcz16_0 : wc.cell? ⟨gb389, 0, none⟩ = some (.slice A0_0 l0_0.length c0_0) := (blk_cell BK389.out 0).trans rfl
        have hcz16_1 : wc.cell? ⟨gb389, 1, none⟩ = some (.slice A0_1 l0_1.length c0_1) := (blk_cell BK389.out 1).trans rfl
        have hcz16_2 : wc.cell? ⟨gb389, 2, none⟩ = some (.slice A0_2 l0_2.length c0_2) := (blk_cell BK389.out 2).trans rfl
        have hfz16_0 := blk_frozen BK389.out 0
        have hfz16_1 := blk_frozen BK389.out 1
        have hfz16_2 := blk_frozen BK389.out 2
        go_wp2_with (first | (go_at_call 112; (with_reducible refine (spec_l2Row.calls kj1 _ _ l0_1 (l0_1.length : Int) 99 true _ ?side1 ?side2 A13.out).mono ?_); (case side1 => exact zC (Kd.C_below HR0_1.out HB.out)); (case side2 => exact HC0_1.out); rintro e w' ⟨rfl, ⟨nd, rfl⟩⟩; (try first | exact ⟨rfl, _, World.drewN_drewN _ _ _⟩ | exact ⟨rfl, _, Eq.trans (World.drewN_drewN _ _ _) (congrArg (World.drewN _) (Nat.add_assoc _ _ _))⟩)) | (go_at_call 112; (with_reducible refine (spec_l2Row.calls kj1 _ _ l0_2 (l0_1.length : Int) 9 t393 _ ?side1 ?side2 A15.out).mono ?_); (case side1 => repeat (first | exact (Kd.C_below HR0_2.out (zH1 GE389.out)) | (with_reducible refine Kd.C_alloc ?_ _) | (with_reducible refine Kd.C_drewN ?_ _) | (with_reducible refine Kd.C_drew ?_))); (case side2 => exact HC0_2.out); rintro e w' ⟨rfl, ⟨nd, rfl⟩⟩; (try first | exact ⟨rfl, _, World.drewN_drewN _ _ _⟩ | exact ⟨rfl, _, Eq.trans (World.drewN_drewN _ _ _) (congrArg (World.drewN _) (Nat.add_assoc _ _ _))⟩)))
        repeat (go_quiet (first | (go_at_call 112; (with_reducible refine (spec_l2Row.calls kj1 _ _ l0_1 (l0_1.length : Int) 99 true _ ?side1 ?side2 A13.out).mono ?_); (case side1 => exact zC (Kd.C_below HR0_1.out HB.out)); (case side2 => exact HC0_1.out); rintro e w' ⟨rfl, ⟨nd, rfl⟩⟩; (try first | exact ⟨rfl, _, World.drewN_drewN _ _ _⟩ | exact ⟨rfl, _, Eq.trans (World.drewN_drewN _ _ _) (congrArg (World.drewN _) (Nat.add_assoc _ _ _))⟩)) | (go_at_call 112; (with_reducible refine (spec_l2Row.calls kj1 _ _ l0_2 (l0_1.length : Int) 9 t393 _ ?side1 ?side2 A15.out).mono ?_); (case side1 => repeat (first | exact (Kd.C_below HR0_2.out (zH1 GE389.out)) | (with_reducible refine Kd.C_alloc ?_ _) | (with_reducible refine Kd.C_drewN ?_ _) | (with_reducible refine Kd.C_drew ?_))); (case side2 => exact HC0_2.out); rintro e w' ⟨rfl, ⟨nd, rfl⟩⟩; (try first | exact ⟨rfl, _, World.drewN_drewN _ _ _⟩ | exact ⟨rfl, _, Eq.trans (World.drewN_drewN _ _ _) (congrArg (World.drewN _) (Nat.add_assoc _ _ _))⟩))); try go_wp2_with (first | (go_at_call 112; (with_reducible refine (spec_l2Row.calls kj1 _ _ l0_1 (l0_1.length : Int) 99 true _ ?side1 ?side2 A13.out).mono ?_); (case side1 => exact zC (Kd.C_below HR0_1.out HB.out)); (case side2 => exact HC0_1.out); rintro e w' ⟨rfl, ⟨nd, rfl⟩⟩; (try first | exact ⟨rfl, _, World.drewN_drewN _ _ _⟩ | exact ⟨rfl, _, Eq.trans (World.drewN_drewN _ _ _) (congrArg (World.drewN _) (Nat.add_assoc _ _ _))⟩)) | (go_at_call 112; (with_reducible refine (spec_l2Row.calls kj1 _ _ l0_2 (l0_1.length : Int) 9 t393 _ ?side1 ?side2 A15.out).mono ?_); (case side1 => repeat (first | exact (Kd.C_below HR0_2.out (zH1 GE389.out)) | (with_reducible refine Kd.C_alloc ?_ _) | (with_reducible refine Kd.C_drewN ?_ _) | (with_reducible refine Kd.C_drew ?_))); (case side2 => exact HC0_2.out); rintro e w' ⟨rfl, ⟨nd, rfl⟩⟩; (try first | exact ⟨rfl, _, World.drewN_drewN _ _ _⟩ | exact ⟨rfl, _, Eq.trans (World.drewN_drewN _ _ _) (congrArg (World.drewN _) (Nat.add_assoc _ _ _))⟩))))
        go_meet
        case rel => exact ⟨_, (!t393), z3, H', ⟨by have := HJ1.out; first | omega | exact Nat.le_refl _⟩, ⟨by (with_reducible repeat (first | refine blk_drewN ?_ _ | refine blk_drew ?_ | refine blk_alloc ?_ _)); exact BK389.out⟩, ⟨by repeat (first | (with_reducible first | exact HB.out | apply below_alloc | apply pw_below_drewN | apply below_drew1 | refine below_set ?_ GE389.out) | exact HB.out)⟩⟩
      · replace c14 := Bool.eq_false_iff.mpr c14
        subst c14
        have H1 : (spec_l7Good.j1 kj1 true l0_0 l0_1 l0_2) = some r := by rw [if_neg (show ¬ (false = true) by decide)] at H; exact H
        clear H
        have H := H1
        clear H1
        have H' := Aside0.mk H
        clear H
        have hcz17_0 : wc.cell? ⟨gb389, 0, none⟩ = some (.slice A0_0 l0_0.length c0_0) := (blk_cell BK389.out 0).trans rfl
        have hcz17_1 : wc.cell? ⟨gb389, 1, none⟩ = some (.slice A0_1 l0_1.length c0_1) := (blk_cell BK389.out 1).trans rfl
        have hcz17_2 : wc.cell? ⟨gb389, 2, none⟩ = some (.slice A0_2 l0_2.length c0_2) := (blk_cell BK389.out 2).trans rfl
        have hfz17_0 := blk_frozen BK389.out 0
        have hfz17_1 := blk_frozen BK389.out 1
        have hfz17_2 := blk_frozen BK389.out 2
        go_wp2_with (first | (go_at_call 112; (with_reducible refine (spec_l2Row.calls kj1 _ _ l0_1 (l0_1.length : Int) 99 false _ ?side1 ?side2 A13.out).mono ?_); (case side1 => exact zC (Kd.C_below HR0_1.out HB.out)); (case side2 => exact HC0_1.out); rintro e w' ⟨rfl, ⟨nd, rfl⟩⟩; (try first | exact ⟨rfl, _, World.drewN_drewN _ _ _⟩ | exact ⟨rfl, _, Eq.trans (World.drewN_drewN _ _ _) (congrArg (World.drewN _) (Nat.add_assoc _ _ _))⟩)))
        repeat (go_quiet (first | (go_at_call 112; (with_reducible refine (spec_l2Row.calls kj1 _ _ l0_1 (l0_1.length : Int) 99 false _ ?side1 ?side2 A13.out).mono ?_); (case side1 => exact zC (Kd.C_below HR0_1.out HB.out)); (case side2 => exact HC0_1.out); rintro e w' ⟨rfl, ⟨nd, rfl⟩⟩; (try first | exact ⟨rfl, _, World.drewN_drewN _ _ _⟩ | exact ⟨rfl, _, Eq.trans (World.drewN_drewN _ _ _) (congrArg (World.drewN _) (Nat.add_assoc _ _ _))⟩))); try go_wp2_with (first | (go_at_call 112; (with_reducible refine (spec_l2Row.calls kj1 _ _ l0_1 (l0_1.length : Int) 99 false _ ?side1 ?side2 A13.out).mono ?_); (case side1 => exact zC (Kd.C_below HR0_1.out HB.out)); (case side2 => exact HC0_1.out); rintro e w' ⟨rfl, ⟨nd, rfl⟩⟩; (try first | exact ⟨rfl, _, World.drewN_drewN _ _ _⟩ | exact ⟨rfl, _, Eq.trans (World.drewN_drewN _ _ _) (congrArg (World.drewN _) (Nat.add_assoc _ _ _))⟩))))
        go_meet
        case rel => exact ⟨_, (true), z3, H', ⟨by have := HJ1.out; first | omega | exact Nat.le_refl _⟩, ⟨by (with_reducible repeat (first | refine blk_drewN ?_ _ | refine blk_drew ?_ | refine blk_alloc ?_ _)); exact BK389.out⟩, ⟨by repeat (first | (with_reducible first | exact HB.out | apply below_alloc | apply pw_below_drewN | apply below_drew1 | refine below_set ?_ GE389.out) | exact HB.out)⟩⟩
     case rest =>
      clear HC12
      try clear c1
      try clear p2
      try clear c4
      try clear c4b0
      try clear c4b1
      try clear c6
      try clear c7
      try clear c11
      try clear c14
      try clear hcz10_0
      try clear hcz10_1
      try clear hcz10_2
      try clear hcz16_0
      try clear hcz16_1
      try clear hcz16_2
      try clear hcz17_0
      try clear hcz17_1
      try clear hcz17_2
      try clear hcz5_0
      try clear hcz5_1
      try clear hcz5_2
      try clear hcz9_0
      try clear hcz9_1
      try clear hcz9_2
      try clear hfz10_0
      try clear hfz10_1
      try clear hfz10_2
      try clear hfz16_0
      try clear hfz16_1
      try clear hfz16_2
      try clear hfz17_0
      try clear hfz17_1
      try clear hfz17_2
      try clear hfz5_0
      try clear hfz5_1
      try clear hfz5_2
      try clear hfz9_0
      try clear hfz9_1
      try clear hfz9_2
      try clear p2
      obtain ⟨kq, x39_11, rfl, HA, HJ11, BK389, HB⟩ := hcut
      cases kq with
      | zero => exact absurd HA.out (by simp [spec_l7Good.j1])
      | succ kj11 =>
       have H := HA.out
       clear HA
       simp only [spec_l7Good.j1] at H
       by_cases c18 : x39_11 = true
       · subst c18
         have H1 : (some false) = some r := by rw [if_pos rfl] at H; exact H
         clear H
         have H := H1
         clear H1
         obtain rfl := Option.some.inj H
         go_wp2
         repeat (go_quiet (fail); try go_wp2)
         go_ret
         exact ⟨by first | rfl | (simp [errW_none, errW_some] <;> rfl) | (simp [*, errW_none, errW_some] <;> rfl), by repeat (first | (with_reducible first | exact HB.out | apply below_alloc | apply pw_below_drewN | apply below_drew1 | refine below_set ?_ GE389.out) | exact HB.out)⟩
       · replace c18 := Bool.eq_false_iff.mpr c18
         subst c18
         have H1 : (spec_l7Good.l0 kj11 1 l0_0 l0_1 l0_2) = some r := by rw [if_neg (show ¬ (false = true) by decide)] at H; exact H
         clear H
         have H := H1
         clear H1
         have H' := Aside0.mk H
         clear H
         go_wp2
         repeat (go_quiet (fail); try go_wp2)
         go_loopg [3] kj11 (fun kq v3 w' => ∃ (x3_3 : Int), v3 = .int .i64 x3_3 ∧ Aside0 (spec_l7Good.l0 kq x3_3 l0_0 l0_1 l0_2 = some r) ∧ Aside0 (kq ≤ kj11) ∧ Aside0 (w'.heap[gb389]? = some (.cells #[(.slice A0_0 l0_0.length c0_0), (.slice A0_1 l0_1.length c0_1), (.slice A0_2 l0_2.length c0_2)] 26 (0, 0))) ∧ Aside0 (Below w.heap.size w w'))
         case atStart => exact ⟨(1), z3, H', ⟨Nat.le_refl _⟩, ⟨by (with_reducible repeat (first | refine blk_drewN ?_ _ | refine blk_drew ?_ | refine blk_alloc ?_ _)); exact BK389.out⟩, ⟨by repeat (first | (with_reducible first | exact HB.out | apply below_alloc | apply pw_below_drewN | apply below_drew1 | refine below_set ?_ GE389.out) | exact HB.out)⟩⟩
         case round =>
          clear H'
          try clear c1
          try clear p2
          try clear c4
          try clear c4b0
          try clear c4b1
          try clear c6
          try clear c7
          try clear c11
          try clear c14
          try clear c18
          try clear hcz10_0
          try clear hcz10_1
          try clear hcz10_2
          try clear hcz16_0
          try clear hcz16_1
          try clear hcz16_2
          try clear hcz17_0
          try clear hcz17_1
          try clear hcz17_2
          try clear hcz5_0
          try clear hcz5_1
          try clear hcz5_2
          try clear hcz9_0
          try clear hcz9_1
          try clear hcz9_2
          try clear hfz10_0
          try clear hfz10_1
          try clear hfz10_2
          try clear hfz16_0
          try clear hfz16_1
          try clear hfz16_2
          try clear hfz17_0
          try clear hfz17_1
          try clear hfz17_2
          try clear hfz5_0
          try clear hfz5_1
          try clear hfz5_2
          try clear hfz9_0
          try clear hfz9_1
          try clear hfz9_2
          try clear p2
          obtain ⟨x3_3, rfl, HA, HK3, BK389, HB⟩ := hrel
          cases gk with
          | zero => exact absurd HA.out (by simp [spec_l7Good.l0])
          | succ k3 =>
           have H := HA.out
           clear HA
           simp only [spec_l7Good.l0] at H
           by_cases c19 : x3_3 < (l0_2.length : Int)
           · rw [if_pos c19] at H
             have c19b0 : decide (x3_3 < (l0_2.length : Int)) = true := decide_eq_true c19
             clear c19
             by_cases c20 : 0 ≤ x3_3
             · rw [if_pos c20] at H
               have c20b0 : decide (0 ≤ x3_3) = true := decide_eq_true c20
               clear c20
               obtain ⟨ji21, hji21⟩ : ∃ j_ : Int, (wrap64 (x3_3 - 1)) = j_ := ⟨_, rfl⟩
               replace H : (if 0 ≤ (ji21) then (if (ji21) < (l0_2.length : Int) then (if (rd l0_2 x3_3) < (rd l0_2 (ji21)) then (some false) else (spec_l7Good.l0 k3 (wrap64 (x3_3 + 1)) l0_0 l0_1 l0_2)) else (none)) else (none)) = some r := by first | (rw [hji21] at H; exact H) | (simp only [hji21] at H ⊢; exact H)
               have hji21w : (IntKind.i64.wrap (x3_3 - 1)) = ji21 := (i64_w _).trans hji21
               by_cases c22 : 0 ≤ (ji21)
               · rw [if_pos c22] at H
                 have c22b0 : decide (0 ≤ (ji21)) = true := decide_eq_true c22
                 clear c22
                 by_cases c23 : (ji21) < (l0_2.length : Int)
                 · rw [if_pos c23] at H
                   have c23b0 : decide ((ji21) < (l0_2.length : Int)) = true := decide_eq_true c23
                   clear c23
                   by_cases c24 : (rd l0_2 x3_3) < (rd l0_2 (ji21))
                   · rw [if_pos c24] at H
                     have c24b0 : decide ((rd l0_2 x3_3) < (rd l0_2 (ji21))) = true := decide_eq_true c24
                     clear c24
                     obtain rfl := Option.some.inj H
                     have hcz25_0 : wr.cell? ⟨gb389, 0, none⟩ = some (.slice A0_0 l0_0.length c0_0) := (blk_cell BK389.out 0).trans rfl
                     have hcz25_1 : wr.cell? ⟨gb389, 1, none⟩ = some (.slice A0_1 l0_1.length c0_1) := (blk_cell BK389.out 1).trans rfl
                     have hcz25_2 : wr.cell? ⟨gb389, 2, none⟩ = some (.slice A0_2 l0_2.length c0_2) := (blk_cell BK389.out 2).trans rfl
                     have hfz25_0 := blk_frozen BK389.out 0
                     have hfz25_1 := blk_frozen BK389.out 1
                     have hfz25_2 := blk_frozen BK389.out 2
                     have p394 : 0 ≤ (x3_3 : Int) := of_decide_eq_true z2
                     have q394 : x3_3 < (l0_2.length : Int) := of_decide_eq_true z2
                     obtain ⟨ad394, e394, hx394_0⟩ := Kd.at_int HR0_2.out x3_3 p394 q394
                     cases e394
                     replace hx394_0 := (HB.out.cell (World.block_lt_of_cell? w _ hx394_0)).trans hx394_0
                     replace p394 := eq_true p394
                     replace q394 := eq_true q394
                     have p395 : 0 ≤ ((ji21) : Int) := of_decide_eq_true z2
                     have q395 : (ji21) < (l0_2.length : Int) := of_decide_eq_true z2
                     obtain ⟨ad395, e395, hx395_0⟩ := Kd.at_int HR0_2.out (ji21) p395 q395
                     obtain rfl : ad394 = ad395 := (by injection e395)
                     replace hx395_0 := (HB.out.cell (World.block_lt_of_cell? w _ hx395_0)).trans hx395_0
                     replace p395 := eq_true p395
                     replace q395 := eq_true q395
                     go_wp2
                     repeat (go_quiet (fail); try go_wp2)
                     go_ret
                     exact ⟨by first | rfl | (simp [errW_none, errW_some] <;> rfl) | (simp only [← hji21]; first | rfl | (simp [errW_none, errW_some] <;> rfl)) | (simp [*, errW_none, errW_some] <;> rfl), by repeat (first | (with_reducible first | exact HB.out | apply below_alloc | apply pw_below_drewN | apply below_drew1 | refine below_set ?_ GE389.out) | exact HB.out)⟩
                   · rw [if_neg c24] at H
                     have c24b0 : decide ((rd l0_2 x3_3) < (rd l0_2 (ji21))) = false := decide_eq_false c24
                     clear c24
                     have H' := Aside0.mk H
                     clear H
                     have hcz26_0 : wr.cell? ⟨gb389, 0, none⟩ = some (.slice A0_0 l0_0.length c0_0) := (blk_cell BK389.out 0).trans rfl
                     have hcz26_1 : wr.cell? ⟨gb389, 1, none⟩ = some (.slice A0_1 l0_1.length c0_1) := (blk_cell BK389.out 1).trans rfl
                     have hcz26_2 : wr.cell? ⟨gb389, 2, none⟩ = some (.slice A0_2 l0_2.length c0_2) := (blk_cell BK389.out 2).trans rfl
                     have hfz26_0 := blk_frozen BK389.out 0
                     have hfz26_1 := blk_frozen BK389.out 1
                     have hfz26_2 := blk_frozen BK389.out 2
                     have p394 : 0 ≤ (x3_3 : Int) := of_decide_eq_true z2
                     have q394 : x3_3 < (l0_2.length : Int) := of_decide_eq_true z2
                     obtain ⟨ad394, e394, hx394_0⟩ := Kd.at_int HR0_2.out x3_3 p394 q394
                     cases e394
                     replace hx394_0 := (HB.out.cell (World.block_lt_of_cell? w _ hx394_0)).trans hx394_0
                     replace p394 := eq_true p394
                     replace q394 := eq_true q394
                     have p395 : 0 ≤ ((ji21) : Int) := of_decide_eq_true z2
                     have q395 : (ji21) < (l0_2.length : Int) := of_decide_eq_true z2
                     obtain ⟨ad395, e395, hx395_0⟩ := Kd.at_int HR0_2.out (ji21) p395 q395
                     obtain rfl : ad394 = ad395 := (by injection e395)
                     replace hx395_0 := (HB.out.cell (World.block_lt_of_cell? w _ hx395_0)).trans hx395_0
                     replace p395 := eq_true p395
                     replace q395 := eq_true q395
                     go_wp2
                     repeat (go_quiet (fail); try go_wp2)
                     go_roundg k3
                     case measure => have := HJ1.out; have := HJ11.out; have := HK3.out; omega
                     case rel => exact ⟨(wrap64 (x3_3 + 1)), z3, H', ⟨by have := HJ1.out; have := HJ11.out; have := HK3.out; omega⟩, ⟨by (with_reducible repeat (first | refine blk_drewN ?_ _ | refine blk_drew ?_ | refine blk_alloc ?_ _)); exact BK389.out⟩, ⟨by repeat (first | (with_reducible first | exact HB.out | apply below_alloc | apply pw_below_drewN | apply below_drew1 | refine below_set ?_ GE389.out) | exact HB.out)⟩⟩
                 · rw [if_neg c23] at H
                   exact absurd H (by simp)
               · rw [if_neg c22] at H
                 exact absurd H (by simp)
             · rw [if_neg c20] at H
               exact absurd H (by simp)
           · rw [if_neg c19] at H
             have c19b0 : decide (x3_3 < (l0_2.length : Int)) = false := decide_eq_false c19
             clear c19
             obtain rfl := Option.some.inj H
             have hcz27_0 : wr.cell? ⟨gb389, 0, none⟩ = some (.slice A0_0 l0_0.length c0_0) := (blk_cell BK389.out 0).trans rfl
             have hcz27_1 : wr.cell? ⟨gb389, 1, none⟩ = some (.slice A0_1 l0_1.length c0_1) := (blk_cell BK389.out 1).trans rfl
             have hcz27_2 : wr.cell? ⟨gb389, 2, none⟩ = some (.slice A0_2 l0_2.length c0_2) := (blk_cell BK389.out 2).trans rfl
             have hfz27_0 := blk_frozen BK389.out 0
             have hfz27_1 := blk_frozen BK389.out 1
             have hfz27_2 := blk_frozen BK389.out 2
             go_wp2
             repeat (go_quiet (fail); try go_wp2)
             go_ret
             exact ⟨by first | rfl | (simp [errW_none, errW_some] <;> rfl) | (simp [*, errW_none, errW_some] <;> rfl), by repeat (first | (with_reducible first | exact HB.out | apply below_alloc | apply pw_below_drewN | apply below_drew1 | refine below_set ?_ GE389.out) | exact HB.out)⟩
end Go.Proofs.Ythlmmcmpllgflaa.P
namespace Go.Proofs.Ythlmmcmpllgflaa.P
open Go.RowKit Go.Proofs.YthlmmcmpllgflaaW.PrintWords Go.Proofs.YthlmmcmpllgflaaW.PrintLast Go.Proofs.YthlmmcmpllgflaaW.PrintMore
def chainB (need setup hold : List Int) : Bool :=
  decide ((need.length : Int) ≤ 6) && (need.all (inB 0 20) && (inB 1 3 (setup.length : Int) && (decide ((hold.length : Int) = setup.length) && (setup.all (inB 0 99) && (hold.all (inB 0 9) && risB hold)))))
theorem IsChain_ev (need setup hold : List Int) (h1 : need.length < 1000000000) (_ : setup.length < 1000000000) (h3 : hold.length < 1000000000) :
    Ev (fun k => impl_IsChain.f k need setup hold) (chainB need setup hold) := by
  unfold impl_IsChain.f chainB
  refine Ev.ifB fun _ => Ev.andB (allWithin_ev _ _ _ (by omega)) fun _ => Ev.andB (Ev.const (within_eq _ _ _)) fun _ => Ev.ifB fun _ => Ev.andB (allWithin_ev _ _ _ (by omega)) fun _ => Ev.andB (allWithin_ev _ _ _ (by omega)) fun _ => ?_
  exact Ev.bind (IsSorted_ev _ (by omega)) (Ev.now _)
theorem l7Good_l0 (a b l : List Int) (hl : l.length < 4611686018427387904) : ∀ d i : Nat, i + 1 + d = l.length →
    Ev (fun k => spec_l7Good.l0 k ((i + 1 : Nat) : Int) a b l) ((List.range' i d).all fun i => decide (l.getD i 0 ≤ l.getD (i + 1) 0))
  | 0, i, h => by
    refine Ev.step (fun k => spec_l7Good.l0.eq_2 ..) ?_
    exact Ev.neg (by omega) ((Ev.now _).to (by simp))
  | d + 1, i, h => by
    refine Ev.step (fun k => spec_l7Good.l0.eq_2 ..) ?_
    rw [wrP (by omega)]
    refine Ev.pos (by omega) (Ev.pos (by omega) (Ev.pos (by omega) (Ev.pos (by omega) ?_)))
    rw [rd_nat, rd_nat, List.range'_succ, List.all_cons]
    by_cases hx : l.getD (i + 1) 0 < l.getD i 0
    · exact Ev.pos hx ((Ev.now false).to (by rw [decide_eq_false (by omega)]; rfl))
    · rw [show wrap64 (((i + 1 : Nat) : Int) + 1) = ((i + 1 + 1 : Nat) : Int) from wrS (by omega)]
      refine Ev.neg hx ((l7Good_l0 a b l hl d (i + 1) (by omega)).to ?_)
      rw [decide_eq_true (show l.getD i 0 ≤ l.getD (i + 1) 0 by omega)]; rfl
theorem l7Good_ev (need setup hold : List Int) (h1 : need.length < 1000000000) (h2 : setup.length < 1000000000) (h3 : hold.length < 1000000000) :
    Ev (fun k => spec_l7Good.f k need setup hold) (chainB need setup hold) := by
  have hj1 : ∀ b, Ev (fun k => spec_l7Good.j1 k b need setup hold) (!b && risB hold) := by
    intro b
    refine Ev.step (fun k => spec_l7Good.j1.eq_2 ..) ?_
    cases b with
    | true => exact Ev.pos rfl (Ev.now _)
    | false =>
      refine Ev.neg (by simp) (Ev.to (r := risB hold) ?_ (by simp))
      unfold risB
      by_cases h0 : hold.length = 0
      · refine Ev.step (fun k => spec_l7Good.l0.eq_2 ..) ?_
        refine Ev.neg (by omega) ((Ev.now _).to ?_)
        rw [h0]; rfl
      · refine (l7Good_l0 need setup hold (by omega) (hold.length - 1) 0 (by omega)).to ?_
        rw [List.range_eq_range']
  have hj0 : ∀ b, Ev (fun k => spec_l7Good.j0 k b need setup hold) (!b && (decide ((hold.length : Int) = setup.length) && (setup.all (inB 0 99) && (hold.all (inB 0 9) && risB hold)))) := by
    intro b
    refine Ev.step (fun k => spec_l7Good.j0.eq_2 ..) ?_
    cases b with
    | true => exact Ev.pos rfl (Ev.now _)
    | false =>
      refine Ev.neg (by simp) (Ev.bind (l2Row_ev _ _ _ (by omega)) ?_)
      cases hs : setup.all (inB 0 99) with
      | false => exact Ev.neg (by simp) ((hj1 true).to (by simp))
      | true =>
        refine Ev.pos (by simp) (Ev.bind (l2Row_ev _ _ _ (by omega)) ((hj1 _).to ?_))
        cases hold.all (inB 0 9) <;> simp
        by_cases e : (hold.length : Int) = setup.length
        · simp [e]
        · simp [e]
  unfold spec_l7Good.f chainB
  by_cases hn : (need.length : Int) ≤ 6
  · rw [decide_eq_true hn, Bool.true_and]
    refine Ev.neg (by omega) (Ev.bind (l2Row_ev _ _ _ (by omega)) ?_)
    cases hs : need.all (inB 0 20) with
    | false => exact Ev.neg (by simp) ((hj0 true).to (by simp))
    | true =>
      refine Ev.pos (by simp) (Ev.bind (Ev.const (l1In_eq _ _ _)) ((hj0 _).to ?_))
      simp
  · rw [decide_eq_false hn, Bool.false_and]
    exact Ev.pos (by omega) ((hj0 true).to (by simp))
end Go.Proofs.Ythlmmcmpllgflaa.P
namespace Go.Proofs.Ythlmmcmpllgflaa.P
open Go.RowKit Go.Proofs.YthlmmcmpllgflaaW.PrintWords Go.Proofs.YthlmmcmpllgflaaW.PrintLast Go.Proofs.YthlmmcmpllgflaaW.PrintMore
attribute [local go_sem] max2_int min2_int max_two min_two max_three min_three max_four min_four
set_option linter.unusedVariables false
set_option linter.unusedSimpArgs false
end Go.Proofs.Ythlmmcmpllgflaa.P
namespace Go.Proofs.Ythlmmcmpllgflaa.P
open Go.RowKit Go.Proofs.YthlmmcmpllgflaaW.PrintWords Go.Proofs.YthlmmcmpllgflaaW.PrintLast Go.Proofs.YthlmmcmpllgflaaW.PrintMore
attribute [local go_sem] max2_int min2_int max_two min_two max_three min_three max_four min_four
set_option linter.unusedVariables false
set_option linter.unusedSimpArgs false
end Go.Proofs.Ythlmmcmpllgflaa.P
namespace Go.Proofs.Ythlmmcmpllgflaa.P
open Go.RowKit Go.Proofs.YthlmmcmpllgflaaW.PrintWords Go.Proofs.YthlmmcmpllgflaaW.PrintLast Go.Proofs.YthlmmcmpllgflaaW.PrintMore
attribute [local go_sem] max2_int min2_int max_two min_two max_three min_three max_four min_four
set_option linter.unusedVariables false
set_option linter.unusedSimpArgs false
end Go.Proofs.Ythlmmcmpllgflaa.P
namespace Go.Proofs.Ythlmmcmpllgflaa.P
open Go.RowKit Go.Proofs.YthlmmcmpllgflaaW.PrintWords Go.Proofs.YthlmmcmpllgflaaW.PrintLast Go.Proofs.YthlmmcmpllgflaaW.PrintMore ChainMath
theorem rdL_nat (l : List (List Int)) (i : Nat) : rd_L2 l (i : Int) = l.getD i [] := by unfold rd_L2; rw [Int.toNat_natCast]
theorem inB_mem {l : List Int} {lo hi x : Int} (h : l.all (inB lo hi) = true) (hx : x ∈ l) : lo ≤ x ∧ x ≤ hi := by
  have := List.all_eq_true.1 h x hx; unfold inB at this; simpa using this
end Go.Proofs.Ythlmmcmpllgflaa.P
namespace Go.Proofs.Ythlmmcmpllgflaa.P
open Go.RowKit Go.Proofs.YthlmmcmpllgflaaW.PrintWords Go.Proofs.YthlmmcmpllgflaaW.PrintLast Go.Proofs.YthlmmcmpllgflaaW.PrintMore ChainMath
def fn (l : List Int) (s : Nat) : Int := l.getD s 0
theorem sum_bound {f : Nat → Int} {B : Int} : ∀ n, (∀ i, i < n → 0 ≤ f i ∧ f i ≤ B) → 0 ≤ sumN f n ∧ sumN f n ≤ B * (n : Int)
  | 0, _ => by simp [sumN]
  | n + 1, h => by
    have h1 := sum_bound n (fun i hi => h i (by omega)); have h2 := h n (by omega)
    simp only [sumN, Int.natCast_add, Int.mul_add]; simp; omega
end Go.Proofs.Ythlmmcmpllgflaa.P
namespace Go.Proofs.Ythlmmcmpllgflaa.P
open Go.RowKit Go.Proofs.YthlmmcmpllgflaaW.PrintWords Go.Proofs.YthlmmcmpllgflaaW.PrintLast Go.Proofs.YthlmmcmpllgflaaW.PrintMore ChainMath
theorem evenCase_l0 (a b : Int) (need z : List Int) (n : Nat) (hn : n ≤ 1000000) : ∀ (d i : Nat) (x y : List Int), i + d = n → x.length = i → y.length = i →
    Ev (fun k => impl_evenCase.l0 k a b (n : Int) (i : Int) need x z y) (need, x ++ List.replicate d a, z, y ++ List.replicate d b)
  | 0, i, x, y, h, _, _ => by
    refine Ev.step (fun k => impl_evenCase.l0.eq_2 ..) ?_
    exact Ev.neg (by omega) ((Ev.now _).to (by simp))
  | d + 1, i, x, y, h, hx, hy => by
    refine Ev.step (fun k => impl_evenCase.l0.eq_2 ..) ?_
    refine Ev.pos (by omega) ?_
    simp only [Option.bind_some]
    refine Ev.pos z40 (Ev.pos z40 ?_)
    rw [wrS (by omega)]
    refine (evenCase_l0 a b need z n hn d (i + 1) (x ++ [a]) (y ++ [b]) (by omega) (by simp [hx]) (by simp [hy])).to ?_
    simp [List.replicate_succ]
theorem evenCase_ev (need : List Int) (a b : Int) (hn : need.length ≤ 1000000) :
    Ev (fun k => impl_evenCase.f k need a b) (need, List.replicate need.length a, List.replicate need.length 0, List.replicate need.length b) := by
  unfold impl_evenCase.f
  refine Ev.bind (Ev.const (copied_eq need (by omega))) (Ev.pos (by omega) (Ev.pos (by omega) ?_))
  exact (evenCase_l0 a b need _ need.length hn need.length 0 [] [] (by omega) rfl rfl).to (by simp)
theorem dsum_planOf (need : List Int) (O : Nat → Bool) (hc : cover need O) : ∀ t, t ≤ need.length → dsum (planOf need O) t = dsum need (nxt O need.length t)
  | 0, _ => by rw [dsum_zero]; exact hc.symm
  | t + 1, h => by
    rw [dsum_succ _ (by rw [planOf_len]; omega), dsum_planOf need O hc t (by omega), planOf_get need O (by omega)]
    by_cases ho : O t = true
    · rw [if_pos ho, nxt_self O ho]; omega
    · have ho : O t = false := by simpa using ho
      rw [if_neg (by simp [ho]), nxt_step O ho (by omega)]; omega
end Go.Proofs.Ythlmmcmpllgflaa.P
namespace Go.Proofs.Ythlmmcmpllgflaa.P
open Go.RowKit Go.Proofs.YthlmmcmpllgflaaW.PrintWords Go.Proofs.YthlmmcmpllgflaaW.PrintLast Go.Proofs.YthlmmcmpllgflaaW.PrintMore
attribute [local go_sem] max2_int min2_int max_two min_two max_three min_three max_four min_four
set_option linter.unusedVariables false
set_option linter.unusedSimpArgs false
def cmp_Compare_int.f (a0 : Int) (a1 : Int) : Option (Int) := (cmp_isNaN_int.f a0).bind fun t443 => ((cmp_isNaN_int.f a1).bind fun t444 => (if t443 = true then (if t444 = true then (some 0) else (some (-1))) else (if t444 = true then (some 1) else (if a0 < a1 then (some (-1)) else (if a0 > a1 then (some 1) else (some 0))))))
set_option maxHeartbeats 8000000 in
set_option maxRecDepth 100000 in
theorem cmp_Compare_int.calls (a0 : Int) (a1 : Int) (r : Int) (w : World) (h : cmp_Compare_int.f a0 a1 = some r) :
 Calls Try.prog 131 #[.int .i64 a0, .int .i64 a1] w fun e w' => e = .returned (.int .i64 r) ∧ Drawn0 w w' := by
 have H : ((cmp_isNaN_int.f a0).bind fun t443 => ((cmp_isNaN_int.f a1).bind fun t444 => (if t443 = true then (if t444 = true then (some 0) else (some (-1))) else (if t444 = true then (some 1) else (if a0 < a1 then (some (-1)) else (if a0 > a1 then (some 1) else (some 0))))))) = some r := h
 clear h
 replace H := Option.bind_eq_some_iff.mp H
 obtain ⟨t443, A30, H⟩ := H
 replace H : ((cmp_isNaN_int.f a1).bind fun t444 => (if t443 = true then (if t444 = true then (some 0) else (some (-1))) else (if t444 = true then (some 1) else (if a0 < a1 then (some (-1)) else (if a0 > a1 then (some 1) else (some 0)))))) = some r := H
 have A3 := Aside0.mk A30
 clear A30
 replace H := Option.bind_eq_some_iff.mp H
 obtain ⟨t444, A40, H⟩ := H
 replace H : (if t443 = true then (if t444 = true then (some 0) else (some (-1))) else (if t444 = true then (some 1) else (if a0 < a1 then (some (-1)) else (if a0 > a1 then (some 1) else (some 0))))) = some r := H
 have A4 := Aside0.mk A40
 clear A40
 by_cases c5 : t443 = true
 · subst c5
   have H1 : (if t444 = true then (some 0) else (some (-1))) = some r := by rw [if_pos rfl] at H; exact H
   clear H
   have H := H1
   clear H1
   by_cases c6 : t444 = true
   · subst c6
     have H1 : (some 0) = some r := by rw [if_pos rfl] at H; exact H
     clear H
     have H := H1
     clear H1
     obtain rfl := Option.some.inj H
     go_enter Try.func131, Try.ntmps131
     go_wp2_with (first | ((with_reducible refine gate_callee (f := 133) rfl ?_); refine goesL_ (some 8) rfl rfl Try.func133 (by kernel_rfl) rfl #[.int .i64 a0] rfl z1 ?_; (with_reducible refine (cmp_isNaN_int.calls a0 true _ A3.out).mono ?_); rintro e w' ⟨rfl, ⟨nd, rfl⟩⟩; refine ⟨_, rfl, ?_⟩) | ((with_reducible refine gate_callee (f := 133) rfl ?_); refine goesL_ (some 10) rfl rfl Try.func133 (by kernel_rfl) rfl #[.int .i64 a1] rfl z1 ?_; (with_reducible refine (cmp_isNaN_int.calls a1 true _ A4.out).mono ?_); rintro e w' ⟨rfl, ⟨nd, rfl⟩⟩; refine ⟨_, rfl, ?_⟩))
     go_ret
     exact ⟨by first | rfl | (simp; done) | (simp [*]; done), by repeat (first | exact Drawn0.refl _ | apply Drawn0.step)⟩
   · replace c6 := Bool.eq_false_iff.mpr c6
     subst c6
     have H1 : (some (-1)) = some r := by rw [if_neg (show ¬ (false = true) by decide)] at H; exact H
     clear H
     have H := H1
     clear H1
     obtain rfl := Option.some.inj H
     go_enter Try.func131, Try.ntmps131
     go_wp2_with (first | ((with_reducible refine gate_callee (f := 133) rfl ?_); refine goesL_ (some 8) rfl rfl Try.func133 (by kernel_rfl) rfl #[.int .i64 a0] rfl z1 ?_; (with_reducible refine (cmp_isNaN_int.calls a0 true _ A3.out).mono ?_); rintro e w' ⟨rfl, ⟨nd, rfl⟩⟩; refine ⟨_, rfl, ?_⟩) | ((with_reducible refine gate_callee (f := 133) rfl ?_); refine goesL_ (some 10) rfl rfl Try.func133 (by kernel_rfl) rfl #[.int .i64 a1] rfl z1 ?_; (with_reducible refine (cmp_isNaN_int.calls a1 false _ A4.out).mono ?_); rintro e w' ⟨rfl, ⟨nd, rfl⟩⟩; refine ⟨_, rfl, ?_⟩))
     go_ret
     exact ⟨by first | rfl | (simp; done) | (simp [*]; done), by repeat (first | exact Drawn0.refl _ | apply Drawn0.step)⟩
 · replace c5 := Bool.eq_false_iff.mpr c5
   subst c5
   have H1 : (if t444 = true then (some 1) else (if a0 < a1 then (some (-1)) else (if a0 > a1 then (some 1) else (some 0)))) = some r := by rw [if_neg (show ¬ (false = true) by decide)] at H; exact H
   clear H
   have H := H1
   clear H1
   by_cases c7 : t444 = true
   · subst c7
     have H1 : (some 1) = some r := by rw [if_pos rfl] at H; exact H
     clear H
     have H := H1
     clear H1
     obtain rfl := Option.some.inj H
     go_enter Try.func131, Try.ntmps131
     go_wp2_with (first | ((with_reducible refine gate_callee (f := 133) rfl ?_); refine goesL_ (some 8) rfl rfl Try.func133 (by kernel_rfl) rfl #[.int .i64 a0] rfl z1 ?_; (with_reducible refine (cmp_isNaN_int.calls a0 false _ A3.out).mono ?_); rintro e w' ⟨rfl, ⟨nd, rfl⟩⟩; refine ⟨_, rfl, ?_⟩) | ((with_reducible refine gate_callee (f := 133) rfl ?_); refine goesL_ (some 10) rfl rfl Try.func133 (by kernel_rfl) rfl #[.int .i64 a1] rfl z1 ?_; (with_reducible refine (cmp_isNaN_int.calls a1 true _ A4.out).mono ?_); rintro e w' ⟨rfl, ⟨nd, rfl⟩⟩; refine ⟨_, rfl, ?_⟩))
     go_ret
     exact ⟨by first | rfl | (simp; done) | (simp [*]; done), by repeat (first | exact Drawn0.refl _ | apply Drawn0.step)⟩
   · replace c7 := Bool.eq_false_iff.mpr c7
     subst c7
     have H1 : (if a0 < a1 then (some (-1)) else (if a0 > a1 then (some 1) else (some 0))) = some r := by rw [if_neg (show ¬ (false = true) by decide)] at H; exact H
     clear H
     have H := H1
     clear H1
     by_cases c8 : a0 < a1
     · rw [if_pos c8] at H
       have c8b0 : decide (a0 < a1) = true := decide_eq_true c8
       clear c8
       obtain rfl := Option.some.inj H
       go_enter Try.func131, Try.ntmps131
       go_wp2_with (first | ((with_reducible refine gate_callee (f := 133) rfl ?_); refine goesL_ (some 8) rfl rfl Try.func133 (by kernel_rfl) rfl #[.int .i64 a0] rfl z1 ?_; (with_reducible refine (cmp_isNaN_int.calls a0 false _ A3.out).mono ?_); rintro e w' ⟨rfl, ⟨nd, rfl⟩⟩; refine ⟨_, rfl, ?_⟩) | ((with_reducible refine gate_callee (f := 133) rfl ?_); refine goesL_ (some 10) rfl rfl Try.func133 (by kernel_rfl) rfl #[.int .i64 a1] rfl z1 ?_; (with_reducible refine (cmp_isNaN_int.calls a1 false _ A4.out).mono ?_); rintro e w' ⟨rfl, ⟨nd, rfl⟩⟩; refine ⟨_, rfl, ?_⟩))
       go_ret
       exact ⟨by first | rfl | (simp; done) | (simp [*]; done), by repeat (first | exact Drawn0.refl _ | apply Drawn0.step)⟩
     · rw [if_neg c8] at H
       have c8b0 : decide (a0 < a1) = false := decide_eq_false c8
       clear c8
       by_cases c9 : a0 > a1
       · rw [if_pos c9] at H
         have c9b0 : decide (a1 < a0) = true := decide_eq_true c9
         clear c9
         obtain rfl := Option.some.inj H
         go_enter Try.func131, Try.ntmps131
         go_wp2_with (first | ((with_reducible refine gate_callee (f := 133) rfl ?_); refine goesL_ (some 8) rfl rfl Try.func133 (by kernel_rfl) rfl #[.int .i64 a0] rfl z1 ?_; (with_reducible refine (cmp_isNaN_int.calls a0 false _ A3.out).mono ?_); rintro e w' ⟨rfl, ⟨nd, rfl⟩⟩; refine ⟨_, rfl, ?_⟩) | ((with_reducible refine gate_callee (f := 133) rfl ?_); refine goesL_ (some 10) rfl rfl Try.func133 (by kernel_rfl) rfl #[.int .i64 a1] rfl z1 ?_; (with_reducible refine (cmp_isNaN_int.calls a1 false _ A4.out).mono ?_); rintro e w' ⟨rfl, ⟨nd, rfl⟩⟩; refine ⟨_, rfl, ?_⟩))
         go_ret
         exact ⟨by first | rfl | (simp; done) | (simp [*]; done), by repeat (first | exact Drawn0.refl _ | apply Drawn0.step)⟩
       · rw [if_neg c9] at H
         have c9b0 : decide (a1 < a0) = false := decide_eq_false c9
         clear c9
         obtain rfl := Option.some.inj H
         go_enter Try.func131, Try.ntmps131
         go_wp2_with (first | ((with_reducible refine gate_callee (f := 133) rfl ?_); refine goesL_ (some 8) rfl rfl Try.func133 (by kernel_rfl) rfl #[.int .i64 a0] rfl z1 ?_; (with_reducible refine (cmp_isNaN_int.calls a0 false _ A3.out).mono ?_); rintro e w' ⟨rfl, ⟨nd, rfl⟩⟩; refine ⟨_, rfl, ?_⟩) | ((with_reducible refine gate_callee (f := 133) rfl ?_); refine goesL_ (some 10) rfl rfl Try.func133 (by kernel_rfl) rfl #[.int .i64 a1] rfl z1 ?_; (with_reducible refine (cmp_isNaN_int.calls a1 false _ A4.out).mono ?_); rintro e w' ⟨rfl, ⟨nd, rfl⟩⟩; refine ⟨_, rfl, ?_⟩))
         go_ret
         exact ⟨by first | rfl | (simp; done) | (simp [*]; done), by repeat (first | exact Drawn0.refl _ | apply Drawn0.step)⟩
end Go.Proofs.Ythlmmcmpllgflaa.P
namespace Go.Proofs.Ythlmmcmpllgflaa.P
open Go.RowKit Go.Proofs.YthlmmcmpllgflaaW.PrintWords Go.Proofs.YthlmmcmpllgflaaW.PrintLast Go.Proofs.YthlmmcmpllgflaaW.PrintMore
attribute [local go_sem] max2_int min2_int max_two min_two max_three min_three max_four min_four
set_option linter.unusedVariables false
set_option linter.unusedSimpArgs false
def slices_Compare_int_int.l0 : Nat → List Int → List Int → List Int → Int → Int → Option (Int)
 | 0, _, _, _, _, _ => none
 | k + 1, x0, x1, x9, x10, x11 => if x11 < x10 then (if 0 ≤ x11 then (if x11 < (x9.length : Int) then (if x11 ≥ (x1.length : Int) then (some 1) else (if x11 < (x1.length : Int) then ((cmp_Compare_int.f (rd x9 x11) (rd x1 x11)).bind fun t447 => (if t447 = 0 then (slices_Compare_int_int.l0 k x0 x1 x9 x10 (wrap64 (x11 + 1))) else (some t447))) else (none))) else (none)) else (none)) else (if (x0.length : Int) < (x1.length : Int) then (some (-1)) else (some 0))
def slices_Compare_int_int.f (k : Nat) (l0 : List Int) (l1 : List Int) : Option (Int) := slices_Compare_int_int.l0 k l0 l1 l0 (l0.length : Int) 0
set_option maxHeartbeats 8000000 in
set_option maxRecDepth 100000 in
theorem slices_Compare_int_int.calls (k : Nat) (A0 : Option Addr) (c0 : Nat) (l0 : List Int) (A1 : Option Addr) (c1 : Nat) (l1 : List Int) (r : Int) (w : World) (hr0 : Kd.C (Kd.int .i64) w A0 l0.length l0) (hc0 : l0.length ≤ c0) (hr1 : Kd.C (Kd.int .i64) w A1 l1.length l1) (hc1 : l1.length ≤ c1) (h : slices_Compare_int_int.f k l0 l1 = some r) :
 Calls Try.prog 119 #[.slice A0 l0.length c0, .slice A1 l1.length c1] w fun e w' => e = .returned (.int .i64 r) ∧ Drawn0 w w' := by
 have HR0 := Aside0.mk hr0
 have HC0 := Aside0.mk hc0
 clear hr0 hc0
 have HR1 := Aside0.mk hr1
 have HC1 := Aside0.mk hc1
 clear hr1 hc1
 have H : (slices_Compare_int_int.l0 k l0 l1 l0 (l0.length : Int) 0) = some r := h
 clear h
 have H' := Aside0.mk H
 clear H
 go_enter Try.func119, Try.ntmps119
 go_wp2
 go_loopg [11] k (fun kq v11 w' => ∃ (x11_1 : Int), v11 = .int .i64 x11_1 ∧ Aside0 (slices_Compare_int_int.l0 kq l0 l1 l0 (l0.length : Int) x11_1 = some r) ∧ Aside0 (kq ≤ k) ∧ Drawn0 w w')
 case atStart => exact ⟨(0), z3, H', ⟨Nat.le_refl _⟩, by repeat (first | exact Drawn0.refl _ | apply Drawn0.step)⟩
 case round =>
  clear H'
  try clear c1
  try clear p2
  obtain ⟨x11_1, rfl, HA, HK1, ⟨m1, rfl⟩⟩ := hrel
  cases gk with
  | zero => exact absurd HA.out (by simp [slices_Compare_int_int.l0])
  | succ k1 =>
   have H := HA.out
   clear HA
   simp only [slices_Compare_int_int.l0] at H
   by_cases c3 : x11_1 < (l0.length : Int)
   · rw [if_pos c3] at H
     have c3b0 : decide (x11_1 < (l0.length : Int)) = true := decide_eq_true c3
     clear c3
     by_cases c4 : 0 ≤ x11_1
     · rw [if_pos c4] at H
       have c4b0 : decide (0 ≤ x11_1) = true := decide_eq_true c4
       clear c4
       by_cases c5 : x11_1 < (l0.length : Int)
       · rw [if_pos c5] at H
         have c5b0 : decide (x11_1 < (l0.length : Int)) = true := decide_eq_true c5
         clear c5
         by_cases c6 : x11_1 ≥ (l1.length : Int)
         · rw [if_pos c6] at H
           have c6b0 : decide ((l1.length : Int) ≤ x11_1) = true := decide_eq_true c6
           clear c6
           obtain rfl := Option.some.inj H
           have p445 : 0 ≤ (x11_1 : Int) := of_decide_eq_true z2
           have q445 : x11_1 < (l0.length : Int) := of_decide_eq_true z2
           obtain ⟨ad445, e445, hx445_0⟩ := Kd.at_int HR0.out x11_1 p445 q445
           cases e445
           replace p445 := eq_true p445
           replace q445 := eq_true q445
           go_wp2
           go_ret
           exact ⟨by first | rfl | (simp; done) | (simp [*]; done), by repeat (first | exact Drawn0.refl _ | apply Drawn0.step)⟩
         · rw [if_neg c6] at H
           have c6b0 : decide ((l1.length : Int) ≤ x11_1) = false := decide_eq_false c6
           clear c6
           by_cases c7 : x11_1 < (l1.length : Int)
           · rw [if_pos c7] at H
             have c7b0 : decide (x11_1 < (l1.length : Int)) = true := decide_eq_true c7
             clear c7
             replace H := Option.bind_eq_some_iff.mp H
             obtain ⟨t447, A80, H⟩ := H
             replace H : (if t447 = 0 then (slices_Compare_int_int.l0 k1 l0 l1 l0 (l0.length : Int) (wrap64 (x11_1 + 1))) else (some t447)) = some r := H
             have A8 := Aside0.mk A80
             clear A80
             by_cases c9 : t447 = 0
             · rw [if_pos c9] at H
               have c9b0 : (t447 == 0) = true := beq_iff_eq.mpr c9
               have c9b1 : (t447 != 0) = false := bne_eq_false_iff_eq.mpr c9
               clear c9
               have H' := Aside0.mk H
               clear H
               have p445 : 0 ≤ (x11_1 : Int) := of_decide_eq_true z2
               have q445 : x11_1 < (l0.length : Int) := of_decide_eq_true z2
               obtain ⟨ad445, e445, hx445_0⟩ := Kd.at_int HR0.out x11_1 p445 q445
               cases e445
               replace p445 := eq_true p445
               replace q445 := eq_true q445
               have p446 : 0 ≤ (x11_1 : Int) := of_decide_eq_true z2
               have q446 : x11_1 < (l1.length : Int) := of_decide_eq_true z2
               obtain ⟨ad446, e446, hx446_0⟩ := Kd.at_int HR1.out x11_1 p446 q446
               cases e446
               replace p446 := eq_true p446
               replace q446 := eq_true q446
               go_wp2_with (first | ((with_reducible refine gate_callee (f := 131) rfl ?_); refine goesL_ (some 26) rfl rfl Try.func131 (by kernel_rfl) rfl #[.int .i64 (rd l0 x11_1), .int .i64 (rd l1 x11_1)] rfl z1 ?_; (with_reducible refine (cmp_Compare_int.calls (rd l0 x11_1) (rd l1 x11_1) t447 _ A8.out).mono ?_); rintro e w' ⟨rfl, ⟨nd, rfl⟩⟩; refine ⟨_, rfl, ?_⟩))
               go_roundg k1
               case measure => have := HK1.out; omega
               case rel => exact ⟨(wrap64 (x11_1 + 1)), z3, H', ⟨by have := HK1.out; omega⟩, by repeat (first | exact Drawn0.refl _ | apply Drawn0.step)⟩
             · rw [if_neg c9] at H
               have c9b0 : (t447 == 0) = false := beq_eq_false_iff_ne.mpr c9
               have c9b1 : (t447 != 0) = true := bne_iff_ne.mpr c9
               obtain rfl := Option.some.inj H
               have p445 : 0 ≤ (x11_1 : Int) := of_decide_eq_true z2
               have q445 : x11_1 < (l0.length : Int) := of_decide_eq_true z2
               obtain ⟨ad445, e445, hx445_0⟩ := Kd.at_int HR0.out x11_1 p445 q445
               cases e445
               replace p445 := eq_true p445
               replace q445 := eq_true q445
               have p446 : 0 ≤ (x11_1 : Int) := of_decide_eq_true z2
               have q446 : x11_1 < (l1.length : Int) := of_decide_eq_true z2
               obtain ⟨ad446, e446, hx446_0⟩ := Kd.at_int HR1.out x11_1 p446 q446
               cases e446
               replace p446 := eq_true p446
               replace q446 := eq_true q446
               go_wp2_with (first | ((with_reducible refine gate_callee (f := 131) rfl ?_); refine goesL_ (some 26) rfl rfl Try.func131 (by kernel_rfl) rfl #[.int .i64 (rd l0 x11_1), .int .i64 (rd l1 x11_1)] rfl z1 ?_; (with_reducible refine (cmp_Compare_int.calls (rd l0 x11_1) (rd l1 x11_1) t447 _ A8.out).mono ?_); rintro e w' ⟨rfl, ⟨nd, rfl⟩⟩; refine ⟨_, rfl, ?_⟩))
               go_ret
               exact ⟨by first | rfl | (simp; done) | (simp [*]; done), by repeat (first | exact Drawn0.refl _ | apply Drawn0.step)⟩
           · rw [if_neg c7] at H
             exact absurd H (by simp)
       · rw [if_neg c5] at H
         exact absurd H (by simp)
     · rw [if_neg c4] at H
       exact absurd H (by simp)
   · rw [if_neg c3] at H
     have c3b0 : decide (x11_1 < (l0.length : Int)) = false := decide_eq_false c3
     clear c3
     by_cases c10 : (l0.length : Int) < (l1.length : Int)
     · rw [if_pos c10] at H
       have c10b0 : decide ((l0.length : Int) < (l1.length : Int)) = true := decide_eq_true c10
       have c10b1 : decide (l0.length < l1.length) = true := decide_eq_true (Int.ofNat_lt.mp c10)
       clear c10
       obtain rfl := Option.some.inj H
       go_wp2
       go_ret
       exact ⟨by first | rfl | (simp; done) | (simp [*]; done), by repeat (first | exact Drawn0.refl _ | apply Drawn0.step)⟩
     · rw [if_neg c10] at H
       have c10b0 : decide ((l0.length : Int) < (l1.length : Int)) = false := decide_eq_false c10
       have c10b1 : decide (l0.length < l1.length) = false := decide_eq_false (fun h => c10 (Int.ofNat_lt.mpr h))
       clear c10
       obtain rfl := Option.some.inj H
       go_wp2
       go_ret
       exact ⟨by first | rfl | (simp; done) | (simp [*]; done), by repeat (first | exact Drawn0.refl _ | apply Drawn0.step)⟩
end Go.Proofs.Ythlmmcmpllgflaa.P
namespace Go.Proofs.Ythlmmcmpllgflaa.P
open Go.RowKit Go.Proofs.YthlmmcmpllgflaaW.PrintWords Go.Proofs.YthlmmcmpllgflaaW.PrintLast Go.Proofs.YthlmmcmpllgflaaW.PrintMore
attribute [local go_sem] max2_int min2_int max_two min_two max_three min_three max_four min_four
set_option linter.unusedVariables false
set_option linter.unusedSimpArgs false
end Go.Proofs.Ythlmmcmpllgflaa.P
namespace Go.Proofs.Ythlmmcmpllgflaa.P
open Go.RowKit Go.Proofs.YthlmmcmpllgflaaW.PrintWords Go.Proofs.YthlmmcmpllgflaaW.PrintLast Go.Proofs.YthlmmcmpllgflaaW.PrintMore
attribute [local go_sem] max2_int min2_int max_two min_two max_three min_three max_four min_four
set_option linter.unusedVariables false
set_option linter.unusedSimpArgs false
end Go.Proofs.Ythlmmcmpllgflaa.P
namespace Go.Proofs.Ythlmmcmpllgflaa.P
open Go.RowKit Go.Proofs.YthlmmcmpllgflaaW.PrintWords Go.Proofs.YthlmmcmpllgflaaW.PrintLast Go.Proofs.YthlmmcmpllgflaaW.PrintMore
attribute [local go_sem] max2_int min2_int max_two min_two max_three min_three max_four min_four
set_option linter.unusedVariables false
set_option linter.unusedSimpArgs false
end Go.Proofs.Ythlmmcmpllgflaa.P
namespace Go.Proofs.Ythlmmcmpllgflaa.P
open Go.RowKit Go.Proofs.YthlmmcmpllgflaaW.PrintWords Go.Proofs.YthlmmcmpllgflaaW.PrintLast Go.Proofs.YthlmmcmpllgflaaW.PrintMore
attribute [local go_sem] max2_int min2_int max_two min_two max_three min_three max_four min_four
set_option linter.unusedVariables false
set_option linter.unusedSimpArgs false
end Go.Proofs.Ythlmmcmpllgflaa.P
namespace Go.Proofs.Ythlmmcmpllgflaa.P
open Go.RowKit Go.Proofs.YthlmmcmpllgflaaW.PrintWords Go.Proofs.YthlmmcmpllgflaaW.PrintLast Go.Proofs.YthlmmcmpllgflaaW.PrintMore ChainMath
def cmpL : List Int → List Int → Int
  | [], [] => 0
  | [], _ :: _ => -1
  | _ :: _, [] => 1
  | x :: a, y :: b => if x < y then -1 else if x > y then 1 else cmpL a b
theorem cmpCompare_eq (a b : Int) : cmp_Compare_int.f a b = some (if a < b then -1 else if a > b then 1 else 0) := by
  unfold cmp_Compare_int.f cmp_isNaN_int.f
  by_cases h : a < b
  · simp [h]
  · by_cases h2 : a > b <;> simp [h, h2]
theorem Compare_l0 (a b : List Int) (ha : a.length < 4611686018427387904) : ∀ d i, i + d = a.length → Ev (fun k => slices_Compare_int_int.l0 k a b a (a.length : Int) (i : Int)) (cmpL (a.drop i) (b.drop i))
  | 0, i, h => by
    refine Ev.step (fun k => slices_Compare_int_int.l0.eq_2 ..) ?_
    refine Ev.neg (by omega) ?_
    rw [List.drop_of_length_le (l := a) (by omega)]
    by_cases hl : a.length < b.length
    · refine Ev.pos (by omega) ((Ev.now _).to ?_)
      rw [drop_cons b 0 (by omega)]; rfl
    · refine Ev.neg (by omega) ((Ev.now _).to ?_)
      rw [List.drop_of_length_le (l := b) (by omega)]; rfl
  | d + 1, i, h => by
    refine Ev.step (fun k => slices_Compare_int_int.l0.eq_2 ..) ?_
    refine Ev.pos (by omega) (Ev.pos (by omega) (Ev.pos (by omega) ?_))
    rw [drop_cons a 0 (by omega)]
    by_cases hl : (i : Int) ≥ b.length
    · refine Ev.pos hl ((Ev.now _).to ?_)
      rw [List.drop_of_length_le (l := b) (by omega)]; rfl
    · refine Ev.neg hl (Ev.pos (by omega) (Ev.bind (Ev.const (cmpCompare_eq _ _)) ?_))
      rw [drop_cons b 0 (by omega), rd_nat, rd_nat]
      simp only [cmpL]
      by_cases h1 : a.getD i 0 < b.getD i 0
      · rw [if_pos h1, if_pos h1]; exact Ev.neg (by omega) (Ev.now _)
      · rw [if_neg h1, if_neg h1]
        by_cases h2 : a.getD i 0 > b.getD i 0
        · rw [if_pos h2, if_pos h2]; exact Ev.neg (by omega) (Ev.now _)
        · rw [if_neg h2, if_neg h2]
          refine Ev.pos rfl ?_
          rw [wrS (by omega)]; exact Compare_l0 a b ha d (i + 1) (by omega)
theorem Compare_ev (a b : List Int) (ha : a.length < 4611686018427387904) : Ev (fun k => slices_Compare_int_int.f k a b) (cmpL a b) := by
  unfold slices_Compare_int_int.f
  exact (Compare_l0 a b ha a.length 0 (by omega)).to (by simp)
theorem per_succ (O : Nat → Bool) (n : Nat) : per O (n + 1) = per O n ++ (if O n then [(n : Int)] else []) := by
  unfold per; rw [perN_succ, List.map_append]; split <;> simp
theorem per_len_le (O : Nat → Bool) (n : Nat) : (per O n).length ≤ n := by
  rw [per_len]
  induction n with
  | zero => exact Nat.le_refl _
  | succ n ih => simp only [cnt]; split <;> omega
end Go.Proofs.Ythlmmcmpllgflaa.P
namespace Go.Proofs.Ythlmmcmpllgflaa.P
open Go.RowKit Go.Proofs.YthlmmcmpllgflaaW.PrintWords Go.Proofs.YthlmmcmpllgflaaW.PrintLast Go.Proofs.YthlmmcmpllgflaaW.PrintMore
attribute [local go_sem] max2_int min2_int max_two min_two max_three min_three max_four min_four
set_option linter.unusedVariables false
set_option linter.unusedSimpArgs false
mutual
def spec_l2Covers.l0 : Nat → List Int → Int → List Int → List Int → List Int → List Int → Option (Bool)
 | 0, _, _, _, _, _, _ => none
 | k + 1, x1, x5, x1144000, x1144001, x1144002, x1144003 => if x5 < (x1144000.length : Int) then (if (x1.length : Int) > 0 then (if 0 < (x1.length : Int) then (spec_l2Covers.j1 k x1 x5 (decide ((rd x1 0) ≤ x5)) x1144000 x1144001 x1144002 x1144003) else (none)) else (spec_l2Covers.j1 k x1 x5 false x1144000 x1144001 x1144002 x1144003)) else (some true)
def spec_l2Covers.j1 : Nat → List Int → Int → Bool → List Int → List Int → List Int → List Int → Option (Bool)
 | 0, _, _, _, _, _, _, _ => none
 | k + 1, x1, x5, x22, x1144000, x1144001, x1144002, x1144003 => if x22 = true then (some true) else (if 0 ≤ x5 then (if x5 < (x1144000.length : Int) then (if (rd x1144000 x5) > 0 then (some false) else (spec_l2Covers.l0 k x1 (wrap64 (x5 + 1)) x1144000 x1144001 x1144002 x1144003)) else (none)) else (none))
end
def spec_l2Covers.f (k : Nat) (l0_0 : List Int) (l0_1 : List Int) (l0_2 : List Int) (l0_3 : List Int) (l1 : List Int) : Option (Bool) := spec_l2Covers.l0 k l1 0 l0_0 l0_1 l0_2 l0_3
set_option maxHeartbeats 8000000 in
set_option maxRecDepth 100000 in
theorem spec_l2Covers.calls (k : Nat) (A0_0 : Option Addr) (c0_0 : Nat) (l0_0 : List Int) (A0_1 : Option Addr) (c0_1 : Nat) (l0_1 : List Int) (A0_2 : Option Addr) (c0_2 : Nat) (l0_2 : List Int) (A0_3 : Option Addr) (c0_3 : Nat) (l0_3 : List Int) (A1 : Option Addr) (c1 : Nat) (l1 : List Int) (r : Bool) (w : World) (hr0_0 : Kd.C (Kd.int .i64) w A0_0 l0_0.length l0_0) (hc0_0 : l0_0.length ≤ c0_0) (hr0_1 : Kd.C (Kd.int .i64) w A0_1 l0_1.length l0_1) (hc0_1 : l0_1.length ≤ c0_1) (hr0_2 : Kd.C (Kd.int .i64) w A0_2 l0_2.length l0_2) (hc0_2 : l0_2.length ≤ c0_2) (hr0_3 : Kd.C (Kd.int .i64) w A0_3 l0_3.length l0_3) (hc0_3 : l0_3.length ≤ c0_3) (hr1 : Kd.C (Kd.int .i64) w A1 l1.length l1) (hc1 : l1.length ≤ c1) (h : spec_l2Covers.f k l0_0 l0_1 l0_2 l0_3 l1 = some r) :
 Calls Try.prog 123 #[.agg #[.slice A0_0 l0_0.length c0_0, .slice A0_1 l0_1.length c0_1, .slice A0_2 l0_2.length c0_2, .slice A0_3 l0_3.length c0_3], .slice A1 l1.length c1] w fun e w' => e = .returned (.bool r) ∧ Below w.heap.size w w' := by
 have hu49 := Try.underlying49
 have HR0_0 := Aside0.mk hr0_0
 have HC0_0 := Aside0.mk hc0_0
 clear hr0_0 hc0_0
 have HR0_1 := Aside0.mk hr0_1
 have HC0_1 := Aside0.mk hc0_1
 clear hr0_1 hc0_1
 have HR0_2 := Aside0.mk hr0_2
 have HC0_2 := Aside0.mk hc0_2
 clear hr0_2 hc0_2
 have HR0_3 := Aside0.mk hr0_3
 have HC0_3 := Aside0.mk hc0_3
 clear hr0_3 hc0_3
 have HR1 := Aside0.mk hr1
 have HC1 := Aside0.mk hc1
 clear hr1 hc1
 have HB := Aside0.mk (Below.refl w.heap.size w)
 have H : (spec_l2Covers.l0 k l1 0 l0_0 l0_1 l0_2 l0_3) = some r := h
 clear h
 have H' := Aside0.mk H
 clear H
 go_enter Try.func123, Try.ntmps123
 go_wp2_with (first | ((with_reducible refine gate_dst (N := 2) rfl ?_); refine box_event ?hg (N := 2) ?hd (cs := #[.slice A0_0 l0_0.length c0_0, .slice A0_1 l0_1.length c0_1, .slice A0_2 l0_2.length c0_2, .slice A0_3 l0_3.length c0_3]) (t := 49) ?hr ?_; (case hd => rfl); (case hg => rfl); (case hr => first | (go_simp; done) | (go_simp; rfl)); intro gb1143 hg w3 hbox hb; have n0_ := Aside0.mk (below_step zH0 hb); have n1_ := Aside0.mk (hbox); have n2_ := Aside0.mk ((z6 : w.heap.size ≤ gb1143)); have n3_ := Aside0.mk ((z6 : w.heap.size ≤ gb1143)); clear HB; have HB := n0_; have BK1143 := n1_; have GW1143 := n2_; have GE1143 := n3_; clear n0_ n1_ n2_ n3_; clear hb hbox hg))
 go_loopg [5] k (fun kq v5 w' => ∃ (x5_1 : Int), v5 = .int .i64 x5_1 ∧ Aside0 (spec_l2Covers.l0 kq l1 x5_1 l0_0 l0_1 l0_2 l0_3 = some r) ∧ Aside0 (kq ≤ k) ∧ Aside0 (w'.heap[gb1143]? = some (.cells #[(.slice A0_0 l0_0.length c0_0), (.slice A0_1 l0_1.length c0_1), (.slice A0_2 l0_2.length c0_2), (.slice A0_3 l0_3.length c0_3)] 49 (0, 0))) ∧ Aside0 (Below w.heap.size w w'))
 case atStart => exact ⟨(0), z3, H', ⟨Nat.le_refl _⟩, ⟨by (with_reducible repeat (first | refine blk_drewN ?_ _ | refine blk_drew ?_ | refine blk_alloc ?_ _)); exact BK1143.out⟩, ⟨by repeat (first | (with_reducible first | exact HB.out | apply below_alloc | apply pw_below_drewN | apply below_drew1 | refine below_set ?_ GE1143.out) | exact HB.out)⟩⟩
 case round =>
  clear H'
  try clear c1
  try clear p2
  obtain ⟨x5_1, rfl, HA, HK1, BK1143, HB⟩ := hrel
  cases gk with
  | zero => exact absurd HA.out (by simp [spec_l2Covers.l0])
  | succ k1 =>
   have H := HA.out
   clear HA
   simp only [spec_l2Covers.l0] at H
   by_cases c4 : x5_1 < (l0_0.length : Int)
   · rw [if_pos c4] at H
     have c4b0 : decide (x5_1 < (l0_0.length : Int)) = true := decide_eq_true c4
     clear c4
     have HC5 := Aside0.mk H
     clear H
     have hcz6_0 : wr.cell? ⟨gb1143, 0, none⟩ = some (.slice A0_0 l0_0.length c0_0) := (blk_cell BK1143.out 0).trans rfl
     have hcz6_1 : wr.cell? ⟨gb1143, 1, none⟩ = some (.slice A0_1 l0_1.length c0_1) := (blk_cell BK1143.out 1).trans rfl
     have hcz6_2 : wr.cell? ⟨gb1143, 2, none⟩ = some (.slice A0_2 l0_2.length c0_2) := (blk_cell BK1143.out 2).trans rfl
     have hcz6_3 : wr.cell? ⟨gb1143, 3, none⟩ = some (.slice A0_3 l0_3.length c0_3) := (blk_cell BK1143.out 3).trans rfl
     have hfz6_0 := blk_frozen BK1143.out 0
     have hfz6_1 := blk_frozen BK1143.out 1
     have hfz6_2 := blk_frozen BK1143.out 2
     have hfz6_3 := blk_frozen BK1143.out 3
     go_upto_region 4 with (fail)
     go_cut [22] (fun v22 wc => ∃ (kq : Nat) (x22_4 : Bool), v22 = .bool x22_4 ∧ Aside0 (spec_l2Covers.j1 kq l1 x5_1 x22_4 l0_0 l0_1 l0_2 l0_3 = some r) ∧ Aside0 (kq ≤ k1) ∧ Aside0 (wc.heap[gb1143]? = some (.cells #[(.slice A0_0 l0_0.length c0_0), (.slice A0_1 l0_1.length c0_1), (.slice A0_2 l0_2.length c0_2), (.slice A0_3 l0_3.length c0_3)] 49 (0, 0))) ∧ Aside0 (Below w.heap.size w wc))
     case first =>
      have H := HC5.out
      clear HC5
      by_cases c7 : (l1.length : Int) > 0
      · rw [if_pos c7] at H
        have c7b0 : decide (0 < (l1.length : Int)) = true := decide_eq_true c7
        have c7b1 : decide (0 < l1.length) = true := decide_eq_true (by omega)
        clear c7
        (first | rw [c7b0] | (simp only [i64_w, i32_w]; rw [c7b0]) | skip)
        by_cases c8 : 0 < (l1.length : Int)
        · rw [if_pos c8] at H
          have c8b0 : decide (0 < (l1.length : Int)) = true := decide_eq_true c8
          have c8b1 : decide (0 < l1.length) = true := decide_eq_true (by omega)
          clear c8
          have H' := Aside0.mk H
          clear H
          have p1144 : 0 ≤ (0 : Int) := (by omega)
          have q1144 : 0 < (l1.length : Int) := of_decide_eq_true z2
          obtain ⟨ad1144, e1144, hx1144_0⟩ := Kd.at_int HR1.out 0 p1144 q1144
          cases e1144
          have qi1144 : (0 < l1.length) = True := eq_true (by omega)
          (try rw [show ((0 : Int)).toNat = 0 from rfl] at hx1144_0)
          (try rw [Addr.add_zero'] at hx1144_0)
          replace hx1144_0 := (HB.out.cell (World.block_lt_of_cell? w _ hx1144_0)).trans hx1144_0
          replace p1144 := eq_true p1144
          replace q1144 := eq_true q1144
          go_wp2
          go_meet
          case rel => exact ⟨_, (decide ((rd l1 0) ≤ x5_1)), z3, H', ⟨by have := HK1.out; first | omega | exact Nat.le_refl _⟩, ⟨by (with_reducible repeat (first | refine blk_drewN ?_ _ | refine blk_drew ?_ | refine blk_alloc ?_ _)); exact BK1143.out⟩, ⟨by repeat (first | (with_reducible first | exact HB.out | apply below_alloc | apply pw_below_drewN | apply below_drew1 | refine below_set ?_ GE1143.out) | exact HB.out)⟩⟩
        · rw [if_neg c8] at H
          exact absurd H (by simp)
      · rw [if_neg c7] at H
        have c7b0 : decide (0 < (l1.length : Int)) = false := decide_eq_false c7
        have c7b1 : decide (0 < l1.length) = false := decide_eq_false (by omega)
        clear c7
        (first | rw [c7b0] | (simp only [i64_w, i32_w]; rw [c7b0]) | skip)
        have H' := Aside0.mk H
        clear H
        go_wp2
        go_meet
        case rel => exact ⟨_, (false), z3, H', ⟨by have := HK1.out; first | omega | exact Nat.le_refl _⟩, ⟨by (with_reducible repeat (first | refine blk_drewN ?_ _ | refine blk_drew ?_ | refine blk_alloc ?_ _)); exact BK1143.out⟩, ⟨by repeat (first | (with_reducible first | exact HB.out | apply below_alloc | apply pw_below_drewN | apply below_drew1 | refine below_set ?_ GE1143.out) | exact HB.out)⟩⟩
     case rest =>
      clear HC5
      try clear c1
      try clear p1
      try clear q1
      try clear hx1
      try clear qi1
      try clear p2
      try clear c4
      try clear c4b0
      try clear c7
      try clear c7b0
      try clear c7b1
      try clear c8
      try clear c8b0
      try clear c8b1
      try clear hcz6_0
      try clear hcz6_1
      try clear hcz6_2
      try clear hcz6_3
      try clear hfz6_0
      try clear hfz6_1
      try clear hfz6_2
      try clear hfz6_3
      try clear hx1144_0
      try clear p1144
      try clear p2
      try clear q1144
      obtain ⟨kq, x22_4, rfl, HA, HJ4, BK1143, HB⟩ := hcut
      cases kq with
      | zero => exact absurd HA.out (by simp [spec_l2Covers.j1])
      | succ kj4 =>
       have H := HA.out
       clear HA
       simp only [spec_l2Covers.j1] at H
       by_cases c9 : x22_4 = true
       · subst c9
         have H1 : (some true) = some r := by rw [if_pos rfl] at H; exact H
         clear H
         have H := H1
         clear H1
         obtain rfl := Option.some.inj H
         go_wp2
         go_ret
         exact ⟨by first | rfl | (simp [errW_none, errW_some] <;> rfl) | (simp [*, errW_none, errW_some] <;> rfl), by repeat (first | (with_reducible first | exact HB.out | apply below_alloc | apply pw_below_drewN | apply below_drew1 | refine below_set ?_ GE1143.out) | exact HB.out)⟩
       · replace c9 := Bool.eq_false_iff.mpr c9
         subst c9
         have H1 : (if 0 ≤ x5_1 then (if x5_1 < (l0_0.length : Int) then (if (rd l0_0 x5_1) > 0 then (some false) else (spec_l2Covers.l0 kj4 l1 (wrap64 (x5_1 + 1)) l0_0 l0_1 l0_2 l0_3)) else (none)) else (none)) = some r := by rw [if_neg (show ¬ (false = true) by decide)] at H; exact H
         clear H
         have H := H1
         clear H1
         by_cases c10 : 0 ≤ x5_1
         · rw [if_pos c10] at H
           have c10b0 : decide (0 ≤ x5_1) = true := decide_eq_true c10
           clear c10
           by_cases c11 : x5_1 < (l0_0.length : Int)
           · rw [if_pos c11] at H
             have c11b0 : decide (x5_1 < (l0_0.length : Int)) = true := decide_eq_true c11
             clear c11
             by_cases c12 : (rd l0_0 x5_1) > 0
             · rw [if_pos c12] at H
               have c12b0 : decide (0 < (rd l0_0 x5_1)) = true := decide_eq_true c12
               clear c12
               obtain rfl := Option.some.inj H
               have hcz13_0 : wc.cell? ⟨gb1143, 0, none⟩ = some (.slice A0_0 l0_0.length c0_0) := (blk_cell BK1143.out 0).trans rfl
               have hcz13_1 : wc.cell? ⟨gb1143, 1, none⟩ = some (.slice A0_1 l0_1.length c0_1) := (blk_cell BK1143.out 1).trans rfl
               have hcz13_2 : wc.cell? ⟨gb1143, 2, none⟩ = some (.slice A0_2 l0_2.length c0_2) := (blk_cell BK1143.out 2).trans rfl
               have hcz13_3 : wc.cell? ⟨gb1143, 3, none⟩ = some (.slice A0_3 l0_3.length c0_3) := (blk_cell BK1143.out 3).trans rfl
               have hfz13_0 := blk_frozen BK1143.out 0
               have hfz13_1 := blk_frozen BK1143.out 1
               have hfz13_2 := blk_frozen BK1143.out 2
               have hfz13_3 := blk_frozen BK1143.out 3
               have p1145 : 0 ≤ (x5_1 : Int) := of_decide_eq_true z2
               have q1145 : x5_1 < (l0_0.length : Int) := of_decide_eq_true z2
               obtain ⟨ad1145, e1145, hx1145_0⟩ := Kd.at_int HR0_0.out x5_1 p1145 q1145
               cases e1145
               replace hx1145_0 := (HB.out.cell (World.block_lt_of_cell? w _ hx1145_0)).trans hx1145_0
               replace p1145 := eq_true p1145
               replace q1145 := eq_true q1145
               go_wp2
               go_ret
               exact ⟨by first | rfl | (simp [errW_none, errW_some] <;> rfl) | (simp [*, errW_none, errW_some] <;> rfl), by repeat (first | (with_reducible first | exact HB.out | apply below_alloc | apply pw_below_drewN | apply below_drew1 | refine below_set ?_ GE1143.out) | exact HB.out)⟩
             · rw [if_neg c12] at H
               have c12b0 : decide (0 < (rd l0_0 x5_1)) = false := decide_eq_false c12
               clear c12
               have H' := Aside0.mk H
               clear H
               have hcz14_0 : wc.cell? ⟨gb1143, 0, none⟩ = some (.slice A0_0 l0_0.length c0_0) := (blk_cell BK1143.out 0).trans rfl
               have hcz14_1 : wc.cell? ⟨gb1143, 1, none⟩ = some (.slice A0_1 l0_1.length c0_1) := (blk_cell BK1143.out 1).trans rfl
               have hcz14_2 : wc.cell? ⟨gb1143, 2, none⟩ = some (.slice A0_2 l0_2.length c0_2) := (blk_cell BK1143.out 2).trans rfl
               have hcz14_3 : wc.cell? ⟨gb1143, 3, none⟩ = some (.slice A0_3 l0_3.length c0_3) := (blk_cell BK1143.out 3).trans rfl
               have hfz14_0 := blk_frozen BK1143.out 0
               have hfz14_1 := blk_frozen BK1143.out 1
               have hfz14_2 := blk_frozen BK1143.out 2
               have hfz14_3 := blk_frozen BK1143.out 3
               have p1145 : 0 ≤ (x5_1 : Int) := of_decide_eq_true z2
               have q1145 : x5_1 < (l0_0.length : Int) := of_decide_eq_true z2
               obtain ⟨ad1145, e1145, hx1145_0⟩ := Kd.at_int HR0_0.out x5_1 p1145 q1145
               cases e1145
               replace hx1145_0 := (HB.out.cell (World.block_lt_of_cell? w _ hx1145_0)).trans hx1145_0
               replace p1145 := eq_true p1145
               replace q1145 := eq_true q1145
               go_wp2
               go_roundg kj4
               case measure => have := HK1.out; have := HJ4.out; omega
               case rel => exact ⟨(wrap64 (x5_1 + 1)), z3, H', ⟨by have := HK1.out; have := HJ4.out; omega⟩, ⟨by (with_reducible repeat (first | refine blk_drewN ?_ _ | refine blk_drew ?_ | refine blk_alloc ?_ _)); exact BK1143.out⟩, ⟨by repeat (first | (with_reducible first | exact HB.out | apply below_alloc | apply pw_below_drewN | apply below_drew1 | refine below_set ?_ GE1143.out) | exact HB.out)⟩⟩
           · rw [if_neg c11] at H
             exact absurd H (by simp)
         · rw [if_neg c10] at H
           exact absurd H (by simp)
   · rw [if_neg c4] at H
     have c4b0 : decide (x5_1 < (l0_0.length : Int)) = false := decide_eq_false c4
     clear c4
     obtain rfl := Option.some.inj H
     have hcz15_0 : wr.cell? ⟨gb1143, 0, none⟩ = some (.slice A0_0 l0_0.length c0_0) := (blk_cell BK1143.out 0).trans rfl
     have hcz15_1 : wr.cell? ⟨gb1143, 1, none⟩ = some (.slice A0_1 l0_1.length c0_1) := (blk_cell BK1143.out 1).trans rfl
     have hcz15_2 : wr.cell? ⟨gb1143, 2, none⟩ = some (.slice A0_2 l0_2.length c0_2) := (blk_cell BK1143.out 2).trans rfl
     have hcz15_3 : wr.cell? ⟨gb1143, 3, none⟩ = some (.slice A0_3 l0_3.length c0_3) := (blk_cell BK1143.out 3).trans rfl
     have hfz15_0 := blk_frozen BK1143.out 0
     have hfz15_1 := blk_frozen BK1143.out 1
     have hfz15_2 := blk_frozen BK1143.out 2
     have hfz15_3 := blk_frozen BK1143.out 3
     go_wp2
     go_ret
     exact ⟨by first | rfl | (simp [errW_none, errW_some] <;> rfl) | (simp [*, errW_none, errW_some] <;> rfl), by repeat (first | (with_reducible first | exact HB.out | apply below_alloc | apply pw_below_drewN | apply below_drew1 | refine below_set ?_ GE1143.out) | exact HB.out)⟩
end Go.Proofs.Ythlmmcmpllgflaa.P
namespace Go.Proofs.Ythlmmcmpllgflaa.P
open Go.RowKit Go.Proofs.YthlmmcmpllgflaaW.PrintWords Go.Proofs.YthlmmcmpllgflaaW.PrintLast Go.Proofs.YthlmmcmpllgflaaW.PrintMore
attribute [local go_sem] max2_int min2_int max_two min_two max_three min_three max_four min_four
set_option linter.unusedVariables false
set_option linter.unusedSimpArgs false
def spec_l2Stocks.l0 : Nat → List Int → List Int → Int → Int → List Int → List Int → List Int → List Int → Option (List Int)
 | 0, _, _, _, _, _, _, _, _ => none
 | k + 1, x1, x5, x6, x7, x1147000, x1147001, x1147002, x1147003 => if x7 < (x1.length : Int) then (if 0 ≤ x7 then (if x7 < (x1147000.length : Int) then (if x5.length < 17592186044416 then (spec_l2Stocks.l0 k x1 (x5 ++ [wrap64 ((wrap64 (x6 + (rd x1 x7))) - (rd x1147000 x7))]) (wrap64 ((wrap64 (x6 + (rd x1 x7))) - (rd x1147000 x7))) (wrap64 (x7 + 1)) x1147000 x1147001 x1147002 x1147003) else (none)) else (none)) else (none)) else (some x5)
def spec_l2Stocks.f (k : Nat) (l0_0 : List Int) (l0_1 : List Int) (l0_2 : List Int) (l0_3 : List Int) (l1 : List Int) : Option (List Int) := spec_l2Stocks.l0 k l1 (([] : List Int)) 0 0 l0_0 l0_1 l0_2 l0_3
set_option maxHeartbeats 8000000 in
set_option maxRecDepth 100000 in
theorem spec_l2Stocks.calls (k : Nat) (A0_0 : Option Addr) (c0_0 : Nat) (l0_0 : List Int) (A0_1 : Option Addr) (c0_1 : Nat) (l0_1 : List Int) (A0_2 : Option Addr) (c0_2 : Nat) (l0_2 : List Int) (A0_3 : Option Addr) (c0_3 : Nat) (l0_3 : List Int) (A1 : Option Addr) (c1 : Nat) (l1 : List Int) (r : List Int) (w : World) (hr0_0 : Kd.C (Kd.int .i64) w A0_0 l0_0.length l0_0) (hc0_0 : l0_0.length ≤ c0_0) (hr0_1 : Kd.C (Kd.int .i64) w A0_1 l0_1.length l0_1) (hc0_1 : l0_1.length ≤ c0_1) (hr0_2 : Kd.C (Kd.int .i64) w A0_2 l0_2.length l0_2) (hc0_2 : l0_2.length ≤ c0_2) (hr0_3 : Kd.C (Kd.int .i64) w A0_3 l0_3.length l0_3) (hc0_3 : l0_3.length ≤ c0_3) (hr1 : Kd.C (Kd.int .i64) w A1 l1.length l1) (hc1 : l1.length ≤ c1) (h : spec_l2Stocks.f k l0_0 l0_1 l0_2 l0_3 l1 = some r) :
 Calls Try.prog 134 #[.agg #[.slice A0_0 l0_0.length c0_0, .slice A0_1 l0_1.length c0_1, .slice A0_2 l0_2.length c0_2, .slice A0_3 l0_3.length c0_3], .slice A1 l1.length c1] w fun e w' => ∃ v0_ : Value, e = .returned (v0_) ∧ Kd.R (Kd.int .i64) 3 w' w.heap.size (fun _ => True) v0_ r ∧ Below w.heap.size w w' := by
 have hu49 := Try.underlying49
 have HR0_0 := Aside0.mk hr0_0
 have HC0_0 := Aside0.mk hc0_0
 clear hr0_0 hc0_0
 have HR0_1 := Aside0.mk hr0_1
 have HC0_1 := Aside0.mk hc0_1
 clear hr0_1 hc0_1
 have HR0_2 := Aside0.mk hr0_2
 have HC0_2 := Aside0.mk hc0_2
 clear hr0_2 hc0_2
 have HR0_3 := Aside0.mk hr0_3
 have HC0_3 := Aside0.mk hc0_3
 clear hr0_3 hc0_3
 have HR1 := Aside0.mk hr1
 have HC1 := Aside0.mk hc1
 clear hr1 hc1
 have HB := Aside0.mk (Below.refl w.heap.size w)
 have H : (spec_l2Stocks.l0 k l1 (([] : List Int)) 0 0 l0_0 l0_1 l0_2 l0_3) = some r := h
 clear h
 obtain ⟨y1147, hy1147⟩ : ∃ y_ : List Int, y_ = (([] : List Int)) := ⟨_, rfl⟩
 replace H : (spec_l2Stocks.l0 k l1 y1147 0 0 l0_0 l0_1 l0_2 l0_3) = some r := by first | (rw [hy1147]; with_reducible exact H) | (have H2_ := (Option.bind_some _ _).symm.trans H; rw [hy1147]; with_reducible exact H2_) | (have H2_ := (Option.bind_some _ _).symm.trans H; with_reducible exact H2_) | with_reducible exact H | (rw [hy1147]; exact H) | exact H
 have Ny1147 := Aside0.mk hy1147
 clear hy1147
 have H' := Aside0.mk H
 clear H
 go_enter Try.func134, Try.ntmps134
 go_wp2_with (first | ((with_reducible refine gate_dst (N := 2) rfl ?_); refine box_event ?hg (N := 2) ?hd (cs := #[.slice A0_0 l0_0.length c0_0, .slice A0_1 l0_1.length c0_1, .slice A0_2 l0_2.length c0_2, .slice A0_3 l0_3.length c0_3]) (t := 49) ?hr ?_; (case hd => rfl); (case hg => rfl); (case hr => first | (go_simp; done) | (go_simp; rfl)); intro gb1146 hg w3 hbox hb; have n0_ := Aside0.mk (below_step zH0 hb); have n1_ := Aside0.mk (hbox); have n2_ := Aside0.mk ((z6 : w.heap.size ≤ gb1146)); have n3_ := Aside0.mk ((z6 : w.heap.size ≤ gb1146)); clear HB; have HB := n0_; have BK1146 := n1_; have GW1146 := n2_; have GE1146 := n3_; clear n0_ n1_ n2_ n3_; clear hb hbox hg) | ((with_reducible refine gate_dst (N := 8) rfl ?_); refine Kd.R_lit (Kd.int .i64) _ 3 ?hg (N := 8) ?hd (xs := ([] : List Int)) (inner := []) (ok := fun _ => True) (okp := fun _ => True) ?hr ?hp (fun _ hk => hk) trivial (Below.refl _ _) (Nat.le_refl _) (by simp) ?_; (case hd => rfl); (case hg => rfl); (case hr => first | (go_simp; done) | (go_simp; rfl)); (case hp => exact (Reps.none _ _)); intro v1148 w4 ho5 hb hg_ hnew_; clear hg_ hnew_; (first | rw [← Ny1147.out] at ho5 | (simp only [Int.reduceToNat] at ho5; rw [← Ny1147.out] at ho5)); have n0_ := Aside0.mk (Kd.R_lower ho5 (below_size (zH1 GE1146.out))); have n1_ := Aside0.mk (blk_below (g := gb1146) (o := .cells #[.slice A0_0 l0_0.length c0_0, .slice A0_1 l0_1.length c0_1, .slice A0_2 l0_2.length c0_2, .slice A0_3 l0_3.length c0_3] 49 (0, 0)) (zB BK1146.out) hb); have n2_ := Aside0.mk (below_step (zH1 GE1146.out) hb); clear BK1146; clear HB; have HO1149 := n0_; have BK1146 := n1_; have HB := n2_; clear n0_ n1_ n2_; clear hb ho5))
 repeat (go_quiet (first | ((with_reducible refine gate_dst (N := 2) rfl ?_); refine box_event ?hg (N := 2) ?hd (cs := #[.slice A0_0 l0_0.length c0_0, .slice A0_1 l0_1.length c0_1, .slice A0_2 l0_2.length c0_2, .slice A0_3 l0_3.length c0_3]) (t := 49) ?hr ?_; (case hd => rfl); (case hg => rfl); (case hr => first | (go_simp; done) | (go_simp; rfl)); intro gb1146 hg w3 hbox hb; have n0_ := Aside0.mk (below_step zH0 hb); have n1_ := Aside0.mk (hbox); have n2_ := Aside0.mk ((z6 : w.heap.size ≤ gb1146)); have n3_ := Aside0.mk ((z6 : w.heap.size ≤ gb1146)); clear HB; have HB := n0_; have BK1146 := n1_; have GW1146 := n2_; have GE1146 := n3_; clear n0_ n1_ n2_ n3_; clear hb hbox hg) | ((with_reducible refine gate_dst (N := 8) rfl ?_); refine Kd.R_lit (Kd.int .i64) _ 3 ?hg (N := 8) ?hd (xs := ([] : List Int)) (inner := []) (ok := fun _ => True) (okp := fun _ => True) ?hr ?hp (fun _ hk => hk) trivial (Below.refl _ _) (Nat.le_refl _) (by simp) ?_; (case hd => rfl); (case hg => rfl); (case hr => first | (go_simp; done) | (go_simp; rfl)); (case hp => exact (Reps.none _ _)); intro v1148 w4 ho5 hb hg_ hnew_; clear hg_ hnew_; (first | rw [← Ny1147.out] at ho5 | (simp only [Int.reduceToNat] at ho5; rw [← Ny1147.out] at ho5)); have n0_ := Aside0.mk (Kd.R_lower ho5 (below_size (zH1 GE1146.out))); have n1_ := Aside0.mk (blk_below (g := gb1146) (o := .cells #[.slice A0_0 l0_0.length c0_0, .slice A0_1 l0_1.length c0_1, .slice A0_2 l0_2.length c0_2, .slice A0_3 l0_3.length c0_3] 49 (0, 0)) (zB BK1146.out) hb); have n2_ := Aside0.mk (below_step (zH1 GE1146.out) hb); clear BK1146; clear HB; have HO1149 := n0_; have BK1146 := n1_; have HB := n2_; clear n0_ n1_ n2_; clear hb ho5)); try go_wp2_with (first | ((with_reducible refine gate_dst (N := 2) rfl ?_); refine box_event ?hg (N := 2) ?hd (cs := #[.slice A0_0 l0_0.length c0_0, .slice A0_1 l0_1.length c0_1, .slice A0_2 l0_2.length c0_2, .slice A0_3 l0_3.length c0_3]) (t := 49) ?hr ?_; (case hd => rfl); (case hg => rfl); (case hr => first | (go_simp; done) | (go_simp; rfl)); intro gb1146 hg w3 hbox hb; have n0_ := Aside0.mk (below_step zH0 hb); have n1_ := Aside0.mk (hbox); have n2_ := Aside0.mk ((z6 : w.heap.size ≤ gb1146)); have n3_ := Aside0.mk ((z6 : w.heap.size ≤ gb1146)); clear HB; have HB := n0_; have BK1146 := n1_; have GW1146 := n2_; have GE1146 := n3_; clear n0_ n1_ n2_ n3_; clear hb hbox hg) | ((with_reducible refine gate_dst (N := 8) rfl ?_); refine Kd.R_lit (Kd.int .i64) _ 3 ?hg (N := 8) ?hd (xs := ([] : List Int)) (inner := []) (ok := fun _ => True) (okp := fun _ => True) ?hr ?hp (fun _ hk => hk) trivial (Below.refl _ _) (Nat.le_refl _) (by simp) ?_; (case hd => rfl); (case hg => rfl); (case hr => first | (go_simp; done) | (go_simp; rfl)); (case hp => exact (Reps.none _ _)); intro v1148 w4 ho5 hb hg_ hnew_; clear hg_ hnew_; (first | rw [← Ny1147.out] at ho5 | (simp only [Int.reduceToNat] at ho5; rw [← Ny1147.out] at ho5)); have n0_ := Aside0.mk (Kd.R_lower ho5 (below_size (zH1 GE1146.out))); have n1_ := Aside0.mk (blk_below (g := gb1146) (o := .cells #[.slice A0_0 l0_0.length c0_0, .slice A0_1 l0_1.length c0_1, .slice A0_2 l0_2.length c0_2, .slice A0_3 l0_3.length c0_3] 49 (0, 0)) (zB BK1146.out) hb); have n2_ := Aside0.mk (below_step (zH1 GE1146.out) hb); clear BK1146; clear HB; have HO1149 := n0_; have BK1146 := n1_; have HB := n2_; clear n0_ n1_ n2_; clear hb ho5)))
 go_loopg [5, 6, 7] k (fun kq v5 v6 v7 w' => ∃ (x5_1 : List Int) (x6_1 : Int) (x7_1 : Int), v6 = .int .i64 x6_1 ∧ v7 = .int .i64 x7_1 ∧ Aside0 (spec_l2Stocks.l0 kq l1 x5_1 x6_1 x7_1 l0_0 l0_1 l0_2 l0_3 = some r) ∧ Aside0 (kq ≤ k) ∧ Aside0 (Kd.R (Kd.int .i64) 3 w' w.heap.size (fun _ => True) v5 x5_1) ∧ Aside0 (w'.heap[gb1146]? = some (.cells #[(.slice A0_0 l0_0.length c0_0), (.slice A0_1 l0_1.length c0_1), (.slice A0_2 l0_2.length c0_2), (.slice A0_3 l0_3.length c0_3)] 49 (0, 0))) ∧ Aside0 (Below w.heap.size w w'))
 case atStart => exact ⟨(y1147), (0), (0), z3, z3, H', ⟨Nat.le_refl _⟩, ⟨by (with_reducible repeat (first | apply Kd.R_alloc | apply Kd.R_drewN | apply Kd.R_drew)); exact HO1149.out⟩, ⟨by (with_reducible repeat (first | refine blk_drewN ?_ _ | refine blk_drew ?_ | refine blk_alloc ?_ _)); exact BK1146.out⟩, ⟨by repeat (first | (with_reducible first | exact HB.out | apply below_alloc | apply pw_below_drewN | apply below_drew1 | refine below_set ?_ GE1146.out) | exact HB.out)⟩⟩
 case round =>
  clear H'
  try clear c1
  try clear p2
  obtain ⟨x5_1, x6_1, x7_1, rfl, rfl, HA, HK1, HO_5, BK1146, HB⟩ := hrel
  cases gk with
  | zero => exact absurd HA.out (by simp [spec_l2Stocks.l0])
  | succ k1 =>
   have H := HA.out
   clear HA
   simp only [spec_l2Stocks.l0] at H
   by_cases c6 : x7_1 < (l1.length : Int)
   · rw [if_pos c6] at H
     have c6b0 : decide (x7_1 < (l1.length : Int)) = true := decide_eq_true c6
     clear c6
     by_cases c7 : 0 ≤ x7_1
     · rw [if_pos c7] at H
       have c7b0 : decide (0 ≤ x7_1) = true := decide_eq_true c7
       clear c7
       by_cases c8 : x7_1 < (l0_0.length : Int)
       · rw [if_pos c8] at H
         have c8b0 : decide (x7_1 < (l0_0.length : Int)) = true := decide_eq_true c8
         clear c8
         by_cases c9 : x5_1.length < 17592186044416
         · rw [if_pos c9] at H
           have LMc9 := Aside0.mk c9
           clear c9
           obtain ⟨y1152, hy1152⟩ : ∃ y_ : List Int, y_ = (x5_1 ++ [wrap64 ((wrap64 (x6_1 + (rd l1 x7_1))) - (rd l0_0 x7_1))]) := ⟨_, rfl⟩
           replace H : (spec_l2Stocks.l0 k1 l1 y1152 (wrap64 ((wrap64 (x6_1 + (rd l1 x7_1))) - (rd l0_0 x7_1))) (wrap64 (x7_1 + 1)) l0_0 l0_1 l0_2 l0_3) = some r := by first | (rw [hy1152]; with_reducible exact H) | (have H2_ := (Option.bind_some _ _).symm.trans H; rw [hy1152]; with_reducible exact H2_) | (have H2_ := (Option.bind_some _ _).symm.trans H; with_reducible exact H2_) | with_reducible exact H | (rw [hy1152]; exact H) | exact H
           have Ny1152 := Aside0.mk hy1152
           clear hy1152
           have H' := Aside0.mk H
           clear H
           have p1150 : 0 ≤ (x7_1 : Int) := of_decide_eq_true z2
           have q1150 : x7_1 < (l1.length : Int) := of_decide_eq_true z2
           obtain ⟨ad1150, e1150, hx1150_0⟩ := Kd.at_int HR1.out x7_1 p1150 q1150
           cases e1150
           replace hx1150_0 := (HB.out.cell (World.block_lt_of_cell? w _ hx1150_0)).trans hx1150_0
           replace p1150 := eq_true p1150
           replace q1150 := eq_true q1150
           have hcz10_0 : wr.cell? ⟨gb1146, 0, none⟩ = some (.slice A0_0 l0_0.length c0_0) := (blk_cell BK1146.out 0).trans rfl
           have hcz10_1 : wr.cell? ⟨gb1146, 1, none⟩ = some (.slice A0_1 l0_1.length c0_1) := (blk_cell BK1146.out 1).trans rfl
           have hcz10_2 : wr.cell? ⟨gb1146, 2, none⟩ = some (.slice A0_2 l0_2.length c0_2) := (blk_cell BK1146.out 2).trans rfl
           have hcz10_3 : wr.cell? ⟨gb1146, 3, none⟩ = some (.slice A0_3 l0_3.length c0_3) := (blk_cell BK1146.out 3).trans rfl
           have hfz10_0 := blk_frozen BK1146.out 0
           have hfz10_1 := blk_frozen BK1146.out 1
           have hfz10_2 := blk_frozen BK1146.out 2
           have hfz10_3 := blk_frozen BK1146.out 3
           have p1151 : 0 ≤ (x7_1 : Int) := of_decide_eq_true z2
           have q1151 : x7_1 < (l0_0.length : Int) := of_decide_eq_true z2
           obtain ⟨ad1151, e1151, hx1151_0⟩ := Kd.at_int HR0_0.out x7_1 p1151 q1151
           cases e1151
           replace hx1151_0 := (HB.out.cell (World.block_lt_of_cell? w _ hx1151_0)).trans hx1151_0
           replace p1151 := eq_true p1151
           replace q1151 := eq_true q1151
           go_wp2_with (first | ((with_reducible refine gate_builtin (b := .append) (xs := #[.tmp 27, .tmp 29]) rfl ?_); at_builtin; refine Kd.R_append (Kd.int .i64) (w0 := w) w.heap.size rfl (.tmp 27) (.tmp 29) 24 3 (.int .i64 0) 8 rfl Try.underlying24 info3 rfl (by decide) (by omega) u5 x5_1 (wrap64 ((wrap64 (x6_1 + (rd l1 x7_1))) - (rd l0_0 x7_1))) [.int .i64 (wrap64 ((wrap64 (x6_1 + (rd l1 x7_1))) - (rd l0_0 x7_1)))] (fun _ => True) (fun _ => False) rfl rfl ?aP (fun _ hk => hk.elim) ?aF ?aO ?aB ?aS ?aL ?_; (case aP => exact rfl); (case aB => exact (zH1 GE1146.out)); (case aF => exact (fun _ _ => trivial)); (case aO => exact (zR HO_5.out)); (case aS => exact (below_size (zH1 GE1146.out))); (case aL => have := LMc9.out; omega); intro v1153 w11 ho hb hg hat; rw [← Ny1152.out] at ho; have n0_ := Aside0.mk (blk_grown (g := gb1146) (o := .cells #[.slice (some ad1151) l0_0.length c0_0, .slice A0_1 l0_1.length c0_1, .slice A0_2 l0_2.length c0_2, .slice A0_3 l0_3.length c0_3] 49 (0, 0)) (zB BK1146.out) hg (Kd.R_ne HO_5.out BK1146.out (by decide))); have n1_ := Aside0.mk (hb); have n2_ := Aside0.mk (ho); clear BK1146; clear HB; clear HO_5; have BK1146 := n0_; have HB := n1_; have HO1154 := n2_; clear n0_ n1_ n2_; clear ho hb hg hat))
           repeat (go_quiet (first | ((with_reducible refine gate_builtin (b := .append) (xs := #[.tmp 27, .tmp 29]) rfl ?_); at_builtin; refine Kd.R_append (Kd.int .i64) (w0 := w) w.heap.size rfl (.tmp 27) (.tmp 29) 24 3 (.int .i64 0) 8 rfl Try.underlying24 info3 rfl (by decide) (by omega) u5 x5_1 (wrap64 ((wrap64 (x6_1 + (rd l1 x7_1))) - (rd l0_0 x7_1))) [.int .i64 (wrap64 ((wrap64 (x6_1 + (rd l1 x7_1))) - (rd l0_0 x7_1)))] (fun _ => True) (fun _ => False) rfl rfl ?aP (fun _ hk => hk.elim) ?aF ?aO ?aB ?aS ?aL ?_; (case aP => exact rfl); (case aB => exact (zH1 GE1146.out)); (case aF => exact (fun _ _ => trivial)); (case aO => exact (zR HO_5.out)); (case aS => exact (below_size (zH1 GE1146.out))); (case aL => have := LMc9.out; omega); intro v1153 w11 ho hb hg hat; rw [← Ny1152.out] at ho; have n0_ := Aside0.mk (blk_grown (g := gb1146) (o := .cells #[.slice (some ad1151) l0_0.length c0_0, .slice A0_1 l0_1.length c0_1, .slice A0_2 l0_2.length c0_2, .slice A0_3 l0_3.length c0_3] 49 (0, 0)) (zB BK1146.out) hg (Kd.R_ne HO_5.out BK1146.out (by decide))); have n1_ := Aside0.mk (hb); have n2_ := Aside0.mk (ho); clear BK1146; clear HB; clear HO_5; have BK1146 := n0_; have HB := n1_; have HO1154 := n2_; clear n0_ n1_ n2_; clear ho hb hg hat)); try go_wp2_with (first | ((with_reducible refine gate_builtin (b := .append) (xs := #[.tmp 27, .tmp 29]) rfl ?_); at_builtin; refine Kd.R_append (Kd.int .i64) (w0 := w) w.heap.size rfl (.tmp 27) (.tmp 29) 24 3 (.int .i64 0) 8 rfl Try.underlying24 info3 rfl (by decide) (by omega) u5 x5_1 (wrap64 ((wrap64 (x6_1 + (rd l1 x7_1))) - (rd l0_0 x7_1))) [.int .i64 (wrap64 ((wrap64 (x6_1 + (rd l1 x7_1))) - (rd l0_0 x7_1)))] (fun _ => True) (fun _ => False) rfl rfl ?aP (fun _ hk => hk.elim) ?aF ?aO ?aB ?aS ?aL ?_; (case aP => exact rfl); (case aB => exact (zH1 GE1146.out)); (case aF => exact (fun _ _ => trivial)); (case aO => exact (zR HO_5.out)); (case aS => exact (below_size (zH1 GE1146.out))); (case aL => have := LMc9.out; omega); intro v1153 w11 ho hb hg hat; rw [← Ny1152.out] at ho; have n0_ := Aside0.mk (blk_grown (g := gb1146) (o := .cells #[.slice (some ad1151) l0_0.length c0_0, .slice A0_1 l0_1.length c0_1, .slice A0_2 l0_2.length c0_2, .slice A0_3 l0_3.length c0_3] 49 (0, 0)) (zB BK1146.out) hg (Kd.R_ne HO_5.out BK1146.out (by decide))); have n1_ := Aside0.mk (hb); have n2_ := Aside0.mk (ho); clear BK1146; clear HB; clear HO_5; have BK1146 := n0_; have HB := n1_; have HO1154 := n2_; clear n0_ n1_ n2_; clear ho hb hg hat)))
           go_roundg k1
           case measure => have := HK1.out; omega
           case rel => exact ⟨(y1152), (wrap64 ((wrap64 (x6_1 + (rd l1 x7_1))) - (rd l0_0 x7_1))), (wrap64 (x7_1 + 1)), z3, z3, H', ⟨by have := HK1.out; omega⟩, ⟨by (with_reducible repeat (first | apply Kd.R_alloc | apply Kd.R_drewN | apply Kd.R_drew)); exact HO1154.out⟩, ⟨by (with_reducible repeat (first | refine blk_drewN ?_ _ | refine blk_drew ?_ | refine blk_alloc ?_ _)); exact BK1146.out⟩, ⟨by repeat (first | (with_reducible first | exact HB.out | apply below_alloc | apply pw_below_drewN | apply below_drew1 | refine below_set ?_ GE1146.out) | exact HB.out)⟩⟩
         · rw [if_neg c9] at H
           exact absurd H (by simp)
       · rw [if_neg c8] at H
         exact absurd H (by simp)
     · rw [if_neg c7] at H
       exact absurd H (by simp)
   · rw [if_neg c6] at H
     have c6b0 : decide (x7_1 < (l1.length : Int)) = false := decide_eq_false c6
     clear c6
     obtain rfl := Option.some.inj H
     go_wp2
     repeat (go_quiet (fail); try go_wp2)
     go_ret
     exact ⟨_, by first | rfl | (simp [errW_none, errW_some] <;> rfl) | (simp [*, errW_none, errW_some] <;> rfl), by (with_reducible repeat (first | apply Kd.R_alloc | apply Kd.R_drewN | apply Kd.R_drew)); exact HO_5.out, by repeat (first | (with_reducible first | exact HB.out | apply below_alloc | apply pw_below_drewN | apply below_drew1 | refine below_set ?_ GE1146.out) | exact HB.out)⟩
end Go.Proofs.Ythlmmcmpllgflaa.P
namespace Go.Proofs.Ythlmmcmpllgflaa.P
open Go.RowKit Go.Proofs.YthlmmcmpllgflaaW.PrintWords Go.Proofs.YthlmmcmpllgflaaW.PrintLast Go.Proofs.YthlmmcmpllgflaaW.PrintMore
attribute [local go_sem] max2_int min2_int max_two min_two max_three min_three max_four min_four
set_option linter.unusedVariables false
set_option linter.unusedSimpArgs false
def spec_l2Parts.l0 : Nat → List Int → List Int → Int → List Int → List Int → List Int → List Int → Int → Int → Int → Option (Int × Int × Int)
 | 0, _, _, _, _, _, _, _, _, _, _ => none
 | k + 1, x1, x6, x7, x1156000, x1156001, x1156002, x1156003, x1161000, x1161001, x1161002 => if x7 < (x1.length : Int) then (if 0 ≤ x7 then (if (rd x1 x7) > 0 then (if x7 < (x1156001.length : Int) then (if x7 < (x1156002.length : Int) then (if x7 < (x1156003.length : Int) then (if x7 < (x6.length : Int) then (spec_l2Parts.l0 k x1 x6 (wrap64 (x7 + 1)) x1156000 x1156001 x1156002 x1156003 (wrap64 (x1161000 + (rd x1156001 x7))) (wrap64 (x1161001 + (wrap64 ((rd x1156002 x7) * (rd x1 x7))))) (wrap64 (x1161002 + (wrap64 ((rd x1156003 x7) * (rd x6 x7)))))) else (none)) else (none)) else (none)) else (none)) else (if x7 < (x1156002.length : Int) then (if x7 < (x1156003.length : Int) then (if x7 < (x6.length : Int) then (spec_l2Parts.l0 k x1 x6 (wrap64 (x7 + 1)) x1156000 x1156001 x1156002 x1156003 x1161000 (wrap64 (x1161001 + (wrap64 ((rd x1156002 x7) * (rd x1 x7))))) (wrap64 (x1161002 + (wrap64 ((rd x1156003 x7) * (rd x6 x7)))))) else (none)) else (none)) else (none))) else (none)) else (some (x1161000, x1161001, x1161002))
def spec_l2Parts.f (k : Nat) (l0_0 : List Int) (l0_1 : List Int) (l0_2 : List Int) (l0_3 : List Int) (l1 : List Int) : Option (Int × Int × Int) := (spec_l2Stocks.f k l0_0 l0_1 l0_2 l0_3 l1).bind fun t1157 => (spec_l2Parts.l0 k l1 t1157 0 l0_0 l0_1 l0_2 l0_3 0 0 0)
def spec_l2Parts.T6 : Bool × List (List Nat × List Nat) := (true, [([], []), ([0], [0]), ([], []), ([2], [2]), ([], []), ([3, 4], [3, 4]), ([5], [5]), ([1, 6], [1, 6]), ([0, 1, 2, 3, 4, 5, 6, 7], []), ([8, 7, 0, 1, 2, 3, 4, 5, 6, 7], [7, 8])])
def spec_l2Parts.B6 : List Nat := [0, 1, 0, 4, 0, 28, 60, 127, 255, 511]
theorem spec_l2Parts.tab6 : rtab .any (opsOf Try.f132 6) = spec_l2Parts.T6 := by kernel_rfl
theorem spec_l2Parts.bits6 : waitsOk spec_l2Parts.T6.2 spec_l2Parts.B6 = true := by kernel_rfl
def spec_l2Parts.T7 : Bool × List (List Nat × List Nat) := (true, [([], []), ([0], [0]), ([], []), ([2], [2]), ([], []), ([3, 4], [3, 4]), ([5], [5]), ([], []), ([], []), ([7, 8], [7, 8]), ([9], [9]), ([6, 10], [6, 10]), ([1, 11], [1, 11]), ([0, 1, 2, 3, 4, 5, 6, 7, 8, 9, 10, 11, 12], []), ([13, 12, 0, 1, 2, 3, 4, 5, 6, 7, 8, 9, 10, 11, 12], [12, 13])])
def spec_l2Parts.B7 : List Nat := [0, 1, 0, 4, 0, 28, 60, 0, 0, 384, 896, 2044, 4095, 8191, 16383]
theorem spec_l2Parts.tab7 : rtab .any (opsOf Try.f132 7) = spec_l2Parts.T7 := by kernel_rfl
theorem spec_l2Parts.bits7 : waitsOk spec_l2Parts.T7.2 spec_l2Parts.B7 = true := by kernel_rfl
def spec_l2Parts.T8 : Bool × List (List Nat × List Nat) := (true, [([], []), ([0], [0]), ([], []), ([2], [2]), ([], []), ([3, 4], [3, 4]), ([5], [5]), ([], []), ([], []), ([7, 8], [7, 8]), ([9], [9]), ([6, 10], [6, 10]), ([1, 11], [1, 11]), ([0, 1, 2, 3, 4, 5, 6, 7, 8, 9, 10, 11, 12], []), ([13, 12, 0, 1, 2, 3, 4, 5, 6, 7, 8, 9, 10, 11, 12], [12, 13])])
def spec_l2Parts.B8 : List Nat := [0, 1, 0, 4, 0, 28, 60, 0, 0, 384, 896, 2044, 4095, 8191, 16383]
theorem spec_l2Parts.tab8 : rtab .any (opsOf Try.f132 8) = spec_l2Parts.T8 := by kernel_rfl
theorem spec_l2Parts.bits8 : waitsOk spec_l2Parts.T8.2 spec_l2Parts.B8 = true := by kernel_rfl
set_option maxHeartbeats 8000000 in
set_option maxRecDepth 100000 in
theorem spec_l2Parts.calls (k : Nat) (A0_0 : Option Addr) (c0_0 : Nat) (l0_0 : List Int) (A0_1 : Option Addr) (c0_1 : Nat) (l0_1 : List Int) (A0_2 : Option Addr) (c0_2 : Nat) (l0_2 : List Int) (A0_3 : Option Addr) (c0_3 : Nat) (l0_3 : List Int) (A1 : Option Addr) (c1 : Nat) (l1 : List Int) (r1 : Int) (r2 : Int) (r3 : Int) (w : World) (hr0_0 : Kd.C (Kd.int .i64) w A0_0 l0_0.length l0_0) (hc0_0 : l0_0.length ≤ c0_0) (hr0_1 : Kd.C (Kd.int .i64) w A0_1 l0_1.length l0_1) (hc0_1 : l0_1.length ≤ c0_1) (hr0_2 : Kd.C (Kd.int .i64) w A0_2 l0_2.length l0_2) (hc0_2 : l0_2.length ≤ c0_2) (hr0_3 : Kd.C (Kd.int .i64) w A0_3 l0_3.length l0_3) (hc0_3 : l0_3.length ≤ c0_3) (hr1 : Kd.C (Kd.int .i64) w A1 l1.length l1) (hc1 : l1.length ≤ c1) (h : spec_l2Parts.f k l0_0 l0_1 l0_2 l0_3 l1 = some (r1, r2, r3)) :
 Calls Try.prog 132 #[.agg #[.slice A0_0 l0_0.length c0_0, .slice A0_1 l0_1.length c0_1, .slice A0_2 l0_2.length c0_2, .slice A0_3 l0_3.length c0_3], .slice A1 l1.length c1] w fun e w' => e = .returned (.agg #[.int .i64 r1, .int .i64 r2, .int .i64 r3]) ∧ Below w.heap.size w w' := by
 have hu49 := Try.underlying49
 have hu114 := Try.underlying114
 have HR0_0 := Aside0.mk hr0_0
 have HC0_0 := Aside0.mk hc0_0
 clear hr0_0 hc0_0
 have HR0_1 := Aside0.mk hr0_1
 have HC0_1 := Aside0.mk hc0_1
 clear hr0_1 hc0_1
 have HR0_2 := Aside0.mk hr0_2
 have HC0_2 := Aside0.mk hc0_2
 clear hr0_2 hc0_2
 have HR0_3 := Aside0.mk hr0_3
 have HC0_3 := Aside0.mk hc0_3
 clear hr0_3 hc0_3
 have HR1 := Aside0.mk hr1
 have HC1 := Aside0.mk hc1
 clear hr1 hc1
 have HB := Aside0.mk (Below.refl w.heap.size w)
 have H : ((spec_l2Stocks.f k l0_0 l0_1 l0_2 l0_3 l1).bind fun t1157 => (spec_l2Parts.l0 k l1 t1157 0 l0_0 l0_1 l0_2 l0_3 0 0 0)) = some (r1, r2, r3) := h
 clear h
 replace H := Option.bind_eq_some_iff.mp H
 obtain ⟨t1157, A30, H⟩ := H
 replace H : (spec_l2Parts.l0 k l1 t1157 0 l0_0 l0_1 l0_2 l0_3 0 0 0) = some (r1, r2, r3) := H
 have A3 := Aside0.mk A30
 clear A30
 have H' := Aside0.mk H
 clear H
 go_enter Try.func132, Try.ntmps132
 go_wp2_with (first | ((with_reducible refine gate_dst (N := 2) rfl ?_); refine box_event ?hg (N := 2) ?hd (cs := #[.slice A0_0 l0_0.length c0_0, .slice A0_1 l0_1.length c0_1, .slice A0_2 l0_2.length c0_2, .slice A0_3 l0_3.length c0_3]) (t := 49) ?hr ?_; (case hd => rfl); (case hg => rfl); (case hr => first | (go_simp; done) | (go_simp; rfl)); intro gb1155 hg w4 hbox hb; have n0_ := Aside0.mk (below_step zH0 hb); have n1_ := Aside0.mk (hbox); have n2_ := Aside0.mk ((z6 : w.heap.size ≤ gb1155)); have n3_ := Aside0.mk ((z6 : w.heap.size ≤ gb1155)); clear HB; have HB := n0_; have BK1155 := n1_; have GW1155 := n2_; have GE1155 := n3_; clear n0_ n1_ n2_ n3_; clear hb hbox hg) | ((with_reducible refine gate_dst (N := 4) rfl ?_); refine box_event ?hg (N := 4) ?hd (cs := #[.int .i64 0, .int .i64 0, .int .i64 0]) (t := 114) ?hr ?_; (case hd => rfl); (case hg => rfl); (case hr => first | (go_simp; done) | (go_simp; rfl)); intro gb1156 hg w5 hbox hb; have n0_ := Aside0.mk (blk_below (g := gb1155) (o := .cells #[.slice A0_0 l0_0.length c0_0, .slice A0_1 l0_1.length c0_1, .slice A0_2 l0_2.length c0_2, .slice A0_3 l0_3.length c0_3] 49 (0, 0)) (zB BK1155.out) hb); have n1_ := Aside0.mk (below_step (zH1 GE1155.out) hb); have n2_ := Aside0.mk (hbox); have n3_ := Aside0.mk ((by rw [hg]; exact (below_size (zH1 GE1155.out)) : w.heap.size ≤ gb1156)); have n4_ := Aside0.mk ((by rw [hg]; exact (below_size (zH1 GE1155.out)) : w.heap.size ≤ gb1156)); have n5_ := Aside0.mk ((by rw [hg]; exact Nat.ne_of_lt (blk_lt (g := gb1155) (o := .cells #[.slice A0_0 l0_0.length c0_0, .slice A0_1 l0_1.length c0_1, .slice A0_2 l0_2.length c0_2, .slice A0_3 l0_3.length c0_3] 49 (0, 0)) (zB BK1155.out)) : gb1155 ≠ gb1156)); have n6_ := Aside0.mk ((by rw [hg]; exact Nat.ne_of_gt (blk_lt (g := gb1155) (o := .cells #[.slice A0_0 l0_0.length c0_0, .slice A0_1 l0_1.length c0_1, .slice A0_2 l0_2.length c0_2, .slice A0_3 l0_3.length c0_3] 49 (0, 0)) (zB BK1155.out)) : gb1156 ≠ gb1155)); clear BK1155; clear HB; have BK1155 := n0_; have HB := n1_; have BK1156 := n2_; have GW1156 := n3_; have GE1156 := n4_; have NB1155_1156 := n5_; have NB1156_1155 := n6_; clear n0_ n1_ n2_ n3_ n4_ n5_ n6_; clear hb hbox hg; have hnb6 := NB1155_1156.out; have hnc6 := NB1156_1155.out; have hcz7_0 : w5.cell? ⟨gb1155, 0, none⟩ = some (.slice A0_0 l0_0.length c0_0) := (blk_cell BK1155.out 0).trans rfl; have hcz7_1 : w5.cell? ⟨gb1155, 1, none⟩ = some (.slice A0_1 l0_1.length c0_1) := (blk_cell BK1155.out 1).trans rfl; have hcz7_2 : w5.cell? ⟨gb1155, 2, none⟩ = some (.slice A0_2 l0_2.length c0_2) := (blk_cell BK1155.out 2).trans rfl; have hcz7_3 : w5.cell? ⟨gb1155, 3, none⟩ = some (.slice A0_3 l0_3.length c0_3) := (blk_cell BK1155.out 3).trans rfl; have hfz7_0 := blk_frozen BK1155.out 0; have hfz7_1 := blk_frozen BK1155.out 1; have hfz7_2 := blk_frozen BK1155.out 2; have hfz7_3 := blk_frozen BK1155.out 3) | ((with_reducible refine gate_callee (f := 134) rfl ?_); refine goesL_ (some 11) rfl rfl Try.func134 (by kernel_rfl) rfl #[.agg #[.slice A0_0 l0_0.length c0_0, .slice A0_1 l0_1.length c0_1, .slice A0_2 l0_2.length c0_2, .slice A0_3 l0_3.length c0_3], .slice A1 l1.length c1] rfl z1 ?_; (with_reducible refine (spec_l2Stocks.calls k _ _ l0_0 _ _ l0_1 _ _ l0_2 _ _ l0_3 _ _ l1 t1157 _ ?side1 ?side2 ?side3 ?side4 ?side5 ?side6 ?side7 ?side8 ?side9 ?side10 A3.out).mono ?_); (case side1 => exact zC (Kd.C_below HR0_0.out HB.out)); (case side2 => exact HC0_0.out); (case side3 => exact zC (Kd.C_below HR0_1.out HB.out)); (case side4 => exact HC0_1.out); (case side5 => exact zC (Kd.C_below HR0_2.out HB.out)); (case side6 => exact HC0_2.out); (case side7 => exact zC (Kd.C_below HR0_3.out HB.out)); (case side8 => exact HC0_3.out); (case side9 => exact zC (Kd.C_below HR1.out HB.out)); (case side10 => exact HC1.out); rintro e w8 ⟨v1158, rfl, ho0, hb⟩; refine ⟨_, rfl, ?_⟩; have n0_ := Aside0.mk (Kd.R_lower ho0 (below_size (zH2 GE1155.out GE1156.out))); have n1_ := Aside0.mk (blk_below (g := gb1155) (o := .cells #[.slice A0_0 l0_0.length c0_0, .slice A0_1 l0_1.length c0_1, .slice A0_2 l0_2.length c0_2, .slice A0_3 l0_3.length c0_3] 49 (0, 0)) (zB BK1155.out) hb); have n2_ := Aside0.mk (blk_below (g := gb1156) (o := .cells #[.int .i64 0, .int .i64 0, .int .i64 0] 114 (0, 0)) (zB BK1156.out) hb); have n3_ := Aside0.mk (below_step (zH2 GE1155.out GE1156.out) hb); clear BK1155; clear BK1156; clear HB; have HO1159 := n0_; have BK1155 := n1_; have BK1156 := n2_; have HB := n3_; clear n0_ n1_ n2_ n3_; (try clear hb); (try clear hb2); (try clear hk); (try clear hi); (try clear ho0)) | ((with_reducible refine gate_dst (N := 5) rfl ?_); refine box_event ?hg (N := 5) ?hd (cs := #[.int .i64 0, .int .i64 0, .int .i64 0]) (t := 114) ?hr ?_; (case hd => rfl); (case hg => rfl); (case hr => first | (go_simp; done) | (go_simp; rfl)); intro gb1160 hg w9 hbox hb; have n0_ := Aside0.mk (Kd.R_below (zR HO1159.out) hb); have n1_ := Aside0.mk (blk_below (g := gb1155) (o := .cells #[.slice A0_0 l0_0.length c0_0, .slice A0_1 l0_1.length c0_1, .slice A0_2 l0_2.length c0_2, .slice A0_3 l0_3.length c0_3] 49 (0, 0)) (zB BK1155.out) hb); have n2_ := Aside0.mk (blk_below (g := gb1156) (o := .cells #[.int .i64 0, .int .i64 0, .int .i64 0] 114 (0, 0)) (zB BK1156.out) hb); have n3_ := Aside0.mk (below_step (zH2 GE1155.out GE1156.out) hb); have n4_ := Aside0.mk (hbox); have n5_ := Aside0.mk ((by rw [hg]; exact (below_size (zH2 GE1155.out GE1156.out)) : w.heap.size ≤ gb1160)); have n6_ := Aside0.mk ((by rw [hg]; exact (below_size (zH2 GE1155.out GE1156.out)) : w.heap.size ≤ gb1160)); have n7_ := Aside0.mk ((by rw [hg]; exact Nat.ne_of_lt (blk_lt (g := gb1155) (o := .cells #[.slice A0_0 l0_0.length c0_0, .slice A0_1 l0_1.length c0_1, .slice A0_2 l0_2.length c0_2, .slice A0_3 l0_3.length c0_3] 49 (0, 0)) (zB BK1155.out)) : gb1155 ≠ gb1160)); have n8_ := Aside0.mk ((by rw [hg]; exact Nat.ne_of_gt (blk_lt (g := gb1155) (o := .cells #[.slice A0_0 l0_0.length c0_0, .slice A0_1 l0_1.length c0_1, .slice A0_2 l0_2.length c0_2, .slice A0_3 l0_3.length c0_3] 49 (0, 0)) (zB BK1155.out)) : gb1160 ≠ gb1155)); have n9_ := Aside0.mk ((by rw [hg]; exact Nat.ne_of_lt (blk_lt (g := gb1156) (o := .cells #[.int .i64 0, .int .i64 0, .int .i64 0] 114 (0, 0)) (zB BK1156.out)) : gb1156 ≠ gb1160)); have n10_ := Aside0.mk ((by rw [hg]; exact Nat.ne_of_gt (blk_lt (g := gb1156) (o := .cells #[.int .i64 0, .int .i64 0, .int .i64 0] 114 (0, 0)) (zB BK1156.out)) : gb1160 ≠ gb1156)); clear HO1159; clear BK1155; clear BK1156; clear HB; have HO1159 := n0_; have BK1155 := n1_; have BK1156 := n2_; have HB := n3_; have BK1160 := n4_; have GW1160 := n5_; have GE1160 := n6_; have NB1155_1160 := n7_; have NB1160_1155 := n8_; have NB1156_1160 := n9_; have NB1160_1156 := n10_; clear n0_ n1_ n2_ n3_ n4_ n5_ n6_ n7_ n8_ n9_ n10_; clear hb hbox hg; have hnb10 := NB1160_1155.out; have hnc10 := NB1155_1160.out; have hnb11 := NB1160_1156.out; have hnc11 := NB1156_1160.out; have hcz12_0 : w9.cell? ⟨gb1160, 0, none⟩ = some (.int .i64 0) := (blk_cell BK1160.out 0).trans rfl; have hcz12_1 : w9.cell? ⟨gb1160, 1, none⟩ = some (.int .i64 0) := (blk_cell BK1160.out 1).trans rfl; have hcz12_2 : w9.cell? ⟨gb1160, 2, none⟩ = some (.int .i64 0) := (blk_cell BK1160.out 2).trans rfl; have hfz12_0 := blk_frozen BK1160.out 0; have hfz12_1 := blk_frozen BK1160.out 1; have hfz12_2 := blk_frozen BK1160.out 2))
 go_loopg [7] k (fun kq v7 w' => ∃ (x7_1 : Int) (x1161000_1 : Int) (x1161001_1 : Int) (x1161002_1 : Int), v7 = .int .i64 x7_1 ∧ Aside0 (spec_l2Parts.l0 kq l1 t1157 x7_1 l0_0 l0_1 l0_2 l0_3 x1161000_1 x1161001_1 x1161002_1 = some (r1, r2, r3)) ∧ Aside0 (kq ≤ k) ∧ Aside0 (Kd.R (Kd.int .i64) 3 w' w.heap.size (fun _ => True) v1158 t1157) ∧ Aside0 (w'.heap[gb1155]? = some (.cells #[(.slice A0_0 l0_0.length c0_0), (.slice A0_1 l0_1.length c0_1), (.slice A0_2 l0_2.length c0_2), (.slice A0_3 l0_3.length c0_3)] 49 (0, 0))) ∧ Aside0 (w'.heap[gb1156]? = some (.cells #[.int .i64 0, .int .i64 0, .int .i64 0] 114 (0, 0))) ∧ Aside0 (w'.heap[gb1160]? = some (.cells #[.int .i64 x1161000_1, .int .i64 x1161001_1, .int .i64 x1161002_1] 114 (0, 0))) ∧ Aside0 (Below w.heap.size w w'))
 case atStart => exact ⟨(0), (0), (0), (0), z3, H', ⟨Nat.le_refl _⟩, ⟨by (with_reducible repeat (first | apply Kd.R_alloc | apply Kd.R_drewN | apply Kd.R_drew)); exact Kd.R_mono (Kd.R_far (p := ⟨gb1160, 2, none⟩) (Kd.R_far (p := ⟨gb1160, 1, none⟩) (Kd.R_far (p := ⟨gb1160, 0, none⟩) (Kd.R_types HO1159.out BK1160.out (by decide)) (fun _ hk => hk.2) (.int .i64 0)) (fun _ hk => hk.2) (.int .i64 0)) (fun _ hk => hk.2) (.int .i64 0)) (fun _ hk => trivial)⟩, ⟨by (with_reducible repeat (first | refine blk_drewN ?_ _ | refine blk_drew ?_ | refine blk_alloc ?_ _)); refine blk_far ?_ NB1155_1160.out _; (with_reducible repeat (first | refine blk_drewN ?_ _ | refine blk_drew ?_ | refine blk_alloc ?_ _)); refine blk_far ?_ NB1155_1160.out _; (with_reducible repeat (first | refine blk_drewN ?_ _ | refine blk_drew ?_ | refine blk_alloc ?_ _)); refine blk_far ?_ NB1155_1160.out _; (with_reducible repeat (first | refine blk_drewN ?_ _ | refine blk_drew ?_ | refine blk_alloc ?_ _)); exact BK1155.out⟩, ⟨by (with_reducible repeat (first | refine blk_drewN ?_ _ | refine blk_drew ?_ | refine blk_alloc ?_ _)); refine blk_far ?_ NB1156_1160.out _; (with_reducible repeat (first | refine blk_drewN ?_ _ | refine blk_drew ?_ | refine blk_alloc ?_ _)); refine blk_far ?_ NB1156_1160.out _; (with_reducible repeat (first | refine blk_drewN ?_ _ | refine blk_drew ?_ | refine blk_alloc ?_ _)); refine blk_far ?_ NB1156_1160.out _; (with_reducible repeat (first | refine blk_drewN ?_ _ | refine blk_drew ?_ | refine blk_alloc ?_ _)); exact BK1156.out⟩, ⟨by (with_reducible repeat (first | refine blk_drewN ?_ _ | refine blk_drew ?_ | refine blk_alloc ?_ _)); refine blk_put (cs := #[.int .i64 0, .int .i64 0, .int .i64 0]) ?_ 2 _ rfl; (with_reducible repeat (first | refine blk_drewN ?_ _ | refine blk_drew ?_ | refine blk_alloc ?_ _)); refine blk_put (cs := #[.int .i64 0, .int .i64 0, .int .i64 0]) ?_ 1 _ rfl; (with_reducible repeat (first | refine blk_drewN ?_ _ | refine blk_drew ?_ | refine blk_alloc ?_ _)); refine blk_put (cs := #[.int .i64 0, .int .i64 0, .int .i64 0]) ?_ 0 _ rfl; (with_reducible repeat (first | refine blk_drewN ?_ _ | refine blk_drew ?_ | refine blk_alloc ?_ _)); exact BK1160.out⟩, ⟨by repeat (first | (with_reducible first | exact HB.out | apply below_alloc | apply pw_below_drewN | apply below_drew1 | refine below_set ?_ GE1155.out | refine below_set ?_ GE1156.out | refine below_set ?_ GE1160.out) | exact HB.out)⟩⟩
 case round =>
  clear H'
  try clear c1
  try clear p2
  try clear c6
  try clear c10
  try clear c11
  try clear hcz12_0
  try clear hcz12_1
  try clear hcz12_2
  try clear hcz7_0
  try clear hcz7_1
  try clear hcz7_2
  try clear hcz7_3
  try clear hfz12_0
  try clear hfz12_1
  try clear hfz12_2
  try clear hfz7_0
  try clear hfz7_1
  try clear hfz7_2
  try clear hfz7_3
  obtain ⟨x7_1, x1161000_1, x1161001_1, x1161002_1, rfl, HA, HK1, HO_6, BK1155, BK1156, BK1160, HB⟩ := hrel
  cases gk with
  | zero => exact absurd HA.out (by simp [spec_l2Parts.l0])
  | succ k1 =>
   have H := HA.out
   clear HA
   simp only [spec_l2Parts.l0] at H
   by_cases c13 : x7_1 < (l1.length : Int)
   · rw [if_pos c13] at H
     have c13b0 : decide (x7_1 < (l1.length : Int)) = true := decide_eq_true c13
     clear c13
     by_cases c14 : 0 ≤ x7_1
     · rw [if_pos c14] at H
       have c14b0 : decide (0 ≤ x7_1) = true := decide_eq_true c14
       clear c14
       by_cases c15 : (rd l1 x7_1) > 0
       · rw [if_pos c15] at H
         have c15b0 : decide (0 < (rd l1 x7_1)) = true := decide_eq_true c15
         clear c15
         by_cases c16 : x7_1 < (l0_1.length : Int)
         · rw [if_pos c16] at H
           have c16b0 : decide (x7_1 < (l0_1.length : Int)) = true := decide_eq_true c16
           clear c16
           by_cases c17 : x7_1 < (l0_2.length : Int)
           · rw [if_pos c17] at H
             have c17b0 : decide (x7_1 < (l0_2.length : Int)) = true := decide_eq_true c17
             clear c17
             by_cases c18 : x7_1 < (l0_3.length : Int)
             · rw [if_pos c18] at H
               have c18b0 : decide (x7_1 < (l0_3.length : Int)) = true := decide_eq_true c18
               clear c18
               by_cases c19 : x7_1 < (t1157.length : Int)
               · rw [if_pos c19] at H
                 have c19b0 : decide (x7_1 < (t1157.length : Int)) = true := decide_eq_true c19
                 clear c19
                 have H' := Aside0.mk H
                 clear H
                 have p1161 : 0 ≤ (x7_1 : Int) := of_decide_eq_true z2
                 have q1161 : x7_1 < (l1.length : Int) := of_decide_eq_true z2
                 obtain ⟨ad1161, e1161, hx1161_0⟩ := Kd.at_int HR1.out x7_1 p1161 q1161
                 cases e1161
                 replace hx1161_0 := (HB.out.cell (World.block_lt_of_cell? w _ hx1161_0)).trans hx1161_0
                 replace p1161 := eq_true p1161
                 replace q1161 := eq_true q1161
                 try go_wp2
                 have n0_ := Aside0.mk (Kd.R_drew HO_6.out)
                 have n1_ := Aside0.mk (blk_drew BK1155.out)
                 have n2_ := Aside0.mk (blk_drew BK1156.out)
                 have n3_ := Aside0.mk (blk_drew BK1160.out)
                 have n4_ := Aside0.mk (below_drew1 HB.out)
                 clear HO_6
                 clear BK1155
                 clear BK1156
                 clear BK1160
                 clear HB
                 have HO_6 := n0_
                 have BK1155 := n1_
                 have BK1156 := n2_
                 have BK1160 := n3_
                 have HB := n4_
                 clear n0_ n1_ n2_ n3_ n4_
                 have p1162 : 0 ≤ (x7_1 : Int) := of_decide_eq_true z2
                 have q1162 : x7_1 < (l0_1.length : Int) := of_decide_eq_true z2
                 obtain ⟨ad1162, e1162, hx1162_0⟩ := Kd.at_int HR0_1.out x7_1 p1162 q1162
                 have hw1162_0 := hx1162_0
                 cases e1162
                 replace hx1162_0 := (HB.out.cell (World.block_lt_of_cell? w _ hx1162_0)).trans hx1162_0
                 replace p1162 := eq_true p1162
                 replace q1162 := eq_true q1162
                 refine start_ (n := 10) (S := fun w' => w'.cell? ⟨gb1160, 0, none⟩ = some (.int .i64 x1161000_1) ∧ w'.cell? ⟨gb1160, 1, none⟩ = some (.int .i64 x1161001_1) ∧ w'.cell? ⟨gb1160, 2, none⟩ = some (.int .i64 x1161002_1) ∧ w'.cell? ⟨gb1155, 0, none⟩ = some (.slice A0_0 l0_0.length c0_0) ∧ w'.cell? ⟨gb1155, 1, none⟩ = some (.slice (some ad1162) l0_1.length c0_1) ∧ w'.cell? ⟨gb1155, 2, none⟩ = some (.slice A0_2 l0_2.length c0_2) ∧ w'.cell? ⟨gb1155, 3, none⟩ = some (.slice A0_3 l0_3.length c0_3) ∧ w'.cell? (ad1162.add (x7_1).toNat) = some (.int .i64 (rd l0_1 x7_1))) (ds := [9]) #[false, false, false, false, false, false, false, false, false, false] (by kernel_rfl) rfl rfl ⟨(blk_cell BK1160.out 0).trans rfl, (blk_cell BK1160.out 1).trans rfl, (blk_cell BK1160.out 2).trans rfl, (blk_cell BK1155.out 0).trans rfl, (blk_cell BK1155.out 1).trans rfl, (blk_cell BK1155.out 2).trans rfl, (blk_cell BK1155.out 3).trans rfl, ((HB.out.cell (World.block_lt_of_cell? w _ hw1162_0)).trans hw1162_0)⟩ (fun hHeld => ?_); refine with_tabW spec_l2Parts.tab6 spec_l2Parts.bits6 (fun HT_ HW_ => ?_)
                 generalize wr.drew = w20 at HO_6 BK1155 BK1156 BK1160 HB hx1162_0 hHeld ⊢
                 refine zP (i := 0) (N := some 23) #[true, false, false, false, false, false, false, false, false, false] (any_of HT_.out (by kernel_rfl)) ?_
                 refine zP (i := 2) (N := some 25) #[true, false, true, false, false, false, false, false, false, false] (any_of HT_.out (by kernel_rfl)) ?_
                 refine zP (i := 4) (N := some 27) #[true, false, true, false, true, false, false, false, false, false] (any_of HT_.out (by kernel_rfl)) ?_
                 refine take_ (i := 1) (N := some 24) (v := ?_) (a' := ?_) #[true, true, true, false, true, false, false, false, false, false] rfl rfl (take_ofW HT_.out HW_.out (by kernel_rfl)) (fun _ _ _ h => h) (Or.inl ⟨by rfl, ?_⟩) hHeld ?_ ?_
                 rotate_left
                 · rintro w' ⟨s0, s1, s2, s3, s4, s5, s6, s7⟩
                   go_simp
                   with_reducible rfl
                 rotate_left
                 · simp only [Act.put, List.setIfInBounds_toArray, List.set_cons_zero, List.set_cons_succ, i64_w, i32_w]
                   rfl
                 refine take_ (i := 3) (N := some 26) (v := ?_) (a' := ?_) #[true, true, true, true, true, false, false, false, false, false] rfl rfl (take_ofW HT_.out HW_.out (by kernel_rfl)) (fun _ _ _ h => h) (Or.inl ⟨by rfl, ?_⟩) hHeld ?_ ?_
                 rotate_left
                 · rintro w' ⟨s0, s1, s2, s3, s4, s5, s6, s7⟩
                   go_simp
                   with_reducible rfl
                 rotate_left
                 · simp only [Act.put, List.setIfInBounds_toArray, List.set_cons_zero, List.set_cons_succ, i64_w, i32_w]
                   rfl
                 refine zP (i := 5) (N := some 28) #[true, true, true, true, true, true, false, false, false, false] (any_of HT_.out (by kernel_rfl)) ?_
                 refine take_ (i := 6) (N := some 29) (v := ?_) (a' := ?_) #[true, true, true, true, true, true, true, false, false, false] rfl rfl (take_ofW HT_.out HW_.out (by kernel_rfl)) (fun _ _ _ h => h) (Or.inl ⟨by rfl, ?_⟩) hHeld ?_ ?_
                 rotate_left
                 · rintro w' ⟨s0, s1, s2, s3, s4, s5, s6, s7⟩
                   go_simp
                   with_reducible rfl
                 rotate_left
                 · simp only [Act.put, List.setIfInBounds_toArray, List.set_cons_zero, List.set_cons_succ, i64_w, i32_w]
                   rfl
                 refine zP (i := 7) (N := some 30) #[true, true, true, true, true, true, true, true, false, false] (any_of HT_.out (by kernel_rfl)) ?_
                 refine zP (i := 8) (N := some 31) #[true, true, true, true, true, true, true, true, true, false] (any_of HT_.out (by kernel_rfl)) ?_
                 refine last_ (i := 9) (N := none) #[true, true, true, true, true, true, true, true, true, true] rfl rfl (one_of HT_.out (by kernel_rfl)) (by decide) (fun K hK => ?_)
                 have hs21 : w20.cell? ⟨gb1160, 0, none⟩ = some (.int .i64 x1161000_1) := (blk_cell BK1160.out 0).trans rfl
                 have hfs21 := blk_frozen BK1160.out 0
                 have hns21_0 := NB1155_1160.out
                 have hns21_1 := NB1156_1160.out
                 have hms21_0 := NB1160_1155.out
                 have hms21_1 := NB1160_1156.out
                 refine skip_ (w1 := ?_) (by rfl) rfl ?_ ?_
                 rotate_left
                 · go_simp
                   rfl
                 refine hK.out _ _ ?_
                 clear hK K
                 refine done_ (done_of HT_.out (by kernel_rfl)) ?_
                 try go_wp2
                 have n0_ : Aside0 (Kd.R (Kd.int .i64) 3 (w20.setCell ⟨gb1160, 0, none⟩ (.int .i64 (wrap64 (x1161000_1 + (rd l0_1 x7_1))))) w.heap.size (fun _ => True) v1158 t1157) := ⟨by (with_reducible repeat (first | apply Kd.R_alloc | apply Kd.R_drewN | apply Kd.R_drew)); exact Kd.R_mono (Kd.R_far (p := ⟨gb1160, 0, none⟩) (Kd.R_types HO_6.out BK1160.out (by decide)) (fun _ hk => hk.2) (.int .i64 (wrap64 (x1161000_1 + (rd l0_1 x7_1))))) (fun _ hk => trivial)⟩
                 have n1_ : Aside0 ((w20.setCell ⟨gb1160, 0, none⟩ (.int .i64 (wrap64 (x1161000_1 + (rd l0_1 x7_1))))).heap[gb1155]? = some (.cells #[.slice A0_0 l0_0.length c0_0, .slice (some ad1162) l0_1.length c0_1, .slice A0_2 l0_2.length c0_2, .slice A0_3 l0_3.length c0_3] 49 (0, 0))) := ⟨by (with_reducible repeat (first | refine blk_drewN ?_ _ | refine blk_drew ?_ | refine blk_alloc ?_ _)); refine blk_far ?_ NB1155_1160.out _; (with_reducible repeat (first | refine blk_drewN ?_ _ | refine blk_drew ?_ | refine blk_alloc ?_ _)); exact BK1155.out⟩
                 have n2_ : Aside0 ((w20.setCell ⟨gb1160, 0, none⟩ (.int .i64 (wrap64 (x1161000_1 + (rd l0_1 x7_1))))).heap[gb1156]? = some (.cells #[.int .i64 0, .int .i64 0, .int .i64 0] 114 (0, 0))) := ⟨by (with_reducible repeat (first | refine blk_drewN ?_ _ | refine blk_drew ?_ | refine blk_alloc ?_ _)); refine blk_far ?_ NB1156_1160.out _; (with_reducible repeat (first | refine blk_drewN ?_ _ | refine blk_drew ?_ | refine blk_alloc ?_ _)); exact BK1156.out⟩
                 have n3_ : Aside0 ((w20.setCell ⟨gb1160, 0, none⟩ (.int .i64 (wrap64 (x1161000_1 + (rd l0_1 x7_1))))).heap[gb1160]? = some (.cells #[.int .i64 (wrap64 (x1161000_1 + (rd l0_1 x7_1))), .int .i64 x1161001_1, .int .i64 x1161002_1] 114 (0, 0))) := ⟨by (with_reducible repeat (first | refine blk_drewN ?_ _ | refine blk_drew ?_ | refine blk_alloc ?_ _)); refine blk_put (cs := #[.int .i64 x1161000_1, .int .i64 x1161001_1, .int .i64 x1161002_1]) ?_ 0 _ rfl; (with_reducible repeat (first | refine blk_drewN ?_ _ | refine blk_drew ?_ | refine blk_alloc ?_ _)); exact BK1160.out⟩
                 have n4_ : Aside0 (Below w.heap.size w (w20.setCell ⟨gb1160, 0, none⟩ (.int .i64 (wrap64 (x1161000_1 + (rd l0_1 x7_1)))))) := ⟨by repeat (first | (with_reducible first | exact HB.out | apply below_alloc | apply pw_below_drewN | apply below_drew1 | refine below_set ?_ GE1155.out | refine below_set ?_ GE1156.out | refine below_set ?_ GE1160.out) | exact HB.out)⟩
                 (try clear HO_6)
                 (try clear BK1155)
                 (try clear BK1156)
                 (try clear BK1160)
                 (try clear HB)
                 generalize (w20.setCell ⟨gb1160, 0, none⟩ (.int .i64 (wrap64 (x1161000_1 + (rd l0_1 x7_1))))) = w22 at n0_ n1_ n2_ n3_ n4_ ⊢
                 have HO_6 := n0_
                 have BK1155 := n1_
                 have BK1156 := n2_
                 have BK1160 := n3_
                 have HB := n4_
                 clear n0_ n1_ n2_ n3_ n4_
                 have n0_ := Aside0.mk (Kd.R_drew HO_6.out)
                 have n1_ := Aside0.mk (blk_drew BK1155.out)
                 have n2_ := Aside0.mk (blk_drew BK1156.out)
                 have n3_ := Aside0.mk (blk_drew BK1160.out)
                 have n4_ := Aside0.mk (below_drew1 HB.out)
                 clear HO_6
                 clear BK1155
                 clear BK1156
                 clear BK1160
                 clear HB
                 have HO_6 := n0_
                 have BK1155 := n1_
                 have BK1156 := n2_
                 have BK1160 := n3_
                 have HB := n4_
                 clear n0_ n1_ n2_ n3_ n4_
                 have p1163 : 0 ≤ (x7_1 : Int) := of_decide_eq_true z2
                 have q1163 : x7_1 < (l0_2.length : Int) := of_decide_eq_true z2
                 obtain ⟨ad1163, e1163, hx1163_0⟩ := Kd.at_int HR0_2.out x7_1 p1163 q1163
                 have hw1163_0 := hx1163_0
                 cases e1163
                 replace hx1163_0 := (HB.out.cell (World.block_lt_of_cell? w _ hx1163_0)).trans hx1163_0
                 replace p1163 := eq_true p1163
                 replace q1163 := eq_true q1163
                 have p1164 : 0 ≤ (x7_1 : Int) := of_decide_eq_true z2
                 have q1164 : x7_1 < (l1.length : Int) := of_decide_eq_true z2
                 obtain ⟨ad1164, e1164, hx1164_0⟩ := Kd.at_int HR1.out x7_1 p1164 q1164
                 have hw1164_0 := hx1164_0
                 obtain rfl : ad1161 = ad1164 := (by injection e1164)
                 replace hx1164_0 := (HB.out.cell (World.block_lt_of_cell? w _ hx1164_0)).trans hx1164_0
                 replace p1164 := eq_true p1164
                 replace q1164 := eq_true q1164
                 refine start_ (n := 15) (S := fun w' => w'.cell? ⟨gb1160, 0, none⟩ = some (.int .i64 (wrap64 (x1161000_1 + (rd l0_1 x7_1)))) ∧ w'.cell? ⟨gb1160, 1, none⟩ = some (.int .i64 x1161001_1) ∧ w'.cell? ⟨gb1160, 2, none⟩ = some (.int .i64 x1161002_1) ∧ w'.cell? ⟨gb1155, 0, none⟩ = some (.slice A0_0 l0_0.length c0_0) ∧ w'.cell? ⟨gb1155, 1, none⟩ = some (.slice (some ad1162) l0_1.length c0_1) ∧ w'.cell? ⟨gb1155, 2, none⟩ = some (.slice (some ad1163) l0_2.length c0_2) ∧ w'.cell? ⟨gb1155, 3, none⟩ = some (.slice A0_3 l0_3.length c0_3) ∧ w'.cell? (ad1163.add (x7_1).toNat) = some (.int .i64 (rd l0_2 x7_1)) ∧ w'.cell? (ad1161.add (x7_1).toNat) = some (.int .i64 (rd l1 x7_1))) (ds := [14]) #[false, false, false, false, false, false, false, false, false, false, false, false, false, false, false] (by kernel_rfl) rfl rfl ⟨(blk_cell BK1160.out 0).trans rfl, (blk_cell BK1160.out 1).trans rfl, (blk_cell BK1160.out 2).trans rfl, (blk_cell BK1155.out 0).trans rfl, (blk_cell BK1155.out 1).trans rfl, (blk_cell BK1155.out 2).trans rfl, (blk_cell BK1155.out 3).trans rfl, ((HB.out.cell (World.block_lt_of_cell? w _ hw1163_0)).trans hw1163_0), ((HB.out.cell (World.block_lt_of_cell? w _ hw1164_0)).trans hw1164_0)⟩ (fun hHeld => ?_); refine with_tabW spec_l2Parts.tab7 spec_l2Parts.bits7 (fun HT_ HW_ => ?_)
                 generalize w22.drew = w23 at HO_6 BK1155 BK1156 BK1160 HB hx1163_0 hx1164_0 hHeld ⊢
                 refine zP (i := 0) (N := some 32) #[true, false, false, false, false, false, false, false, false, false, false, false, false, false, false] (any_of HT_.out (by kernel_rfl)) ?_
                 refine zP (i := 2) (N := some 34) #[true, false, true, false, false, false, false, false, false, false, false, false, false, false, false] (any_of HT_.out (by kernel_rfl)) ?_
                 refine zP (i := 4) (N := some 36) #[true, false, true, false, true, false, false, false, false, false, false, false, false, false, false] (any_of HT_.out (by kernel_rfl)) ?_
                 refine zP (i := 7) (N := some 39) #[true, false, true, false, true, false, false, true, false, false, false, false, false, false, false] (any_of HT_.out (by kernel_rfl)) ?_
                 refine zP (i := 8) (N := some 40) #[true, false, true, false, true, false, false, true, true, false, false, false, false, false, false] (any_of HT_.out (by kernel_rfl)) ?_
                 refine zP (i := 9) (N := some 41) #[true, false, true, false, true, false, false, true, true, true, false, false, false, false, false] (any_of HT_.out (by kernel_rfl)) ?_
                 refine take_ (i := 1) (N := some 33) (v := ?_) (a' := ?_) #[true, true, true, false, true, false, false, true, true, true, false, false, false, false, false] rfl rfl (take_ofW HT_.out HW_.out (by kernel_rfl)) (fun _ _ _ h => h) (Or.inl ⟨by rfl, ?_⟩) hHeld ?_ ?_
                 rotate_left
                 · rintro w' ⟨s0, s1, s2, s3, s4, s5, s6, s7, s8⟩
                   go_simp
                   with_reducible rfl
                 rotate_left
                 · simp only [Act.put, List.setIfInBounds_toArray, List.set_cons_zero, List.set_cons_succ, i64_w, i32_w]
                   rfl
                 refine take_ (i := 3) (N := some 35) (v := ?_) (a' := ?_) #[true, true, true, true, true, false, false, true, true, true, false, false, false, false, false] rfl rfl (take_ofW HT_.out HW_.out (by kernel_rfl)) (fun _ _ _ h => h) (Or.inl ⟨by rfl, ?_⟩) hHeld ?_ ?_
                 rotate_left
                 · rintro w' ⟨s0, s1, s2, s3, s4, s5, s6, s7, s8⟩
                   go_simp
                   with_reducible rfl
                 rotate_left
                 · simp only [Act.put, List.setIfInBounds_toArray, List.set_cons_zero, List.set_cons_succ, i64_w, i32_w]
                   rfl
                 refine zP (i := 5) (N := some 37) #[true, true, true, true, true, true, false, true, true, true, false, false, false, false, false] (any_of HT_.out (by kernel_rfl)) ?_
                 refine take_ (i := 6) (N := some 38) (v := ?_) (a' := ?_) #[true, true, true, true, true, true, true, true, true, true, false, false, false, false, false] rfl rfl (take_ofW HT_.out HW_.out (by kernel_rfl)) (fun _ _ _ h => h) (Or.inl ⟨by rfl, ?_⟩) hHeld ?_ ?_
                 rotate_left
                 · rintro w' ⟨s0, s1, s2, s3, s4, s5, s6, s7, s8⟩
                   go_simp
                   with_reducible rfl
                 rotate_left
                 · simp only [Act.put, List.setIfInBounds_toArray, List.set_cons_zero, List.set_cons_succ, i64_w, i32_w]
                   rfl
                 refine take_ (i := 10) (N := some 42) (v := ?_) (a' := ?_) #[true, true, true, true, true, true, true, true, true, true, true, false, false, false, false] rfl rfl (take_ofW HT_.out HW_.out (by kernel_rfl)) (fun _ _ _ h => h) (Or.inl ⟨by rfl, ?_⟩) hHeld ?_ ?_
                 rotate_left
                 · rintro w' ⟨s0, s1, s2, s3, s4, s5, s6, s7, s8⟩
                   go_simp
                   with_reducible rfl
                 rotate_left
                 · simp only [Act.put, List.setIfInBounds_toArray, List.set_cons_zero, List.set_cons_succ, i64_w, i32_w]
                   rfl
                 refine zP (i := 11) (N := some 43) #[true, true, true, true, true, true, true, true, true, true, true, true, false, false, false] (any_of HT_.out (by kernel_rfl)) ?_
                 refine zP (i := 12) (N := some 44) #[true, true, true, true, true, true, true, true, true, true, true, true, true, false, false] (any_of HT_.out (by kernel_rfl)) ?_
                 refine zP (i := 13) (N := some 45) #[true, true, true, true, true, true, true, true, true, true, true, true, true, true, false] (any_of HT_.out (by kernel_rfl)) ?_
                 refine last_ (i := 14) (N := none) #[true, true, true, true, true, true, true, true, true, true, true, true, true, true, true] rfl rfl (one_of HT_.out (by kernel_rfl)) (by decide) (fun K hK => ?_)
                 have hs24 : w23.cell? ⟨gb1160, 1, none⟩ = some (.int .i64 x1161001_1) := (blk_cell BK1160.out 1).trans rfl
                 have hfs24 := blk_frozen BK1160.out 1
                 have hns24_0 := NB1155_1160.out
                 have hns24_1 := NB1156_1160.out
                 have hms24_0 := NB1160_1155.out
                 have hms24_1 := NB1160_1156.out
                 refine skip_ (w1 := ?_) (by rfl) rfl ?_ ?_
                 rotate_left
                 · go_simp
                   rfl
                 refine hK.out _ _ ?_
                 clear hK K
                 refine done_ (done_of HT_.out (by kernel_rfl)) ?_
                 try go_wp2
                 have n0_ : Aside0 (Kd.R (Kd.int .i64) 3 (w23.setCell ⟨gb1160, 1, none⟩ (.int .i64 (wrap64 (x1161001_1 + (wrap64 ((rd l0_2 x7_1) * (rd l1 x7_1))))))) w.heap.size (fun _ => True) v1158 t1157) := ⟨by (with_reducible repeat (first | apply Kd.R_alloc | apply Kd.R_drewN | apply Kd.R_drew)); exact Kd.R_mono (Kd.R_far (p := ⟨gb1160, 1, none⟩) (Kd.R_types HO_6.out BK1160.out (by decide)) (fun _ hk => hk.2) (.int .i64 (wrap64 (x1161001_1 + (wrap64 ((rd l0_2 x7_1) * (rd l1 x7_1))))))) (fun _ hk => trivial)⟩
                 have n1_ : Aside0 ((w23.setCell ⟨gb1160, 1, none⟩ (.int .i64 (wrap64 (x1161001_1 + (wrap64 ((rd l0_2 x7_1) * (rd l1 x7_1))))))).heap[gb1155]? = some (.cells #[.slice A0_0 l0_0.length c0_0, .slice (some ad1162) l0_1.length c0_1, .slice (some ad1163) l0_2.length c0_2, .slice A0_3 l0_3.length c0_3] 49 (0, 0))) := ⟨by (with_reducible repeat (first | refine blk_drewN ?_ _ | refine blk_drew ?_ | refine blk_alloc ?_ _)); refine blk_far ?_ NB1155_1160.out _; (with_reducible repeat (first | refine blk_drewN ?_ _ | refine blk_drew ?_ | refine blk_alloc ?_ _)); exact BK1155.out⟩
                 have n2_ : Aside0 ((w23.setCell ⟨gb1160, 1, none⟩ (.int .i64 (wrap64 (x1161001_1 + (wrap64 ((rd l0_2 x7_1) * (rd l1 x7_1))))))).heap[gb1156]? = some (.cells #[.int .i64 0, .int .i64 0, .int .i64 0] 114 (0, 0))) := ⟨by (with_reducible repeat (first | refine blk_drewN ?_ _ | refine blk_drew ?_ | refine blk_alloc ?_ _)); refine blk_far ?_ NB1156_1160.out _; (with_reducible repeat (first | refine blk_drewN ?_ _ | refine blk_drew ?_ | refine blk_alloc ?_ _)); exact BK1156.out⟩
                 have n3_ : Aside0 ((w23.setCell ⟨gb1160, 1, none⟩ (.int .i64 (wrap64 (x1161001_1 + (wrap64 ((rd l0_2 x7_1) * (rd l1 x7_1))))))).heap[gb1160]? = some (.cells #[.int .i64 (wrap64 (x1161000_1 + (rd l0_1 x7_1))), .int .i64 (wrap64 (x1161001_1 + (wrap64 ((rd l0_2 x7_1) * (rd l1 x7_1))))), .int .i64 x1161002_1] 114 (0, 0))) := ⟨by (with_reducible repeat (first | refine blk_drewN ?_ _ | refine blk_drew ?_ | refine blk_alloc ?_ _)); refine blk_put (cs := #[.int .i64 (wrap64 (x1161000_1 + (rd l0_1 x7_1))), .int .i64 x1161001_1, .int .i64 x1161002_1]) ?_ 1 _ rfl; (with_reducible repeat (first | refine blk_drewN ?_ _ | refine blk_drew ?_ | refine blk_alloc ?_ _)); exact BK1160.out⟩
                 have n4_ : Aside0 (Below w.heap.size w (w23.setCell ⟨gb1160, 1, none⟩ (.int .i64 (wrap64 (x1161001_1 + (wrap64 ((rd l0_2 x7_1) * (rd l1 x7_1)))))))) := ⟨by repeat (first | (with_reducible first | exact HB.out | apply below_alloc | apply pw_below_drewN | apply below_drew1 | refine below_set ?_ GE1155.out | refine below_set ?_ GE1156.out | refine below_set ?_ GE1160.out) | exact HB.out)⟩
                 (try clear HO_6)
                 (try clear BK1155)
                 (try clear BK1156)
                 (try clear BK1160)
                 (try clear HB)
                 generalize (w23.setCell ⟨gb1160, 1, none⟩ (.int .i64 (wrap64 (x1161001_1 + (wrap64 ((rd l0_2 x7_1) * (rd l1 x7_1))))))) = w25 at n0_ n1_ n2_ n3_ n4_ ⊢
                 have HO_6 := n0_
                 have BK1155 := n1_
                 have BK1156 := n2_
                 have BK1160 := n3_
                 have HB := n4_
                 clear n0_ n1_ n2_ n3_ n4_
                 have n0_ := Aside0.mk (Kd.R_drew HO_6.out)
                 have n1_ := Aside0.mk (blk_drew BK1155.out)
                 have n2_ := Aside0.mk (blk_drew BK1156.out)
                 have n3_ := Aside0.mk (blk_drew BK1160.out)
                 have n4_ := Aside0.mk (below_drew1 HB.out)
                 clear HO_6
                 clear BK1155
                 clear BK1156
                 clear BK1160
                 clear HB
                 have HO_6 := n0_
                 have BK1155 := n1_
                 have BK1156 := n2_
                 have BK1160 := n3_
                 have HB := n4_
                 clear n0_ n1_ n2_ n3_ n4_
                 have p1165 : 0 ≤ (x7_1 : Int) := of_decide_eq_true z2
                 have q1165 : x7_1 < (l0_3.length : Int) := of_decide_eq_true z2
                 obtain ⟨ad1165, e1165, hx1165_0⟩ := Kd.at_int HR0_3.out x7_1 p1165 q1165
                 have hw1165_0 := hx1165_0
                 cases e1165
                 replace hx1165_0 := (HB.out.cell (World.block_lt_of_cell? w _ hx1165_0)).trans hx1165_0
                 replace p1165 := eq_true p1165
                 replace q1165 := eq_true q1165
                 obtain ⟨Ao27, co27, eo27⟩ := Kd.R_slice HO_6.out
                 (first | subst eo27 | (injection eo27 with f1_ f2_ f3_; have f4_ := f1_.symm; have f5_ := f3_.symm; clear f1_ f2_ f3_; subst f4_; subst f5_))
                 have p1166 : 0 ≤ (x7_1 : Int) := of_decide_eq_true z2
                 have q1166 : x7_1 < (t1157.length : Int) := of_decide_eq_true z2
                 obtain ⟨ad1166, e1166, hx1166_0⟩ := Kd.at_int (Kd.R_reads' HO_6.out).2.2 x7_1 p1166 q1166
                 cases e1166
                 replace p1166 := eq_true p1166
                 replace q1166 := eq_true q1166
                 refine start_ (n := 15) (S := fun w' => w'.cell? ⟨gb1160, 0, none⟩ = some (.int .i64 (wrap64 (x1161000_1 + (rd l0_1 x7_1)))) ∧ w'.cell? ⟨gb1160, 1, none⟩ = some (.int .i64 (wrap64 (x1161001_1 + (wrap64 ((rd l0_2 x7_1) * (rd l1 x7_1)))))) ∧ w'.cell? ⟨gb1160, 2, none⟩ = some (.int .i64 x1161002_1) ∧ w'.cell? ⟨gb1155, 0, none⟩ = some (.slice A0_0 l0_0.length c0_0) ∧ w'.cell? ⟨gb1155, 1, none⟩ = some (.slice (some ad1162) l0_1.length c0_1) ∧ w'.cell? ⟨gb1155, 2, none⟩ = some (.slice (some ad1163) l0_2.length c0_2) ∧ w'.cell? ⟨gb1155, 3, none⟩ = some (.slice (some ad1165) l0_3.length c0_3) ∧ w'.cell? (ad1165.add (x7_1).toNat) = some (.int .i64 (rd l0_3 x7_1)) ∧ w'.cell? (ad1166.add (x7_1).toNat) = some (.int .i64 (rd t1157 x7_1))) (ds := [14]) #[false, false, false, false, false, false, false, false, false, false, false, false, false, false, false] (by kernel_rfl) rfl rfl ⟨(blk_cell BK1160.out 0).trans rfl, (blk_cell BK1160.out 1).trans rfl, (blk_cell BK1160.out 2).trans rfl, (blk_cell BK1155.out 0).trans rfl, (blk_cell BK1155.out 1).trans rfl, (blk_cell BK1155.out 2).trans rfl, (blk_cell BK1155.out 3).trans rfl, ((HB.out.cell (World.block_lt_of_cell? w _ hw1165_0)).trans hw1165_0), hx1166_0⟩ (fun hHeld => ?_); refine with_tabW spec_l2Parts.tab8 spec_l2Parts.bits8 (fun HT_ HW_ => ?_)
                 generalize w25.drew = w26 at HO_6 BK1155 BK1156 BK1160 HB hx1165_0 hx1166_0 hHeld ⊢
                 refine zP (i := 0) (N := some 46) #[true, false, false, false, false, false, false, false, false, false, false, false, false, false, false] (any_of HT_.out (by kernel_rfl)) ?_
                 refine zP (i := 2) (N := some 48) #[true, false, true, false, false, false, false, false, false, false, false, false, false, false, false] (any_of HT_.out (by kernel_rfl)) ?_
                 refine zP (i := 4) (N := some 50) #[true, false, true, false, true, false, false, false, false, false, false, false, false, false, false] (any_of HT_.out (by kernel_rfl)) ?_
                 refine zP (i := 7) (N := some 53) #[true, false, true, false, true, false, false, true, false, false, false, false, false, false, false] (any_of HT_.out (by kernel_rfl)) ?_
                 refine zP (i := 8) (N := some 54) #[true, false, true, false, true, false, false, true, true, false, false, false, false, false, false] (any_of HT_.out (by kernel_rfl)) ?_
                 refine zP (i := 9) (N := some 55) #[true, false, true, false, true, false, false, true, true, true, false, false, false, false, false] (any_of HT_.out (by kernel_rfl)) ?_
                 refine take_ (i := 1) (N := some 47) (v := ?_) (a' := ?_) #[true, true, true, false, true, false, false, true, true, true, false, false, false, false, false] rfl rfl (take_ofW HT_.out HW_.out (by kernel_rfl)) (fun _ _ _ h => h) (Or.inl ⟨by rfl, ?_⟩) hHeld ?_ ?_
                 rotate_left
                 · rintro w' ⟨s0, s1, s2, s3, s4, s5, s6, s7, s8⟩
                   go_simp
                   with_reducible rfl
                 rotate_left
                 · simp only [Act.put, List.setIfInBounds_toArray, List.set_cons_zero, List.set_cons_succ, i64_w, i32_w]
                   rfl
                 refine take_ (i := 3) (N := some 49) (v := ?_) (a' := ?_) #[true, true, true, true, true, false, false, true, true, true, false, false, false, false, false] rfl rfl (take_ofW HT_.out HW_.out (by kernel_rfl)) (fun _ _ _ h => h) (Or.inl ⟨by rfl, ?_⟩) hHeld ?_ ?_
                 rotate_left
                 · rintro w' ⟨s0, s1, s2, s3, s4, s5, s6, s7, s8⟩
                   go_simp
                   with_reducible rfl
                 rotate_left
                 · simp only [Act.put, List.setIfInBounds_toArray, List.set_cons_zero, List.set_cons_succ, i64_w, i32_w]
                   rfl
                 refine zP (i := 5) (N := some 51) #[true, true, true, true, true, true, false, true, true, true, false, false, false, false, false] (any_of HT_.out (by kernel_rfl)) ?_
                 refine take_ (i := 6) (N := some 52) (v := ?_) (a' := ?_) #[true, true, true, true, true, true, true, true, true, true, false, false, false, false, false] rfl rfl (take_ofW HT_.out HW_.out (by kernel_rfl)) (fun _ _ _ h => h) (Or.inl ⟨by rfl, ?_⟩) hHeld ?_ ?_
                 rotate_left
                 · rintro w' ⟨s0, s1, s2, s3, s4, s5, s6, s7, s8⟩
                   go_simp
                   with_reducible rfl
                 rotate_left
                 · simp only [Act.put, List.setIfInBounds_toArray, List.set_cons_zero, List.set_cons_succ, i64_w, i32_w]
                   rfl
                 refine take_ (i := 10) (N := some 56) (v := ?_) (a' := ?_) #[true, true, true, true, true, true, true, true, true, true, true, false, false, false, false] rfl rfl (take_ofW HT_.out HW_.out (by kernel_rfl)) (fun _ _ _ h => h) (Or.inl ⟨by rfl, ?_⟩) hHeld ?_ ?_
                 rotate_left
                 · rintro w' ⟨s0, s1, s2, s3, s4, s5, s6, s7, s8⟩
                   go_simp
                   with_reducible rfl
                 rotate_left
                 · simp only [Act.put, List.setIfInBounds_toArray, List.set_cons_zero, List.set_cons_succ, i64_w, i32_w]
                   rfl
                 refine zP (i := 11) (N := some 57) #[true, true, true, true, true, true, true, true, true, true, true, true, false, false, false] (any_of HT_.out (by kernel_rfl)) ?_
                 refine zP (i := 12) (N := some 58) #[true, true, true, true, true, true, true, true, true, true, true, true, true, false, false] (any_of HT_.out (by kernel_rfl)) ?_
                 refine zP (i := 13) (N := some 59) #[true, true, true, true, true, true, true, true, true, true, true, true, true, true, false] (any_of HT_.out (by kernel_rfl)) ?_
                 refine last_ (i := 14) (N := none) #[true, true, true, true, true, true, true, true, true, true, true, true, true, true, true] rfl rfl (one_of HT_.out (by kernel_rfl)) (by decide) (fun K hK => ?_)
                 have hs28 : w26.cell? ⟨gb1160, 2, none⟩ = some (.int .i64 x1161002_1) := (blk_cell BK1160.out 2).trans rfl
                 have hfs28 := blk_frozen BK1160.out 2
                 have hns28_0 := NB1155_1160.out
                 have hns28_1 := NB1156_1160.out
                 have hms28_0 := NB1160_1155.out
                 have hms28_1 := NB1160_1156.out
                 refine skip_ (w1 := ?_) (by rfl) rfl ?_ ?_
                 rotate_left
                 · go_simp
                   rfl
                 refine hK.out _ _ ?_
                 clear hK K
                 refine done_ (done_of HT_.out (by kernel_rfl)) ?_
                 try go_wp2
                 go_roundg k1
                 case measure => have := HK1.out; omega
                 case rel => exact ⟨(wrap64 (x7_1 + 1)), (wrap64 (x1161000_1 + (rd l0_1 x7_1))), (wrap64 (x1161001_1 + (wrap64 ((rd l0_2 x7_1) * (rd l1 x7_1))))), (wrap64 (x1161002_1 + (wrap64 ((rd l0_3 x7_1) * (rd t1157 x7_1))))), z3, H', ⟨by have := HK1.out; omega⟩, ⟨by (with_reducible repeat (first | apply Kd.R_alloc | apply Kd.R_drewN | apply Kd.R_drew)); exact Kd.R_mono (Kd.R_far (p := ⟨gb1160, 2, none⟩) (Kd.R_types HO_6.out BK1160.out (by decide)) (fun _ hk => hk.2) (.int .i64 (wrap64 (x1161002_1 + (wrap64 ((rd l0_3 x7_1) * (rd t1157 x7_1))))))) (fun _ hk => trivial)⟩, ⟨by (with_reducible repeat (first | refine blk_drewN ?_ _ | refine blk_drew ?_ | refine blk_alloc ?_ _)); refine blk_far ?_ NB1155_1160.out _; (with_reducible repeat (first | refine blk_drewN ?_ _ | refine blk_drew ?_ | refine blk_alloc ?_ _)); exact BK1155.out⟩, ⟨by (with_reducible repeat (first | refine blk_drewN ?_ _ | refine blk_drew ?_ | refine blk_alloc ?_ _)); refine blk_far ?_ NB1156_1160.out _; (with_reducible repeat (first | refine blk_drewN ?_ _ | refine blk_drew ?_ | refine blk_alloc ?_ _)); exact BK1156.out⟩, ⟨by (with_reducible repeat (first | refine blk_drewN ?_ _ | refine blk_drew ?_ | refine blk_alloc ?_ _)); refine blk_put (cs := #[.int .i64 (wrap64 (x1161000_1 + (rd l0_1 x7_1))), .int .i64 (wrap64 (x1161001_1 + (wrap64 ((rd l0_2 x7_1) * (rd l1 x7_1))))), .int .i64 x1161002_1]) ?_ 2 _ rfl; (with_reducible repeat (first | refine blk_drewN ?_ _ | refine blk_drew ?_ | refine blk_alloc ?_ _)); exact BK1160.out⟩, ⟨by repeat (first | (with_reducible first | exact HB.out | apply below_alloc | apply pw_below_drewN | apply below_drew1 | refine below_set ?_ GE1155.out | refine below_set ?_ GE1156.out | refine below_set ?_ GE1160.out) | exact HB.out)⟩⟩
               · rw [if_neg c19] at H
                 exact absurd H (by simp)
             · rw [if_neg c18] at H
               exact absurd H (by simp)
           · rw [if_neg c17] at H
             exact absurd H (by simp)
         · rw [if_neg c16] at H
           exact absurd H (by simp)
       · rw [if_neg c15] at H
         have c15b0 : decide (0 < (rd l1 x7_1)) = false := decide_eq_false c15
         clear c15
         by_cases c29 : x7_1 < (l0_2.length : Int)
         · rw [if_pos c29] at H
           have c29b0 : decide (x7_1 < (l0_2.length : Int)) = true := decide_eq_true c29
           clear c29
           by_cases c30 : x7_1 < (l0_3.length : Int)
           · rw [if_pos c30] at H
             have c30b0 : decide (x7_1 < (l0_3.length : Int)) = true := decide_eq_true c30
             clear c30
             by_cases c31 : x7_1 < (t1157.length : Int)
             · rw [if_pos c31] at H
               have c31b0 : decide (x7_1 < (t1157.length : Int)) = true := decide_eq_true c31
               clear c31
               have H' := Aside0.mk H
               clear H
               have p1161 : 0 ≤ (x7_1 : Int) := of_decide_eq_true z2
               have q1161 : x7_1 < (l1.length : Int) := of_decide_eq_true z2
               obtain ⟨ad1161, e1161, hx1161_0⟩ := Kd.at_int HR1.out x7_1 p1161 q1161
               cases e1161
               replace hx1161_0 := (HB.out.cell (World.block_lt_of_cell? w _ hx1161_0)).trans hx1161_0
               replace p1161 := eq_true p1161
               replace q1161 := eq_true q1161
               try go_wp2
               have n0_ := Aside0.mk (Kd.R_drew HO_6.out)
               have n1_ := Aside0.mk (blk_drew BK1155.out)
               have n2_ := Aside0.mk (blk_drew BK1156.out)
               have n3_ := Aside0.mk (blk_drew BK1160.out)
               have n4_ := Aside0.mk (below_drew1 HB.out)
               clear HO_6
               clear BK1155
               clear BK1156
               clear BK1160
               clear HB
               have HO_6 := n0_
               have BK1155 := n1_
               have BK1156 := n2_
               have BK1160 := n3_
               have HB := n4_
               clear n0_ n1_ n2_ n3_ n4_
               have p1167 : 0 ≤ (x7_1 : Int) := of_decide_eq_true z2
               have q1167 : x7_1 < (l0_2.length : Int) := of_decide_eq_true z2
               obtain ⟨ad1167, e1167, hx1167_0⟩ := Kd.at_int HR0_2.out x7_1 p1167 q1167
               have hw1167_0 := hx1167_0
               cases e1167
               replace hx1167_0 := (HB.out.cell (World.block_lt_of_cell? w _ hx1167_0)).trans hx1167_0
               replace p1167 := eq_true p1167
               replace q1167 := eq_true q1167
               have p1168 : 0 ≤ (x7_1 : Int) := of_decide_eq_true z2
               have q1168 : x7_1 < (l1.length : Int) := of_decide_eq_true z2
               obtain ⟨ad1168, e1168, hx1168_0⟩ := Kd.at_int HR1.out x7_1 p1168 q1168
               have hw1168_0 := hx1168_0
               obtain rfl : ad1161 = ad1168 := (by injection e1168)
               replace hx1168_0 := (HB.out.cell (World.block_lt_of_cell? w _ hx1168_0)).trans hx1168_0
               replace p1168 := eq_true p1168
               replace q1168 := eq_true q1168
               refine start_ (n := 15) (S := fun w' => w'.cell? ⟨gb1160, 0, none⟩ = some (.int .i64 x1161000_1) ∧ w'.cell? ⟨gb1160, 1, none⟩ = some (.int .i64 x1161001_1) ∧ w'.cell? ⟨gb1160, 2, none⟩ = some (.int .i64 x1161002_1) ∧ w'.cell? ⟨gb1155, 0, none⟩ = some (.slice A0_0 l0_0.length c0_0) ∧ w'.cell? ⟨gb1155, 1, none⟩ = some (.slice A0_1 l0_1.length c0_1) ∧ w'.cell? ⟨gb1155, 2, none⟩ = some (.slice (some ad1167) l0_2.length c0_2) ∧ w'.cell? ⟨gb1155, 3, none⟩ = some (.slice A0_3 l0_3.length c0_3) ∧ w'.cell? (ad1167.add (x7_1).toNat) = some (.int .i64 (rd l0_2 x7_1)) ∧ w'.cell? (ad1161.add (x7_1).toNat) = some (.int .i64 (rd l1 x7_1))) (ds := [14]) #[false, false, false, false, false, false, false, false, false, false, false, false, false, false, false] (by kernel_rfl) rfl rfl ⟨(blk_cell BK1160.out 0).trans rfl, (blk_cell BK1160.out 1).trans rfl, (blk_cell BK1160.out 2).trans rfl, (blk_cell BK1155.out 0).trans rfl, (blk_cell BK1155.out 1).trans rfl, (blk_cell BK1155.out 2).trans rfl, (blk_cell BK1155.out 3).trans rfl, ((HB.out.cell (World.block_lt_of_cell? w _ hw1167_0)).trans hw1167_0), ((HB.out.cell (World.block_lt_of_cell? w _ hw1168_0)).trans hw1168_0)⟩ (fun hHeld => ?_); refine with_tabW spec_l2Parts.tab7 spec_l2Parts.bits7 (fun HT_ HW_ => ?_)
               generalize wr.drew = w32 at HO_6 BK1155 BK1156 BK1160 HB hx1167_0 hx1168_0 hHeld ⊢
               refine zP (i := 0) (N := some 32) #[true, false, false, false, false, false, false, false, false, false, false, false, false, false, false] (any_of HT_.out (by kernel_rfl)) ?_
               refine zP (i := 2) (N := some 34) #[true, false, true, false, false, false, false, false, false, false, false, false, false, false, false] (any_of HT_.out (by kernel_rfl)) ?_
               refine zP (i := 4) (N := some 36) #[true, false, true, false, true, false, false, false, false, false, false, false, false, false, false] (any_of HT_.out (by kernel_rfl)) ?_
               refine zP (i := 7) (N := some 39) #[true, false, true, false, true, false, false, true, false, false, false, false, false, false, false] (any_of HT_.out (by kernel_rfl)) ?_
               refine zP (i := 8) (N := some 40) #[true, false, true, false, true, false, false, true, true, false, false, false, false, false, false] (any_of HT_.out (by kernel_rfl)) ?_
               refine zP (i := 9) (N := some 41) #[true, false, true, false, true, false, false, true, true, true, false, false, false, false, false] (any_of HT_.out (by kernel_rfl)) ?_
               refine take_ (i := 1) (N := some 33) (v := ?_) (a' := ?_) #[true, true, true, false, true, false, false, true, true, true, false, false, false, false, false] rfl rfl (take_ofW HT_.out HW_.out (by kernel_rfl)) (fun _ _ _ h => h) (Or.inl ⟨by rfl, ?_⟩) hHeld ?_ ?_
               rotate_left
               · rintro w' ⟨s0, s1, s2, s3, s4, s5, s6, s7, s8⟩
                 go_simp
                 with_reducible rfl
               rotate_left
               · simp only [Act.put, List.setIfInBounds_toArray, List.set_cons_zero, List.set_cons_succ, i64_w, i32_w]
                 rfl
               refine take_ (i := 3) (N := some 35) (v := ?_) (a' := ?_) #[true, true, true, true, true, false, false, true, true, true, false, false, false, false, false] rfl rfl (take_ofW HT_.out HW_.out (by kernel_rfl)) (fun _ _ _ h => h) (Or.inl ⟨by rfl, ?_⟩) hHeld ?_ ?_
               rotate_left
               · rintro w' ⟨s0, s1, s2, s3, s4, s5, s6, s7, s8⟩
                 go_simp
                 with_reducible rfl
               rotate_left
               · simp only [Act.put, List.setIfInBounds_toArray, List.set_cons_zero, List.set_cons_succ, i64_w, i32_w]
                 rfl
               refine zP (i := 5) (N := some 37) #[true, true, true, true, true, true, false, true, true, true, false, false, false, false, false] (any_of HT_.out (by kernel_rfl)) ?_
               refine take_ (i := 6) (N := some 38) (v := ?_) (a' := ?_) #[true, true, true, true, true, true, true, true, true, true, false, false, false, false, false] rfl rfl (take_ofW HT_.out HW_.out (by kernel_rfl)) (fun _ _ _ h => h) (Or.inl ⟨by rfl, ?_⟩) hHeld ?_ ?_
               rotate_left
               · rintro w' ⟨s0, s1, s2, s3, s4, s5, s6, s7, s8⟩
                 go_simp
                 with_reducible rfl
               rotate_left
               · simp only [Act.put, List.setIfInBounds_toArray, List.set_cons_zero, List.set_cons_succ, i64_w, i32_w]
                 rfl
               refine take_ (i := 10) (N := some 42) (v := ?_) (a' := ?_) #[true, true, true, true, true, true, true, true, true, true, true, false, false, false, false] rfl rfl (take_ofW HT_.out HW_.out (by kernel_rfl)) (fun _ _ _ h => h) (Or.inl ⟨by rfl, ?_⟩) hHeld ?_ ?_
               rotate_left
               · rintro w' ⟨s0, s1, s2, s3, s4, s5, s6, s7, s8⟩
                 go_simp
                 with_reducible rfl
               rotate_left
               · simp only [Act.put, List.setIfInBounds_toArray, List.set_cons_zero, List.set_cons_succ, i64_w, i32_w]
                 rfl
               refine zP (i := 11) (N := some 43) #[true, true, true, true, true, true, true, true, true, true, true, true, false, false, false] (any_of HT_.out (by kernel_rfl)) ?_
               refine zP (i := 12) (N := some 44) #[true, true, true, true, true, true, true, true, true, true, true, true, true, false, false] (any_of HT_.out (by kernel_rfl)) ?_
               refine zP (i := 13) (N := some 45) #[true, true, true, true, true, true, true, true, true, true, true, true, true, true, false] (any_of HT_.out (by kernel_rfl)) ?_
               refine last_ (i := 14) (N := none) #[true, true, true, true, true, true, true, true, true, true, true, true, true, true, true] rfl rfl (one_of HT_.out (by kernel_rfl)) (by decide) (fun K hK => ?_)
               have hs33 : w32.cell? ⟨gb1160, 1, none⟩ = some (.int .i64 x1161001_1) := (blk_cell BK1160.out 1).trans rfl
               have hfs33 := blk_frozen BK1160.out 1
               have hns33_0 := NB1155_1160.out
               have hns33_1 := NB1156_1160.out
               have hms33_0 := NB1160_1155.out
               have hms33_1 := NB1160_1156.out
               refine skip_ (w1 := ?_) (by rfl) rfl ?_ ?_
               rotate_left
               · go_simp
                 rfl
               refine hK.out _ _ ?_
               clear hK K
               refine done_ (done_of HT_.out (by kernel_rfl)) ?_
               try go_wp2
               have n0_ : Aside0 (Kd.R (Kd.int .i64) 3 (w32.setCell ⟨gb1160, 1, none⟩ (.int .i64 (wrap64 (x1161001_1 + (wrap64 ((rd l0_2 x7_1) * (rd l1 x7_1))))))) w.heap.size (fun _ => True) v1158 t1157) := ⟨by (with_reducible repeat (first | apply Kd.R_alloc | apply Kd.R_drewN | apply Kd.R_drew)); exact Kd.R_mono (Kd.R_far (p := ⟨gb1160, 1, none⟩) (Kd.R_types HO_6.out BK1160.out (by decide)) (fun _ hk => hk.2) (.int .i64 (wrap64 (x1161001_1 + (wrap64 ((rd l0_2 x7_1) * (rd l1 x7_1))))))) (fun _ hk => trivial)⟩
               have n1_ : Aside0 ((w32.setCell ⟨gb1160, 1, none⟩ (.int .i64 (wrap64 (x1161001_1 + (wrap64 ((rd l0_2 x7_1) * (rd l1 x7_1))))))).heap[gb1155]? = some (.cells #[.slice A0_0 l0_0.length c0_0, .slice A0_1 l0_1.length c0_1, .slice (some ad1167) l0_2.length c0_2, .slice A0_3 l0_3.length c0_3] 49 (0, 0))) := ⟨by (with_reducible repeat (first | refine blk_drewN ?_ _ | refine blk_drew ?_ | refine blk_alloc ?_ _)); refine blk_far ?_ NB1155_1160.out _; (with_reducible repeat (first | refine blk_drewN ?_ _ | refine blk_drew ?_ | refine blk_alloc ?_ _)); exact BK1155.out⟩
               have n2_ : Aside0 ((w32.setCell ⟨gb1160, 1, none⟩ (.int .i64 (wrap64 (x1161001_1 + (wrap64 ((rd l0_2 x7_1) * (rd l1 x7_1))))))).heap[gb1156]? = some (.cells #[.int .i64 0, .int .i64 0, .int .i64 0] 114 (0, 0))) := ⟨by (with_reducible repeat (first | refine blk_drewN ?_ _ | refine blk_drew ?_ | refine blk_alloc ?_ _)); refine blk_far ?_ NB1156_1160.out _; (with_reducible repeat (first | refine blk_drewN ?_ _ | refine blk_drew ?_ | refine blk_alloc ?_ _)); exact BK1156.out⟩
               have n3_ : Aside0 ((w32.setCell ⟨gb1160, 1, none⟩ (.int .i64 (wrap64 (x1161001_1 + (wrap64 ((rd l0_2 x7_1) * (rd l1 x7_1))))))).heap[gb1160]? = some (.cells #[.int .i64 x1161000_1, .int .i64 (wrap64 (x1161001_1 + (wrap64 ((rd l0_2 x7_1) * (rd l1 x7_1))))), .int .i64 x1161002_1] 114 (0, 0))) := ⟨by (with_reducible repeat (first | refine blk_drewN ?_ _ | refine blk_drew ?_ | refine blk_alloc ?_ _)); refine blk_put (cs := #[.int .i64 x1161000_1, .int .i64 x1161001_1, .int .i64 x1161002_1]) ?_ 1 _ rfl; (with_reducible repeat (first | refine blk_drewN ?_ _ | refine blk_drew ?_ | refine blk_alloc ?_ _)); exact BK1160.out⟩
               have n4_ : Aside0 (Below w.heap.size w (w32.setCell ⟨gb1160, 1, none⟩ (.int .i64 (wrap64 (x1161001_1 + (wrap64 ((rd l0_2 x7_1) * (rd l1 x7_1)))))))) := ⟨by repeat (first | (with_reducible first | exact HB.out | apply below_alloc | apply pw_below_drewN | apply below_drew1 | refine below_set ?_ GE1155.out | refine below_set ?_ GE1156.out | refine below_set ?_ GE1160.out) | exact HB.out)⟩
               (try clear HO_6)
               (try clear BK1155)
               (try clear BK1156)
               (try clear BK1160)
               (try clear HB)
               generalize (w32.setCell ⟨gb1160, 1, none⟩ (.int .i64 (wrap64 (x1161001_1 + (wrap64 ((rd l0_2 x7_1) * (rd l1 x7_1))))))) = w34 at n0_ n1_ n2_ n3_ n4_ ⊢
               have HO_6 := n0_
               have BK1155 := n1_
               have BK1156 := n2_
               have BK1160 := n3_
               have HB := n4_
               clear n0_ n1_ n2_ n3_ n4_
               have n0_ := Aside0.mk (Kd.R_drew HO_6.out)
               have n1_ := Aside0.mk (blk_drew BK1155.out)
               have n2_ := Aside0.mk (blk_drew BK1156.out)
               have n3_ := Aside0.mk (blk_drew BK1160.out)
               have n4_ := Aside0.mk (below_drew1 HB.out)
               clear HO_6
               clear BK1155
               clear BK1156
               clear BK1160
               clear HB
               have HO_6 := n0_
               have BK1155 := n1_
               have BK1156 := n2_
               have BK1160 := n3_
               have HB := n4_
               clear n0_ n1_ n2_ n3_ n4_
               have p1169 : 0 ≤ (x7_1 : Int) := of_decide_eq_true z2
               have q1169 : x7_1 < (l0_3.length : Int) := of_decide_eq_true z2
               obtain ⟨ad1169, e1169, hx1169_0⟩ := Kd.at_int HR0_3.out x7_1 p1169 q1169
               have hw1169_0 := hx1169_0
               cases e1169
               replace hx1169_0 := (HB.out.cell (World.block_lt_of_cell? w _ hx1169_0)).trans hx1169_0
               replace p1169 := eq_true p1169
               replace q1169 := eq_true q1169
               obtain ⟨Ao36, co36, eo36⟩ := Kd.R_slice HO_6.out
               (first | subst eo36 | (injection eo36 with f1_ f2_ f3_; have f4_ := f1_.symm; have f5_ := f3_.symm; clear f1_ f2_ f3_; subst f4_; subst f5_))
               have p1170 : 0 ≤ (x7_1 : Int) := of_decide_eq_true z2
               have q1170 : x7_1 < (t1157.length : Int) := of_decide_eq_true z2
               obtain ⟨ad1170, e1170, hx1170_0⟩ := Kd.at_int (Kd.R_reads' HO_6.out).2.2 x7_1 p1170 q1170
               cases e1170
               replace p1170 := eq_true p1170
               replace q1170 := eq_true q1170
               refine start_ (n := 15) (S := fun w' => w'.cell? ⟨gb1160, 0, none⟩ = some (.int .i64 x1161000_1) ∧ w'.cell? ⟨gb1160, 1, none⟩ = some (.int .i64 (wrap64 (x1161001_1 + (wrap64 ((rd l0_2 x7_1) * (rd l1 x7_1)))))) ∧ w'.cell? ⟨gb1160, 2, none⟩ = some (.int .i64 x1161002_1) ∧ w'.cell? ⟨gb1155, 0, none⟩ = some (.slice A0_0 l0_0.length c0_0) ∧ w'.cell? ⟨gb1155, 1, none⟩ = some (.slice A0_1 l0_1.length c0_1) ∧ w'.cell? ⟨gb1155, 2, none⟩ = some (.slice (some ad1167) l0_2.length c0_2) ∧ w'.cell? ⟨gb1155, 3, none⟩ = some (.slice (some ad1169) l0_3.length c0_3) ∧ w'.cell? (ad1169.add (x7_1).toNat) = some (.int .i64 (rd l0_3 x7_1)) ∧ w'.cell? (ad1170.add (x7_1).toNat) = some (.int .i64 (rd t1157 x7_1))) (ds := [14]) #[false, false, false, false, false, false, false, false, false, false, false, false, false, false, false] (by kernel_rfl) rfl rfl ⟨(blk_cell BK1160.out 0).trans rfl, (blk_cell BK1160.out 1).trans rfl, (blk_cell BK1160.out 2).trans rfl, (blk_cell BK1155.out 0).trans rfl, (blk_cell BK1155.out 1).trans rfl, (blk_cell BK1155.out 2).trans rfl, (blk_cell BK1155.out 3).trans rfl, ((HB.out.cell (World.block_lt_of_cell? w _ hw1169_0)).trans hw1169_0), hx1170_0⟩ (fun hHeld => ?_); refine with_tabW spec_l2Parts.tab8 spec_l2Parts.bits8 (fun HT_ HW_ => ?_)
               generalize w34.drew = w35 at HO_6 BK1155 BK1156 BK1160 HB hx1169_0 hx1170_0 hHeld ⊢
               refine zP (i := 0) (N := some 46) #[true, false, false, false, false, false, false, false, false, false, false, false, false, false, false] (any_of HT_.out (by kernel_rfl)) ?_
               refine zP (i := 2) (N := some 48) #[true, false, true, false, false, false, false, false, false, false, false, false, false, false, false] (any_of HT_.out (by kernel_rfl)) ?_
               refine zP (i := 4) (N := some 50) #[true, false, true, false, true, false, false, false, false, false, false, false, false, false, false] (any_of HT_.out (by kernel_rfl)) ?_
               refine zP (i := 7) (N := some 53) #[true, false, true, false, true, false, false, true, false, false, false, false, false, false, false] (any_of HT_.out (by kernel_rfl)) ?_
               refine zP (i := 8) (N := some 54) #[true, false, true, false, true, false, false, true, true, false, false, false, false, false, false] (any_of HT_.out (by kernel_rfl)) ?_
               refine zP (i := 9) (N := some 55) #[true, false, true, false, true, false, false, true, true, true, false, false, false, false, false] (any_of HT_.out (by kernel_rfl)) ?_
               refine take_ (i := 1) (N := some 47) (v := ?_) (a' := ?_) #[true, true, true, false, true, false, false, true, true, true, false, false, false, false, false] rfl rfl (take_ofW HT_.out HW_.out (by kernel_rfl)) (fun _ _ _ h => h) (Or.inl ⟨by rfl, ?_⟩) hHeld ?_ ?_
               rotate_left
               · rintro w' ⟨s0, s1, s2, s3, s4, s5, s6, s7, s8⟩
                 go_simp
                 with_reducible rfl
               rotate_left
               · simp only [Act.put, List.setIfInBounds_toArray, List.set_cons_zero, List.set_cons_succ, i64_w, i32_w]
                 rfl
               refine take_ (i := 3) (N := some 49) (v := ?_) (a' := ?_) #[true, true, true, true, true, false, false, true, true, true, false, false, false, false, false] rfl rfl (take_ofW HT_.out HW_.out (by kernel_rfl)) (fun _ _ _ h => h) (Or.inl ⟨by rfl, ?_⟩) hHeld ?_ ?_
               rotate_left
               · rintro w' ⟨s0, s1, s2, s3, s4, s5, s6, s7, s8⟩
                 go_simp
                 with_reducible rfl
               rotate_left
               · simp only [Act.put, List.setIfInBounds_toArray, List.set_cons_zero, List.set_cons_succ, i64_w, i32_w]
                 rfl
               refine zP (i := 5) (N := some 51) #[true, true, true, true, true, true, false, true, true, true, false, false, false, false, false] (any_of HT_.out (by kernel_rfl)) ?_
               refine take_ (i := 6) (N := some 52) (v := ?_) (a' := ?_) #[true, true, true, true, true, true, true, true, true, true, false, false, false, false, false] rfl rfl (take_ofW HT_.out HW_.out (by kernel_rfl)) (fun _ _ _ h => h) (Or.inl ⟨by rfl, ?_⟩) hHeld ?_ ?_
               rotate_left
               · rintro w' ⟨s0, s1, s2, s3, s4, s5, s6, s7, s8⟩
                 go_simp
                 with_reducible rfl
               rotate_left
               · simp only [Act.put, List.setIfInBounds_toArray, List.set_cons_zero, List.set_cons_succ, i64_w, i32_w]
                 rfl
               refine take_ (i := 10) (N := some 56) (v := ?_) (a' := ?_) #[true, true, true, true, true, true, true, true, true, true, true, false, false, false, false] rfl rfl (take_ofW HT_.out HW_.out (by kernel_rfl)) (fun _ _ _ h => h) (Or.inl ⟨by rfl, ?_⟩) hHeld ?_ ?_
               rotate_left
               · rintro w' ⟨s0, s1, s2, s3, s4, s5, s6, s7, s8⟩
                 go_simp
                 with_reducible rfl
               rotate_left
               · simp only [Act.put, List.setIfInBounds_toArray, List.set_cons_zero, List.set_cons_succ, i64_w, i32_w]
                 rfl
               refine zP (i := 11) (N := some 57) #[true, true, true, true, true, true, true, true, true, true, true, true, false, false, false] (any_of HT_.out (by kernel_rfl)) ?_
               refine zP (i := 12) (N := some 58) #[true, true, true, true, true, true, true, true, true, true, true, true, true, false, false] (any_of HT_.out (by kernel_rfl)) ?_
               refine zP (i := 13) (N := some 59) #[true, true, true, true, true, true, true, true, true, true, true, true, true, true, false] (any_of HT_.out (by kernel_rfl)) ?_
               refine last_ (i := 14) (N := none) #[true, true, true, true, true, true, true, true, true, true, true, true, true, true, true] rfl rfl (one_of HT_.out (by kernel_rfl)) (by decide) (fun K hK => ?_)
               have hs37 : w35.cell? ⟨gb1160, 2, none⟩ = some (.int .i64 x1161002_1) := (blk_cell BK1160.out 2).trans rfl
               have hfs37 := blk_frozen BK1160.out 2
               have hns37_0 := NB1155_1160.out
               have hns37_1 := NB1156_1160.out
               have hms37_0 := NB1160_1155.out
               have hms37_1 := NB1160_1156.out
               refine skip_ (w1 := ?_) (by rfl) rfl ?_ ?_
               rotate_left
               · go_simp
                 rfl
               refine hK.out _ _ ?_
               clear hK K
               refine done_ (done_of HT_.out (by kernel_rfl)) ?_
               try go_wp2
               go_roundg k1
               case measure => have := HK1.out; omega
               case rel => exact ⟨(wrap64 (x7_1 + 1)), (x1161000_1), (wrap64 (x1161001_1 + (wrap64 ((rd l0_2 x7_1) * (rd l1 x7_1))))), (wrap64 (x1161002_1 + (wrap64 ((rd l0_3 x7_1) * (rd t1157 x7_1))))), z3, H', ⟨by have := HK1.out; omega⟩, ⟨by (with_reducible repeat (first | apply Kd.R_alloc | apply Kd.R_drewN | apply Kd.R_drew)); exact Kd.R_mono (Kd.R_far (p := ⟨gb1160, 2, none⟩) (Kd.R_types HO_6.out BK1160.out (by decide)) (fun _ hk => hk.2) (.int .i64 (wrap64 (x1161002_1 + (wrap64 ((rd l0_3 x7_1) * (rd t1157 x7_1))))))) (fun _ hk => trivial)⟩, ⟨by (with_reducible repeat (first | refine blk_drewN ?_ _ | refine blk_drew ?_ | refine blk_alloc ?_ _)); refine blk_far ?_ NB1155_1160.out _; (with_reducible repeat (first | refine blk_drewN ?_ _ | refine blk_drew ?_ | refine blk_alloc ?_ _)); exact BK1155.out⟩, ⟨by (with_reducible repeat (first | refine blk_drewN ?_ _ | refine blk_drew ?_ | refine blk_alloc ?_ _)); refine blk_far ?_ NB1156_1160.out _; (with_reducible repeat (first | refine blk_drewN ?_ _ | refine blk_drew ?_ | refine blk_alloc ?_ _)); exact BK1156.out⟩, ⟨by (with_reducible repeat (first | refine blk_drewN ?_ _ | refine blk_drew ?_ | refine blk_alloc ?_ _)); refine blk_put (cs := #[.int .i64 x1161000_1, .int .i64 (wrap64 (x1161001_1 + (wrap64 ((rd l0_2 x7_1) * (rd l1 x7_1))))), .int .i64 x1161002_1]) ?_ 2 _ rfl; (with_reducible repeat (first | refine blk_drewN ?_ _ | refine blk_drew ?_ | refine blk_alloc ?_ _)); exact BK1160.out⟩, ⟨by repeat (first | (with_reducible first | exact HB.out | apply below_alloc | apply pw_below_drewN | apply below_drew1 | refine below_set ?_ GE1155.out | refine below_set ?_ GE1156.out | refine below_set ?_ GE1160.out) | exact HB.out)⟩⟩
             · rw [if_neg c31] at H
               exact absurd H (by simp)
           · rw [if_neg c30] at H
             exact absurd H (by simp)
         · rw [if_neg c29] at H
           exact absurd H (by simp)
     · rw [if_neg c14] at H
       exact absurd H (by simp)
   · rw [if_neg c13] at H
     have c13b0 : decide (x7_1 < (l1.length : Int)) = false := decide_eq_false c13
     clear c13
     simp only [Option.some.injEq, Prod.mk.injEq] at H
     obtain ⟨rfl, rfl, rfl⟩ := H
     have hnb38 := NB1160_1155.out
     have hnc38 := NB1155_1160.out
     have hnb39 := NB1160_1156.out
     have hnc39 := NB1156_1160.out
     have hcz40_0 : wr.cell? ⟨gb1160, 0, none⟩ = some (.int .i64 x1161000_1) := (blk_cell BK1160.out 0).trans rfl
     have hcz40_1 : wr.cell? ⟨gb1160, 1, none⟩ = some (.int .i64 x1161001_1) := (blk_cell BK1160.out 1).trans rfl
     have hcz40_2 : wr.cell? ⟨gb1160, 2, none⟩ = some (.int .i64 x1161002_1) := (blk_cell BK1160.out 2).trans rfl
     have hfz40_0 := blk_frozen BK1160.out 0
     have hfz40_1 := blk_frozen BK1160.out 1
     have hfz40_2 := blk_frozen BK1160.out 2
     have hnb41 := NB1156_1155.out
     have hnc41 := NB1155_1156.out
     have hcz42_0 : wr.cell? ⟨gb1156, 0, none⟩ = some (.int .i64 0) := (blk_cell BK1156.out 0).trans rfl
     have hcz42_1 : wr.cell? ⟨gb1156, 1, none⟩ = some (.int .i64 0) := (blk_cell BK1156.out 1).trans rfl
     have hcz42_2 : wr.cell? ⟨gb1156, 2, none⟩ = some (.int .i64 0) := (blk_cell BK1156.out 2).trans rfl
     have hfz42_0 := blk_frozen BK1156.out 0
     have hfz42_1 := blk_frozen BK1156.out 1
     have hfz42_2 := blk_frozen BK1156.out 2
     go_wp2
     refine bodyPost_ret (results_cell_row rfl _ _ gb1156 114 #[.int .i64 x1161000_1, .int .i64 x1161001_1, .int .i64 x1161002_1] (0, 0) _ rfl (by (with_reducible repeat (first | refine blk_drewN ?_ _ | refine blk_drew ?_ | refine blk_alloc ?_ _)); refine blk_put (cs := #[.int .i64 x1161000_1, .int .i64 x1161001_1, .int .i64 0]) ?_ 2 _ rfl; (with_reducible repeat (first | refine blk_drewN ?_ _ | refine blk_drew ?_ | refine blk_alloc ?_ _)); refine blk_put (cs := #[.int .i64 x1161000_1, .int .i64 0, .int .i64 0]) ?_ 1 _ rfl; (with_reducible repeat (first | refine blk_drewN ?_ _ | refine blk_drew ?_ | refine blk_alloc ?_ _)); refine blk_put (cs := #[.int .i64 0, .int .i64 0, .int .i64 0]) ?_ 0 _ rfl; (with_reducible repeat (first | refine blk_drewN ?_ _ | refine blk_drew ?_ | refine blk_alloc ?_ _)); exact BK1156.out) Try.underlying114 rfl (by kernel_rfl)) rfl ?_
     exact ⟨by first | rfl | (simp [errW_none, errW_some] <;> rfl) | (simp [*, errW_none, errW_some] <;> rfl), by repeat (first | (with_reducible first | exact HB.out | apply below_alloc | apply pw_below_drewN | apply below_drew1 | refine below_set ?_ GE1155.out | refine below_set ?_ GE1156.out | refine below_set ?_ GE1160.out) | exact HB.out)⟩
end Go.Proofs.Ythlmmcmpllgflaa.P
namespace Go.Proofs.Ythlmmcmpllgflaa.P
open Go.RowKit Go.Proofs.YthlmmcmpllgflaaW.PrintWords Go.Proofs.YthlmmcmpllgflaaW.PrintLast Go.Proofs.YthlmmcmpllgflaaW.PrintMore
attribute [local go_sem] max2_int min2_int max_two min_two max_three min_three max_four min_four
set_option linter.unusedVariables false
set_option linter.unusedSimpArgs false
def spec_l2Cost.f (k : Nat) (l0_0 : List Int) (l0_1 : List Int) (l0_2 : List Int) (l0_3 : List Int) (l1 : List Int) : Option (Int) := (spec_l2Parts.f k l0_0 l0_1 l0_2 l0_3 l1).bind fun bt1172 => (some (wrap64 ((wrap64 (bt1172.1 + bt1172.2.1)) + bt1172.2.2)))
set_option maxHeartbeats 8000000 in
set_option maxRecDepth 100000 in
theorem spec_l2Cost.calls (k : Nat) (A0_0 : Option Addr) (c0_0 : Nat) (l0_0 : List Int) (A0_1 : Option Addr) (c0_1 : Nat) (l0_1 : List Int) (A0_2 : Option Addr) (c0_2 : Nat) (l0_2 : List Int) (A0_3 : Option Addr) (c0_3 : Nat) (l0_3 : List Int) (A1 : Option Addr) (c1 : Nat) (l1 : List Int) (r : Int) (w : World) (hr0_0 : Kd.C (Kd.int .i64) w A0_0 l0_0.length l0_0) (hc0_0 : l0_0.length ≤ c0_0) (hr0_1 : Kd.C (Kd.int .i64) w A0_1 l0_1.length l0_1) (hc0_1 : l0_1.length ≤ c0_1) (hr0_2 : Kd.C (Kd.int .i64) w A0_2 l0_2.length l0_2) (hc0_2 : l0_2.length ≤ c0_2) (hr0_3 : Kd.C (Kd.int .i64) w A0_3 l0_3.length l0_3) (hc0_3 : l0_3.length ≤ c0_3) (hr1 : Kd.C (Kd.int .i64) w A1 l1.length l1) (hc1 : l1.length ≤ c1) (h : spec_l2Cost.f k l0_0 l0_1 l0_2 l0_3 l1 = some r) :
 Calls Try.prog 124 #[.agg #[.slice A0_0 l0_0.length c0_0, .slice A0_1 l0_1.length c0_1, .slice A0_2 l0_2.length c0_2, .slice A0_3 l0_3.length c0_3], .slice A1 l1.length c1] w fun e w' => e = .returned (.int .i64 r) ∧ Below w.heap.size w w' := by
 have hu49 := Try.underlying49
 have hu114 := Try.underlying114
 have HR0_0 := Aside0.mk hr0_0
 have HC0_0 := Aside0.mk hc0_0
 clear hr0_0 hc0_0
 have HR0_1 := Aside0.mk hr0_1
 have HC0_1 := Aside0.mk hc0_1
 clear hr0_1 hc0_1
 have HR0_2 := Aside0.mk hr0_2
 have HC0_2 := Aside0.mk hc0_2
 clear hr0_2 hc0_2
 have HR0_3 := Aside0.mk hr0_3
 have HC0_3 := Aside0.mk hc0_3
 clear hr0_3 hc0_3
 have HR1 := Aside0.mk hr1
 have HC1 := Aside0.mk hc1
 clear hr1 hc1
 have HB := Aside0.mk (Below.refl w.heap.size w)
 have H : ((spec_l2Parts.f k l0_0 l0_1 l0_2 l0_3 l1).bind fun bt1172 => (some (wrap64 ((wrap64 (bt1172.1 + bt1172.2.1)) + bt1172.2.2)))) = some r := h
 clear h
 replace H := Option.bind_eq_some_iff.mp H
 obtain ⟨⟨t1172, t1173, t1174⟩, A30, H⟩ := H
 replace H : (some (wrap64 ((wrap64 (t1172 + t1173)) + t1174))) = some r := H
 have A3 := Aside0.mk A30
 clear A30
 obtain rfl := Option.some.inj H
 go_enter Try.func124, Try.ntmps124
 go_wp2_with (first | ((with_reducible refine gate_dst (N := 2) rfl ?_); refine box_event ?hg (N := 2) ?hd (cs := #[.slice A0_0 l0_0.length c0_0, .slice A0_1 l0_1.length c0_1, .slice A0_2 l0_2.length c0_2, .slice A0_3 l0_3.length c0_3]) (t := 49) ?hr ?_; (case hd => rfl); (case hg => rfl); (case hr => first | (go_simp; done) | (go_simp; rfl)); intro gb1171 hg w4 hbox hb; have n0_ := Aside0.mk (below_step zH0 hb); have n1_ := Aside0.mk (hbox); have n2_ := Aside0.mk ((z6 : w.heap.size ≤ gb1171)); have n3_ := Aside0.mk ((z6 : w.heap.size ≤ gb1171)); clear HB; have HB := n0_; have BK1171 := n1_; have GW1171 := n2_; have GE1171 := n3_; clear n0_ n1_ n2_ n3_; clear hb hbox hg; have hcz5_0 : w4.cell? ⟨gb1171, 0, none⟩ = some (.slice A0_0 l0_0.length c0_0) := (blk_cell BK1171.out 0).trans rfl; have hcz5_1 : w4.cell? ⟨gb1171, 1, none⟩ = some (.slice A0_1 l0_1.length c0_1) := (blk_cell BK1171.out 1).trans rfl; have hcz5_2 : w4.cell? ⟨gb1171, 2, none⟩ = some (.slice A0_2 l0_2.length c0_2) := (blk_cell BK1171.out 2).trans rfl; have hcz5_3 : w4.cell? ⟨gb1171, 3, none⟩ = some (.slice A0_3 l0_3.length c0_3) := (blk_cell BK1171.out 3).trans rfl; have hfz5_0 := blk_frozen BK1171.out 0; have hfz5_1 := blk_frozen BK1171.out 1; have hfz5_2 := blk_frozen BK1171.out 2; have hfz5_3 := blk_frozen BK1171.out 3) | ((with_reducible refine gate_callee (f := 132) rfl ?_); refine goesL_ (some 8) rfl rfl Try.func132 (by kernel_rfl) rfl #[.agg #[.slice A0_0 l0_0.length c0_0, .slice A0_1 l0_1.length c0_1, .slice A0_2 l0_2.length c0_2, .slice A0_3 l0_3.length c0_3], .slice A1 l1.length c1] rfl z1 ?_; (with_reducible refine (spec_l2Parts.calls k _ _ l0_0 _ _ l0_1 _ _ l0_2 _ _ l0_3 _ _ l1 t1172 t1173 t1174 _ ?side1 ?side2 ?side3 ?side4 ?side5 ?side6 ?side7 ?side8 ?side9 ?side10 A3.out).mono ?_); (case side1 => exact zC (Kd.C_below HR0_0.out HB.out)); (case side2 => exact HC0_0.out); (case side3 => exact zC (Kd.C_below HR0_1.out HB.out)); (case side4 => exact HC0_1.out); (case side5 => exact zC (Kd.C_below HR0_2.out HB.out)); (case side6 => exact HC0_2.out); (case side7 => exact zC (Kd.C_below HR0_3.out HB.out)); (case side8 => exact HC0_3.out); (case side9 => exact zC (Kd.C_below HR1.out HB.out)); (case side10 => exact HC1.out); rintro e w6 ⟨rfl, hb⟩; refine ⟨_, rfl, ?_⟩; have n0_ := Aside0.mk (blk_below (g := gb1171) (o := .cells #[.slice A0_0 l0_0.length c0_0, .slice A0_1 l0_1.length c0_1, .slice A0_2 l0_2.length c0_2, .slice A0_3 l0_3.length c0_3] 49 (0, 0)) (zB BK1171.out) hb); have n1_ := Aside0.mk (below_step (zH1 GE1171.out) hb); clear BK1171; clear HB; have BK1171 := n0_; have HB := n1_; clear n0_ n1_; (try clear hb); (try clear hb2); (try clear hk); (try clear hi)) | ((with_reducible refine gate_dst (N := 5) rfl ?_); refine box_event ?hg (N := 5) ?hd (cs := #[.int .i64 0, .int .i64 0, .int .i64 0]) (t := 114) ?hr ?_; (case hd => rfl); (case hg => rfl); (case hr => first | (go_simp; done) | (go_simp; rfl)); intro gb1175 hg w7 hbox hb; have n0_ := Aside0.mk (blk_below (g := gb1171) (o := .cells #[.slice A0_0 l0_0.length c0_0, .slice A0_1 l0_1.length c0_1, .slice A0_2 l0_2.length c0_2, .slice A0_3 l0_3.length c0_3] 49 (0, 0)) (zB BK1171.out) hb); have n1_ := Aside0.mk (below_step (zH1 GE1171.out) hb); have n2_ := Aside0.mk (hbox); have n3_ := Aside0.mk ((by rw [hg]; exact (below_size (zH1 GE1171.out)) : w.heap.size ≤ gb1175)); have n4_ := Aside0.mk ((by rw [hg]; exact (below_size (zH1 GE1171.out)) : w.heap.size ≤ gb1175)); have n5_ := Aside0.mk ((by rw [hg]; exact Nat.ne_of_lt (blk_lt (g := gb1171) (o := .cells #[.slice A0_0 l0_0.length c0_0, .slice A0_1 l0_1.length c0_1, .slice A0_2 l0_2.length c0_2, .slice A0_3 l0_3.length c0_3] 49 (0, 0)) (zB BK1171.out)) : gb1171 ≠ gb1175)); have n6_ := Aside0.mk ((by rw [hg]; exact Nat.ne_of_gt (blk_lt (g := gb1171) (o := .cells #[.slice A0_0 l0_0.length c0_0, .slice A0_1 l0_1.length c0_1, .slice A0_2 l0_2.length c0_2, .slice A0_3 l0_3.length c0_3] 49 (0, 0)) (zB BK1171.out)) : gb1175 ≠ gb1171)); clear BK1171; clear HB; have BK1171 := n0_; have HB := n1_; have BK1175 := n2_; have GW1175 := n3_; have GE1175 := n4_; have NB1171_1175 := n5_; have NB1175_1171 := n6_; clear n0_ n1_ n2_ n3_ n4_ n5_ n6_; clear hb hbox hg; have hnb8 := NB1175_1171.out; have hnc8 := NB1171_1175.out; have hcz9_0 : w7.cell? ⟨gb1175, 0, none⟩ = some (.int .i64 0) := (blk_cell BK1175.out 0).trans rfl; have hcz9_1 : w7.cell? ⟨gb1175, 1, none⟩ = some (.int .i64 0) := (blk_cell BK1175.out 1).trans rfl; have hcz9_2 : w7.cell? ⟨gb1175, 2, none⟩ = some (.int .i64 0) := (blk_cell BK1175.out 2).trans rfl; have hfz9_0 := blk_frozen BK1175.out 0; have hfz9_1 := blk_frozen BK1175.out 1; have hfz9_2 := blk_frozen BK1175.out 2))
 go_ret
 exact ⟨by first | rfl | (simp [errW_none, errW_some] <;> rfl) | (simp [*, errW_none, errW_some] <;> rfl), by repeat (first | (with_reducible first | exact HB.out | apply below_alloc | apply pw_below_drewN | apply below_drew1 | refine below_set ?_ GE1171.out | refine below_set ?_ GE1175.out) | exact HB.out)⟩
end Go.Proofs.Ythlmmcmpllgflaa.P
namespace Go.Proofs.Ythlmmcmpllgflaa.P
open Go.RowKit Go.Proofs.YthlmmcmpllgflaaW.PrintWords Go.Proofs.YthlmmcmpllgflaaW.PrintLast Go.Proofs.YthlmmcmpllgflaaW.PrintMore
attribute [local go_sem] max2_int min2_int max_two min_two max_three min_three max_four min_four
set_option linter.unusedVariables false
set_option linter.unusedSimpArgs false
def spec_l2Before.l0 : Nat → List Int → List Int → Int → Option (Bool)
 | 0, _, _, _ => none
 | k + 1, x0, x1, x5 => if x5 < (x0.length : Int) then (if 0 ≤ x5 then (if x5 < (x1.length : Int) then (if (rd x0 x5) = (rd x1 x5) then (spec_l2Before.l0 k x0 x1 (wrap64 (x5 + 1))) else (some (decide ((rd x0 x5) < (rd x1 x5))))) else (none)) else (none)) else (some false)
def spec_l2Before.f (k : Nat) (l0 : List Int) (l1 : List Int) : Option (Bool) := if (l0.length : Int) = (l1.length : Int) then (spec_l2Before.l0 k l0 l1 0) else (some (decide ((l0.length : Int) < (l1.length : Int))))
set_option maxHeartbeats 8000000 in
set_option maxRecDepth 100000 in
theorem spec_l2Before.calls (k : Nat) (A0 : Option Addr) (c0 : Nat) (l0 : List Int) (A1 : Option Addr) (c1 : Nat) (l1 : List Int) (r : Bool) (w : World) (hr0 : Kd.C (Kd.int .i64) w A0 l0.length l0) (hc0 : l0.length ≤ c0) (hr1 : Kd.C (Kd.int .i64) w A1 l1.length l1) (hc1 : l1.length ≤ c1) (h : spec_l2Before.f k l0 l1 = some r) :
 Calls Try.prog 125 #[.slice A0 l0.length c0, .slice A1 l1.length c1] w fun e w' => e = .returned (.bool r) ∧ Drawn0 w w' := by
 have HR0 := Aside0.mk hr0
 have HC0 := Aside0.mk hc0
 clear hr0 hc0
 have HR1 := Aside0.mk hr1
 have HC1 := Aside0.mk hc1
 clear hr1 hc1
 have H : (if (l0.length : Int) = (l1.length : Int) then (spec_l2Before.l0 k l0 l1 0) else (some (decide ((l0.length : Int) < (l1.length : Int))))) = some r := h
 clear h
 by_cases c3 : (l0.length : Int) = (l1.length : Int)
 · rw [if_pos c3] at H
   have c3b0 : ((l0.length : Int) == (l1.length : Int)) = true := beq_iff_eq.mpr c3
   have c3b1 : ((l0.length : Int) != (l1.length : Int)) = false := bne_eq_false_iff_eq.mpr c3
   have c3b2 : (l0.length == l1.length) = true := by first | simpa using c3 | (simp at c3 ⊢; omega)
   clear c3
   have H' := Aside0.mk H
   clear H
   go_enter Try.func125, Try.ntmps125
   go_wp2
   repeat (go_quiet (fail); try go_wp2)
   go_loopg [5] k (fun kq v5 w' => ∃ (x5_1 : Int), v5 = .int .i64 x5_1 ∧ Aside0 (spec_l2Before.l0 kq l0 l1 x5_1 = some r) ∧ Aside0 (kq ≤ k) ∧ Drawn0 w w')
   case atStart => exact ⟨(0), z3, H', ⟨Nat.le_refl _⟩, by repeat (first | exact Drawn0.refl _ | apply Drawn0.step)⟩
   case round =>
    clear H'
    try clear c1
    try clear p2
    try clear c3
    try clear c3b0
    try clear c3b1
    try clear c3b2
    obtain ⟨x5_1, rfl, HA, HK1, ⟨m1, rfl⟩⟩ := hrel
    cases gk with
    | zero => exact absurd HA.out (by simp [spec_l2Before.l0])
    | succ k1 =>
     have H := HA.out
     clear HA
     simp only [spec_l2Before.l0] at H
     by_cases c4 : x5_1 < (l0.length : Int)
     · rw [if_pos c4] at H
       have c4b0 : decide (x5_1 < (l0.length : Int)) = true := decide_eq_true c4
       clear c4
       by_cases c5 : 0 ≤ x5_1
       · rw [if_pos c5] at H
         have c5b0 : decide (0 ≤ x5_1) = true := decide_eq_true c5
         clear c5
         by_cases c6 : x5_1 < (l1.length : Int)
         · rw [if_pos c6] at H
           have c6b0 : decide (x5_1 < (l1.length : Int)) = true := decide_eq_true c6
           clear c6
           by_cases c7 : (rd l0 x5_1) = (rd l1 x5_1)
           · rw [if_pos c7] at H
             have c7b0 : ((rd l0 x5_1) == (rd l1 x5_1)) = true := beq_iff_eq.mpr c7
             have c7b1 : ((rd l0 x5_1) != (rd l1 x5_1)) = false := bne_eq_false_iff_eq.mpr c7
             clear c7
             have H' := Aside0.mk H
             clear H
             have p1176 : 0 ≤ (x5_1 : Int) := of_decide_eq_true z2
             have q1176 : x5_1 < (l0.length : Int) := of_decide_eq_true z2
             obtain ⟨ad1176, e1176, hx1176_0⟩ := Kd.at_int HR0.out x5_1 p1176 q1176
             cases e1176
             replace p1176 := eq_true p1176
             replace q1176 := eq_true q1176
             have p1177 : 0 ≤ (x5_1 : Int) := of_decide_eq_true z2
             have q1177 : x5_1 < (l1.length : Int) := of_decide_eq_true z2
             obtain ⟨ad1177, e1177, hx1177_0⟩ := Kd.at_int HR1.out x5_1 p1177 q1177
             cases e1177
             replace p1177 := eq_true p1177
             replace q1177 := eq_true q1177
             go_wp2
             repeat (go_quiet (fail); try go_wp2)
             go_roundg k1
             case measure => have := HK1.out; omega
             case rel => exact ⟨(wrap64 (x5_1 + 1)), z3, H', ⟨by have := HK1.out; omega⟩, by repeat (first | exact Drawn0.refl _ | apply Drawn0.step)⟩
           · rw [if_neg c7] at H
             have c7b0 : ((rd l0 x5_1) == (rd l1 x5_1)) = false := beq_eq_false_iff_ne.mpr c7
             have c7b1 : ((rd l0 x5_1) != (rd l1 x5_1)) = true := bne_iff_ne.mpr c7
             obtain rfl := Option.some.inj H
             have p1176 : 0 ≤ (x5_1 : Int) := of_decide_eq_true z2
             have q1176 : x5_1 < (l0.length : Int) := of_decide_eq_true z2
             obtain ⟨ad1176, e1176, hx1176_0⟩ := Kd.at_int HR0.out x5_1 p1176 q1176
             cases e1176
             replace p1176 := eq_true p1176
             replace q1176 := eq_true q1176
             have p1177 : 0 ≤ (x5_1 : Int) := of_decide_eq_true z2
             have q1177 : x5_1 < (l1.length : Int) := of_decide_eq_true z2
             obtain ⟨ad1177, e1177, hx1177_0⟩ := Kd.at_int HR1.out x5_1 p1177 q1177
             cases e1177
             replace p1177 := eq_true p1177
             replace q1177 := eq_true q1177
             have p1178 : 0 ≤ (x5_1 : Int) := of_decide_eq_true z2
             have q1178 : x5_1 < (l0.length : Int) := of_decide_eq_true z2
             obtain ⟨ad1178, e1178, hx1178_0⟩ := Kd.at_int HR0.out x5_1 p1178 q1178
             obtain rfl : ad1176 = ad1178 := (by injection e1178)
             replace p1178 := eq_true p1178
             replace q1178 := eq_true q1178
             have p1179 : 0 ≤ (x5_1 : Int) := of_decide_eq_true z2
             have q1179 : x5_1 < (l1.length : Int) := of_decide_eq_true z2
             obtain ⟨ad1179, e1179, hx1179_0⟩ := Kd.at_int HR1.out x5_1 p1179 q1179
             obtain rfl : ad1177 = ad1179 := (by injection e1179)
             replace p1179 := eq_true p1179
             replace q1179 := eq_true q1179
             go_wp2
             repeat (go_quiet (fail); try go_wp2)
             go_ret
             exact ⟨by first | rfl | (simp; done) | (simp [*]; done), by repeat (first | exact Drawn0.refl _ | apply Drawn0.step)⟩
         · rw [if_neg c6] at H
           exact absurd H (by simp)
       · rw [if_neg c5] at H
         exact absurd H (by simp)
     · rw [if_neg c4] at H
       have c4b0 : decide (x5_1 < (l0.length : Int)) = false := decide_eq_false c4
       clear c4
       obtain rfl := Option.some.inj H
       go_wp2
       repeat (go_quiet (fail); try go_wp2)
       go_ret
       exact ⟨by first | rfl | (simp; done) | (simp [*]; done), by repeat (first | exact Drawn0.refl _ | apply Drawn0.step)⟩
 · rw [if_neg c3] at H
   have c3b0 : ((l0.length : Int) == (l1.length : Int)) = false := beq_eq_false_iff_ne.mpr c3
   have c3b1 : ((l0.length : Int) != (l1.length : Int)) = true := bne_iff_ne.mpr c3
   have c3b2 : (l0.length == l1.length) = false := by first | simpa using c3 | (simp at c3 ⊢; omega)
   obtain rfl := Option.some.inj H
   go_enter Try.func125, Try.ntmps125
   go_wp2
   repeat (go_quiet (fail); try go_wp2)
   go_ret
   exact ⟨by first | rfl | (simp; done) | (simp [*]; done), by repeat (first | exact Drawn0.refl _ | apply Drawn0.step)⟩
end Go.Proofs.Ythlmmcmpllgflaa.P
namespace Go.Proofs.Ythlmmcmpllgflaa.P
open Go.RowKit Go.Proofs.YthlmmcmpllgflaaW.PrintWords Go.Proofs.YthlmmcmpllgflaaW.PrintLast Go.Proofs.YthlmmcmpllgflaaW.PrintMore
attribute [local go_sem] max2_int min2_int max_two min_two max_three min_three max_four min_four
set_option linter.unusedVariables false
set_option linter.unusedSimpArgs false
def impl_Case_parts.l0 : Nat → Int → Int → Int → Int → List Int → Int → Int → List Int → List Int → List Int → List Int → Option (Int × Int × Int)
 | 0, _, _, _, _, _, _, _, _, _, _, _ => none
 | k + 1, x7, x8, x9, x10, x13, x14, x15, x1053000, x1053001, x1053002, x1053003 => if x15 < x14 then (if 0 ≤ x15 then (if x15 < (x13.length : Int) then (if x15 < (x1053000.length : Int) then (if (rd x13 x15) > 0 then (if x15 < (x1053001.length : Int) then (if x15 < (x1053002.length : Int) then (if x15 < (x1053003.length : Int) then (impl_Case_parts.l0 k (wrap64 (x7 + (rd x1053001 x15))) (wrap64 (x8 + (wrap64 ((rd x1053002 x15) * (rd x13 x15))))) (wrap64 (x9 + (wrap64 ((rd x1053003 x15) * (wrap64 (x10 + (wrap64 ((rd x13 x15) - (rd x1053000 x15))))))))) (wrap64 (x10 + (wrap64 ((rd x13 x15) - (rd x1053000 x15))))) x13 x14 (wrap64 (x15 + 1)) x1053000 x1053001 x1053002 x1053003) else (none)) else (none)) else (none)) else (if x15 < (x1053002.length : Int) then (if x15 < (x1053003.length : Int) then (impl_Case_parts.l0 k x7 (wrap64 (x8 + (wrap64 ((rd x1053002 x15) * (rd x13 x15))))) (wrap64 (x9 + (wrap64 ((rd x1053003 x15) * (wrap64 (x10 + (wrap64 ((rd x13 x15) - (rd x1053000 x15))))))))) (wrap64 (x10 + (wrap64 ((rd x13 x15) - (rd x1053000 x15))))) x13 x14 (wrap64 (x15 + 1)) x1053000 x1053001 x1053002 x1053003) else (none)) else (none))) else (none)) else (none)) else (none)) else (some (x7, x8, x9))
def impl_Case_parts.f (k : Nat) (l0_0 : List Int) (l0_1 : List Int) (l0_2 : List Int) (l0_3 : List Int) (l1 : List Int) : Option (Int × Int × Int) := impl_Case_parts.l0 k 0 0 0 0 l1 (l1.length : Int) 0 l0_0 l0_1 l0_2 l0_3
set_option maxHeartbeats 8000000 in
set_option maxRecDepth 100000 in
theorem impl_Case_parts.calls (k : Nat) (A0_0 : Option Addr) (c0_0 : Nat) (l0_0 : List Int) (A0_1 : Option Addr) (c0_1 : Nat) (l0_1 : List Int) (A0_2 : Option Addr) (c0_2 : Nat) (l0_2 : List Int) (A0_3 : Option Addr) (c0_3 : Nat) (l0_3 : List Int) (A1 : Option Addr) (c1 : Nat) (l1 : List Int) (r1 : Int) (r2 : Int) (r3 : Int) (w : World) (hr0_0 : Kd.C (Kd.int .i64) w A0_0 l0_0.length l0_0) (hc0_0 : l0_0.length ≤ c0_0) (hr0_1 : Kd.C (Kd.int .i64) w A0_1 l0_1.length l0_1) (hc0_1 : l0_1.length ≤ c0_1) (hr0_2 : Kd.C (Kd.int .i64) w A0_2 l0_2.length l0_2) (hc0_2 : l0_2.length ≤ c0_2) (hr0_3 : Kd.C (Kd.int .i64) w A0_3 l0_3.length l0_3) (hc0_3 : l0_3.length ≤ c0_3) (hr1 : Kd.C (Kd.int .i64) w A1 l1.length l1) (hc1 : l1.length ≤ c1) (h : impl_Case_parts.f k l0_0 l0_1 l0_2 l0_3 l1 = some (r1, r2, r3)) :
 Calls Try.prog 127 #[.agg #[.slice A0_0 l0_0.length c0_0, .slice A0_1 l0_1.length c0_1, .slice A0_2 l0_2.length c0_2, .slice A0_3 l0_3.length c0_3], .slice A1 l1.length c1] w fun e w' => e = .returned (.tuple #[.int .i64 r1, .int .i64 r2, .int .i64 r3]) ∧ Below w.heap.size w w' := by
 have hu49 := Try.underlying49
 have HR0_0 := Aside0.mk hr0_0
 have HC0_0 := Aside0.mk hc0_0
 clear hr0_0 hc0_0
 have HR0_1 := Aside0.mk hr0_1
 have HC0_1 := Aside0.mk hc0_1
 clear hr0_1 hc0_1
 have HR0_2 := Aside0.mk hr0_2
 have HC0_2 := Aside0.mk hc0_2
 clear hr0_2 hc0_2
 have HR0_3 := Aside0.mk hr0_3
 have HC0_3 := Aside0.mk hc0_3
 clear hr0_3 hc0_3
 have HR1 := Aside0.mk hr1
 have HC1 := Aside0.mk hc1
 clear hr1 hc1
 have HB := Aside0.mk (Below.refl w.heap.size w)
 have H : (impl_Case_parts.l0 k 0 0 0 0 l1 (l1.length : Int) 0 l0_0 l0_1 l0_2 l0_3) = some (r1, r2, r3) := h
 clear h
 have H' := Aside0.mk H
 clear H
 go_enter Try.func127, Try.ntmps127
 go_wp2_with (first | ((with_reducible refine gate_dst (N := 2) rfl ?_); refine box_event ?hg (N := 2) ?hd (cs := #[.slice A0_0 l0_0.length c0_0, .slice A0_1 l0_1.length c0_1, .slice A0_2 l0_2.length c0_2, .slice A0_3 l0_3.length c0_3]) (t := 49) ?hr ?_; (case hd => rfl); (case hg => rfl); (case hr => first | (go_simp; done) | (go_simp; rfl)); intro gb1052 hg w3 hbox hb; have n0_ := Aside0.mk (below_step zH0 hb); have n1_ := Aside0.mk (hbox); have n2_ := Aside0.mk ((z6 : w.heap.size ≤ gb1052)); have n3_ := Aside0.mk ((z6 : w.heap.size ≤ gb1052)); clear HB; have HB := n0_; have BK1052 := n1_; have GW1052 := n2_; have GE1052 := n3_; clear n0_ n1_ n2_ n3_; clear hb hbox hg))
 go_loopg [7, 8, 9, 10, 15] k (fun kq v7 v8 v9 v10 v15 w' => ∃ (x7_1 : Int) (x8_1 : Int) (x9_1 : Int) (x10_1 : Int) (x15_1 : Int), v7 = .int .i64 x7_1 ∧ v8 = .int .i64 x8_1 ∧ v9 = .int .i64 x9_1 ∧ v10 = .int .i64 x10_1 ∧ v15 = .int .i64 x15_1 ∧ Aside0 (impl_Case_parts.l0 kq x7_1 x8_1 x9_1 x10_1 l1 (l1.length : Int) x15_1 l0_0 l0_1 l0_2 l0_3 = some (r1, r2, r3)) ∧ Aside0 (kq ≤ k) ∧ Aside0 (w'.heap[gb1052]? = some (.cells #[(.slice A0_0 l0_0.length c0_0), (.slice A0_1 l0_1.length c0_1), (.slice A0_2 l0_2.length c0_2), (.slice A0_3 l0_3.length c0_3)] 49 (0, 0))) ∧ Aside0 (Below w.heap.size w w'))
 case atStart => exact ⟨(0), (0), (0), (0), (0), z3, z3, z3, z3, z3, H', ⟨Nat.le_refl _⟩, ⟨by (with_reducible repeat (first | refine blk_drewN ?_ _ | refine blk_drew ?_ | refine blk_alloc ?_ _)); exact BK1052.out⟩, ⟨by repeat (first | (with_reducible first | exact HB.out | apply below_alloc | apply pw_below_drewN | apply below_drew1 | refine below_set ?_ GE1052.out) | exact HB.out)⟩⟩
 case round =>
  clear H'
  try clear c1
  try clear p2
  obtain ⟨x7_1, x8_1, x9_1, x10_1, x15_1, rfl, rfl, rfl, rfl, rfl, HA, HK1, BK1052, HB⟩ := hrel
  cases gk with
  | zero => exact absurd HA.out (by simp [impl_Case_parts.l0])
  | succ k1 =>
   have H := HA.out
   clear HA
   simp only [impl_Case_parts.l0] at H
   by_cases c4 : x15_1 < (l1.length : Int)
   · rw [if_pos c4] at H
     have c4b0 : decide (x15_1 < (l1.length : Int)) = true := decide_eq_true c4
     clear c4
     by_cases c5 : 0 ≤ x15_1
     · rw [if_pos c5] at H
       have c5b0 : decide (0 ≤ x15_1) = true := decide_eq_true c5
       clear c5
       by_cases c6 : x15_1 < (l1.length : Int)
       · rw [if_pos c6] at H
         have c6b0 : decide (x15_1 < (l1.length : Int)) = true := decide_eq_true c6
         clear c6
         by_cases c7 : x15_1 < (l0_0.length : Int)
         · rw [if_pos c7] at H
           have c7b0 : decide (x15_1 < (l0_0.length : Int)) = true := decide_eq_true c7
           clear c7
           by_cases c8 : (rd l1 x15_1) > 0
           · rw [if_pos c8] at H
             have c8b0 : decide (0 < (rd l1 x15_1)) = true := decide_eq_true c8
             clear c8
             by_cases c9 : x15_1 < (l0_1.length : Int)
             · rw [if_pos c9] at H
               have c9b0 : decide (x15_1 < (l0_1.length : Int)) = true := decide_eq_true c9
               clear c9
               by_cases c10 : x15_1 < (l0_2.length : Int)
               · rw [if_pos c10] at H
                 have c10b0 : decide (x15_1 < (l0_2.length : Int)) = true := decide_eq_true c10
                 clear c10
                 by_cases c11 : x15_1 < (l0_3.length : Int)
                 · rw [if_pos c11] at H
                   have c11b0 : decide (x15_1 < (l0_3.length : Int)) = true := decide_eq_true c11
                   clear c11
                   have H' := Aside0.mk H
                   clear H
                   have p1053 : 0 ≤ (x15_1 : Int) := of_decide_eq_true z2
                   have q1053 : x15_1 < (l1.length : Int) := of_decide_eq_true z2
                   obtain ⟨ad1053, e1053, hx1053_0⟩ := Kd.at_int HR1.out x15_1 p1053 q1053
                   cases e1053
                   replace hx1053_0 := (HB.out.cell (World.block_lt_of_cell? w _ hx1053_0)).trans hx1053_0
                   replace p1053 := eq_true p1053
                   replace q1053 := eq_true q1053
                   have hcz12_0 : wr.cell? ⟨gb1052, 0, none⟩ = some (.slice A0_0 l0_0.length c0_0) := (blk_cell BK1052.out 0).trans rfl
                   have hcz12_1 : wr.cell? ⟨gb1052, 1, none⟩ = some (.slice A0_1 l0_1.length c0_1) := (blk_cell BK1052.out 1).trans rfl
                   have hcz12_2 : wr.cell? ⟨gb1052, 2, none⟩ = some (.slice A0_2 l0_2.length c0_2) := (blk_cell BK1052.out 2).trans rfl
                   have hcz12_3 : wr.cell? ⟨gb1052, 3, none⟩ = some (.slice A0_3 l0_3.length c0_3) := (blk_cell BK1052.out 3).trans rfl
                   have hfz12_0 := blk_frozen BK1052.out 0
                   have hfz12_1 := blk_frozen BK1052.out 1
                   have hfz12_2 := blk_frozen BK1052.out 2
                   have hfz12_3 := blk_frozen BK1052.out 3
                   have p1054 : 0 ≤ (x15_1 : Int) := of_decide_eq_true z2
                   have q1054 : x15_1 < (l0_0.length : Int) := of_decide_eq_true z2
                   obtain ⟨ad1054, e1054, hx1054_0⟩ := Kd.at_int HR0_0.out x15_1 p1054 q1054
                   cases e1054
                   replace hx1054_0 := (HB.out.cell (World.block_lt_of_cell? w _ hx1054_0)).trans hx1054_0
                   replace p1054 := eq_true p1054
                   replace q1054 := eq_true q1054
                   have p1055 : 0 ≤ (x15_1 : Int) := of_decide_eq_true z2
                   have q1055 : x15_1 < (l0_1.length : Int) := of_decide_eq_true z2
                   obtain ⟨ad1055, e1055, hx1055_0⟩ := Kd.at_int HR0_1.out x15_1 p1055 q1055
                   cases e1055
                   replace hx1055_0 := (HB.out.cell (World.block_lt_of_cell? w _ hx1055_0)).trans hx1055_0
                   replace p1055 := eq_true p1055
                   replace q1055 := eq_true q1055
                   have p1056 : 0 ≤ (x15_1 : Int) := of_decide_eq_true z2
                   have q1056 : x15_1 < (l0_2.length : Int) := of_decide_eq_true z2
                   obtain ⟨ad1056, e1056, hx1056_0⟩ := Kd.at_int HR0_2.out x15_1 p1056 q1056
                   cases e1056
                   replace hx1056_0 := (HB.out.cell (World.block_lt_of_cell? w _ hx1056_0)).trans hx1056_0
                   replace p1056 := eq_true p1056
                   replace q1056 := eq_true q1056
                   have p1057 : 0 ≤ (x15_1 : Int) := of_decide_eq_true z2
                   have q1057 : x15_1 < (l0_3.length : Int) := of_decide_eq_true z2
                   obtain ⟨ad1057, e1057, hx1057_0⟩ := Kd.at_int HR0_3.out x15_1 p1057 q1057
                   cases e1057
                   replace hx1057_0 := (HB.out.cell (World.block_lt_of_cell? w _ hx1057_0)).trans hx1057_0
                   replace p1057 := eq_true p1057
                   replace q1057 := eq_true q1057
                   go_wp2
                   go_roundg k1
                   case measure => have := HK1.out; omega
                   case rel => exact ⟨(wrap64 (x7_1 + (rd l0_1 x15_1))), (wrap64 (x8_1 + (wrap64 ((rd l0_2 x15_1) * (rd l1 x15_1))))), (wrap64 (x9_1 + (wrap64 ((rd l0_3 x15_1) * (wrap64 (x10_1 + (wrap64 ((rd l1 x15_1) - (rd l0_0 x15_1))))))))), (wrap64 (x10_1 + (wrap64 ((rd l1 x15_1) - (rd l0_0 x15_1))))), (wrap64 (x15_1 + 1)), z3, z3, z3, z3, z3, H', ⟨by have := HK1.out; omega⟩, ⟨by (with_reducible repeat (first | refine blk_drewN ?_ _ | refine blk_drew ?_ | refine blk_alloc ?_ _)); exact BK1052.out⟩, ⟨by repeat (first | (with_reducible first | exact HB.out | apply below_alloc | apply pw_below_drewN | apply below_drew1 | refine below_set ?_ GE1052.out) | exact HB.out)⟩⟩
                 · rw [if_neg c11] at H
                   exact absurd H (by simp)
               · rw [if_neg c10] at H
                 exact absurd H (by simp)
             · rw [if_neg c9] at H
               exact absurd H (by simp)
           · rw [if_neg c8] at H
             have c8b0 : decide (0 < (rd l1 x15_1)) = false := decide_eq_false c8
             clear c8
             by_cases c13 : x15_1 < (l0_2.length : Int)
             · rw [if_pos c13] at H
               have c13b0 : decide (x15_1 < (l0_2.length : Int)) = true := decide_eq_true c13
               clear c13
               by_cases c14 : x15_1 < (l0_3.length : Int)
               · rw [if_pos c14] at H
                 have c14b0 : decide (x15_1 < (l0_3.length : Int)) = true := decide_eq_true c14
                 clear c14
                 have H' := Aside0.mk H
                 clear H
                 have p1053 : 0 ≤ (x15_1 : Int) := of_decide_eq_true z2
                 have q1053 : x15_1 < (l1.length : Int) := of_decide_eq_true z2
                 obtain ⟨ad1053, e1053, hx1053_0⟩ := Kd.at_int HR1.out x15_1 p1053 q1053
                 cases e1053
                 replace hx1053_0 := (HB.out.cell (World.block_lt_of_cell? w _ hx1053_0)).trans hx1053_0
                 replace p1053 := eq_true p1053
                 replace q1053 := eq_true q1053
                 have hcz15_0 : wr.cell? ⟨gb1052, 0, none⟩ = some (.slice A0_0 l0_0.length c0_0) := (blk_cell BK1052.out 0).trans rfl
                 have hcz15_1 : wr.cell? ⟨gb1052, 1, none⟩ = some (.slice A0_1 l0_1.length c0_1) := (blk_cell BK1052.out 1).trans rfl
                 have hcz15_2 : wr.cell? ⟨gb1052, 2, none⟩ = some (.slice A0_2 l0_2.length c0_2) := (blk_cell BK1052.out 2).trans rfl
                 have hcz15_3 : wr.cell? ⟨gb1052, 3, none⟩ = some (.slice A0_3 l0_3.length c0_3) := (blk_cell BK1052.out 3).trans rfl
                 have hfz15_0 := blk_frozen BK1052.out 0
                 have hfz15_1 := blk_frozen BK1052.out 1
                 have hfz15_2 := blk_frozen BK1052.out 2
                 have hfz15_3 := blk_frozen BK1052.out 3
                 have p1054 : 0 ≤ (x15_1 : Int) := of_decide_eq_true z2
                 have q1054 : x15_1 < (l0_0.length : Int) := of_decide_eq_true z2
                 obtain ⟨ad1054, e1054, hx1054_0⟩ := Kd.at_int HR0_0.out x15_1 p1054 q1054
                 cases e1054
                 replace hx1054_0 := (HB.out.cell (World.block_lt_of_cell? w _ hx1054_0)).trans hx1054_0
                 replace p1054 := eq_true p1054
                 replace q1054 := eq_true q1054
                 have p1058 : 0 ≤ (x15_1 : Int) := of_decide_eq_true z2
                 have q1058 : x15_1 < (l0_2.length : Int) := of_decide_eq_true z2
                 obtain ⟨ad1058, e1058, hx1058_0⟩ := Kd.at_int HR0_2.out x15_1 p1058 q1058
                 cases e1058
                 replace hx1058_0 := (HB.out.cell (World.block_lt_of_cell? w _ hx1058_0)).trans hx1058_0
                 replace p1058 := eq_true p1058
                 replace q1058 := eq_true q1058
                 have p1059 : 0 ≤ (x15_1 : Int) := of_decide_eq_true z2
                 have q1059 : x15_1 < (l0_3.length : Int) := of_decide_eq_true z2
                 obtain ⟨ad1059, e1059, hx1059_0⟩ := Kd.at_int HR0_3.out x15_1 p1059 q1059
                 cases e1059
                 replace hx1059_0 := (HB.out.cell (World.block_lt_of_cell? w _ hx1059_0)).trans hx1059_0
                 replace p1059 := eq_true p1059
                 replace q1059 := eq_true q1059
                 go_wp2
                 go_roundg k1
                 case measure => have := HK1.out; omega
                 case rel => exact ⟨(x7_1), (wrap64 (x8_1 + (wrap64 ((rd l0_2 x15_1) * (rd l1 x15_1))))), (wrap64 (x9_1 + (wrap64 ((rd l0_3 x15_1) * (wrap64 (x10_1 + (wrap64 ((rd l1 x15_1) - (rd l0_0 x15_1))))))))), (wrap64 (x10_1 + (wrap64 ((rd l1 x15_1) - (rd l0_0 x15_1))))), (wrap64 (x15_1 + 1)), z3, z3, z3, z3, z3, H', ⟨by have := HK1.out; omega⟩, ⟨by (with_reducible repeat (first | refine blk_drewN ?_ _ | refine blk_drew ?_ | refine blk_alloc ?_ _)); exact BK1052.out⟩, ⟨by repeat (first | (with_reducible first | exact HB.out | apply below_alloc | apply pw_below_drewN | apply below_drew1 | refine below_set ?_ GE1052.out) | exact HB.out)⟩⟩
               · rw [if_neg c14] at H
                 exact absurd H (by simp)
             · rw [if_neg c13] at H
               exact absurd H (by simp)
         · rw [if_neg c7] at H
           exact absurd H (by simp)
       · rw [if_neg c6] at H
         exact absurd H (by simp)
     · rw [if_neg c5] at H
       exact absurd H (by simp)
   · rw [if_neg c4] at H
     have c4b0 : decide (x15_1 < (l1.length : Int)) = false := decide_eq_false c4
     clear c4
     simp only [Option.some.injEq, Prod.mk.injEq] at H
     obtain ⟨rfl, rfl, rfl⟩ := H
     go_wp2
     go_ret3
     exact ⟨by first | rfl | (simp [errW_none, errW_some] <;> rfl) | (simp [*, errW_none, errW_some] <;> rfl), by repeat (first | (with_reducible first | exact HB.out | apply below_alloc | apply pw_below_drewN | apply below_drew1 | refine below_set ?_ GE1052.out) | exact HB.out)⟩
end Go.Proofs.Ythlmmcmpllgflaa.P
namespace Go.Proofs.Ythlmmcmpllgflaa.P
open Go.RowKit Go.Proofs.YthlmmcmpllgflaaW.PrintWords Go.Proofs.YthlmmcmpllgflaaW.PrintLast Go.Proofs.YthlmmcmpllgflaaW.PrintMore
attribute [local go_sem] max2_int min2_int max_two min_two max_three min_three max_four min_four
set_option linter.unusedVariables false
set_option linter.unusedSimpArgs false
def impl_Case_cost.f (k : Nat) (l0_0 : List Int) (l0_1 : List Int) (l0_2 : List Int) (l0_3 : List Int) (l1 : List Int) : Option (Int) := (impl_Case_parts.f k l0_0 l0_1 l0_2 l0_3 l1).bind fun bt1061 => (some (wrap64 ((wrap64 (bt1061.1 + bt1061.2.1)) + bt1061.2.2)))
set_option maxHeartbeats 8000000 in
set_option maxRecDepth 100000 in
theorem impl_Case_cost.calls (k : Nat) (A0_0 : Option Addr) (c0_0 : Nat) (l0_0 : List Int) (A0_1 : Option Addr) (c0_1 : Nat) (l0_1 : List Int) (A0_2 : Option Addr) (c0_2 : Nat) (l0_2 : List Int) (A0_3 : Option Addr) (c0_3 : Nat) (l0_3 : List Int) (A1 : Option Addr) (c1 : Nat) (l1 : List Int) (r : Int) (w : World) (hr0_0 : Kd.C (Kd.int .i64) w A0_0 l0_0.length l0_0) (hc0_0 : l0_0.length ≤ c0_0) (hr0_1 : Kd.C (Kd.int .i64) w A0_1 l0_1.length l0_1) (hc0_1 : l0_1.length ≤ c0_1) (hr0_2 : Kd.C (Kd.int .i64) w A0_2 l0_2.length l0_2) (hc0_2 : l0_2.length ≤ c0_2) (hr0_3 : Kd.C (Kd.int .i64) w A0_3 l0_3.length l0_3) (hc0_3 : l0_3.length ≤ c0_3) (hr1 : Kd.C (Kd.int .i64) w A1 l1.length l1) (hc1 : l1.length ≤ c1) (h : impl_Case_cost.f k l0_0 l0_1 l0_2 l0_3 l1 = some r) :
 Calls Try.prog 93 #[.agg #[.slice A0_0 l0_0.length c0_0, .slice A0_1 l0_1.length c0_1, .slice A0_2 l0_2.length c0_2, .slice A0_3 l0_3.length c0_3], .slice A1 l1.length c1] w fun e w' => e = .returned (.int .i64 r) ∧ Below w.heap.size w w' := by
 have hu49 := Try.underlying49
 have HR0_0 := Aside0.mk hr0_0
 have HC0_0 := Aside0.mk hc0_0
 clear hr0_0 hc0_0
 have HR0_1 := Aside0.mk hr0_1
 have HC0_1 := Aside0.mk hc0_1
 clear hr0_1 hc0_1
 have HR0_2 := Aside0.mk hr0_2
 have HC0_2 := Aside0.mk hc0_2
 clear hr0_2 hc0_2
 have HR0_3 := Aside0.mk hr0_3
 have HC0_3 := Aside0.mk hc0_3
 clear hr0_3 hc0_3
 have HR1 := Aside0.mk hr1
 have HC1 := Aside0.mk hc1
 clear hr1 hc1
 have HB := Aside0.mk (Below.refl w.heap.size w)
 have H : ((impl_Case_parts.f k l0_0 l0_1 l0_2 l0_3 l1).bind fun bt1061 => (some (wrap64 ((wrap64 (bt1061.1 + bt1061.2.1)) + bt1061.2.2)))) = some r := h
 clear h
 replace H := Option.bind_eq_some_iff.mp H
 obtain ⟨⟨t1061, t1062, t1063⟩, A30, H⟩ := H
 replace H : (some (wrap64 ((wrap64 (t1061 + t1062)) + t1063))) = some r := H
 have A3 := Aside0.mk A30
 clear A30
 obtain rfl := Option.some.inj H
 go_enter Try.func93, Try.ntmps93
 go_wp2_with (first | ((with_reducible refine gate_dst (N := 2) rfl ?_); refine box_event ?hg (N := 2) ?hd (cs := #[.slice A0_0 l0_0.length c0_0, .slice A0_1 l0_1.length c0_1, .slice A0_2 l0_2.length c0_2, .slice A0_3 l0_3.length c0_3]) (t := 49) ?hr ?_; (case hd => rfl); (case hg => rfl); (case hr => first | (go_simp; done) | (go_simp; rfl)); intro gb1060 hg w4 hbox hb; have n0_ := Aside0.mk (below_step zH0 hb); have n1_ := Aside0.mk (hbox); have n2_ := Aside0.mk ((z6 : w.heap.size ≤ gb1060)); have n3_ := Aside0.mk ((z6 : w.heap.size ≤ gb1060)); clear HB; have HB := n0_; have BK1060 := n1_; have GW1060 := n2_; have GE1060 := n3_; clear n0_ n1_ n2_ n3_; clear hb hbox hg; have hcz5_0 : w4.cell? ⟨gb1060, 0, none⟩ = some (.slice A0_0 l0_0.length c0_0) := (blk_cell BK1060.out 0).trans rfl; have hcz5_1 : w4.cell? ⟨gb1060, 1, none⟩ = some (.slice A0_1 l0_1.length c0_1) := (blk_cell BK1060.out 1).trans rfl; have hcz5_2 : w4.cell? ⟨gb1060, 2, none⟩ = some (.slice A0_2 l0_2.length c0_2) := (blk_cell BK1060.out 2).trans rfl; have hcz5_3 : w4.cell? ⟨gb1060, 3, none⟩ = some (.slice A0_3 l0_3.length c0_3) := (blk_cell BK1060.out 3).trans rfl; have hfz5_0 := blk_frozen BK1060.out 0; have hfz5_1 := blk_frozen BK1060.out 1; have hfz5_2 := blk_frozen BK1060.out 2; have hfz5_3 := blk_frozen BK1060.out 3) | ((with_reducible refine gate_callee (f := 127) rfl ?_); refine goesL_ (some 11) rfl rfl Try.func127 (by kernel_rfl) rfl #[.agg #[.slice A0_0 l0_0.length c0_0, .slice A0_1 l0_1.length c0_1, .slice A0_2 l0_2.length c0_2, .slice A0_3 l0_3.length c0_3], .slice A1 l1.length c1] rfl z1 ?_; (with_reducible refine (impl_Case_parts.calls k _ _ l0_0 _ _ l0_1 _ _ l0_2 _ _ l0_3 _ _ l1 t1061 t1062 t1063 _ ?side1 ?side2 ?side3 ?side4 ?side5 ?side6 ?side7 ?side8 ?side9 ?side10 A3.out).mono ?_); (case side1 => exact zC (Kd.C_below HR0_0.out HB.out)); (case side2 => exact HC0_0.out); (case side3 => exact zC (Kd.C_below HR0_1.out HB.out)); (case side4 => exact HC0_1.out); (case side5 => exact zC (Kd.C_below HR0_2.out HB.out)); (case side6 => exact HC0_2.out); (case side7 => exact zC (Kd.C_below HR0_3.out HB.out)); (case side8 => exact HC0_3.out); (case side9 => exact zC (Kd.C_below HR1.out HB.out)); (case side10 => exact HC1.out); rintro e w6 ⟨rfl, hb⟩; refine ⟨_, rfl, ?_⟩; have n0_ := Aside0.mk (blk_below (g := gb1060) (o := .cells #[.slice A0_0 l0_0.length c0_0, .slice A0_1 l0_1.length c0_1, .slice A0_2 l0_2.length c0_2, .slice A0_3 l0_3.length c0_3] 49 (0, 0)) (zB BK1060.out) hb); have n1_ := Aside0.mk (below_step (zH1 GE1060.out) hb); clear BK1060; clear HB; have BK1060 := n0_; have HB := n1_; clear n0_ n1_; (try clear hb); (try clear hb2); (try clear hk); (try clear hi)))
 go_ret
 exact ⟨by first | rfl | (simp [errW_none, errW_some] <;> rfl) | (simp [*, errW_none, errW_some] <;> rfl), by repeat (first | (with_reducible first | exact HB.out | apply below_alloc | apply pw_below_drewN | apply below_drew1 | refine below_set ?_ GE1060.out) | exact HB.out)⟩
end Go.Proofs.Ythlmmcmpllgflaa.P
