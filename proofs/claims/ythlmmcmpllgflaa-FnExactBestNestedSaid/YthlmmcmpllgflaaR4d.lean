/- The law FnExactBestNested: for every chain the program and the reference find the same nested order periods, which leave the arguments as they are and share no memory; no condition. -/
import Derived.Test.YthlmmcmpllgflaaR4c
namespace Go.Proofs.Ythlmmcmpllgflaa.P
open Go.RowKit Go.Proofs.YthlmmcmpllgflaaW.PrintWords Go.Proofs.YthlmmcmpllgflaaW.PrintLast Go.Proofs.YthlmmcmpllgflaaW.PrintMore
attribute [local go_sem] max2_int min2_int max_two min_two max_three min_three max_four min_four
set_option linter.unusedVariables false
set_option linter.unusedSimpArgs false
mutual
def spec_l7Good.j0 : Nat → Bool → List Int → List Int → List Int → Option (Bool)
 | 0, _, _, _, _ => none
 | k + 1, x23, x390000, x390001, x390002 => if x23 = true then (some false) else ((spec_l2Row.f k x390001 (x390001.length : Int) 99).bind fun t392 => (if t392 = true then ((spec_l2Row.f k x390002 (x390001.length : Int) 9).bind fun t393 => (spec_l7Good.j1 k (!t393) x390000 x390001 x390002)) else (spec_l7Good.j1 k true x390000 x390001 x390002)))
def spec_l7Good.j1 : Nat → Bool → List Int → List Int → List Int → Option (Bool)
 | 0, _, _, _, _ => none
 | k + 1, x39, x390000, x390001, x390002 => if x39 = true then (some false) else (spec_l7Good.l0 k 1 x390000 x390001 x390002)
def spec_l7Good.l0 : Nat → Int → List Int → List Int → List Int → Option (Bool)
 | 0, _, _, _, _ => none
 | k + 1, x3, x390000, x390001, x390002 => if x3 < (x390002.length : Int) then (if 0 ≤ x3 then (if 0 ≤ (wrap64 (x3 - 1)) then (if (wrap64 (x3 - 1)) < (x390002.length : Int) then (if (rd x390002 x3) < (rd x390002 (wrap64 (x3 - 1))) then (some false) else (spec_l7Good.l0 k (wrap64 (x3 + 1)) x390000 x390001 x390002)) else (none)) else (none)) else (none)) else (some true)
end
def spec_l7Good.f (k : Nat) (l0_0 : List Int) (l0_1 : List Int) (l0_2 : List Int) : Option (Bool) := if (l0_0.length : Int) > 6 then (spec_l7Good.j0 k true l0_0 l0_1 l0_2) else ((spec_l2Row.f k l0_0 (l0_0.length : Int) 20).bind fun t390 => (if t390 = true then ((spec_l1In.f (l0_1.length : Int) 1 3).bind fun t391 => (spec_l7Good.j0 k (!t391) l0_0 l0_1 l0_2)) else (spec_l7Good.j0 k true l0_0 l0_1 l0_2)))
set_option maxHeartbeats 8000000 in
set_option maxRecDepth 100000 in
theorem spec_l7Good.calls (k : Nat) (A0_0 : Option Addr) (c0_0 : Nat) (l0_0 : List Int) (A0_1 : Option Addr) (c0_1 : Nat) (l0_1 : List Int) (A0_2 : Option Addr) (c0_2 : Nat) (l0_2 : List Int) (r : Bool) (w : World) (hr0_0 : Kd.C (Kd.int .i64) w A0_0 l0_0.length l0_0) (hc0_0 : l0_0.length ≤ c0_0) (hr0_1 : Kd.C (Kd.int .i64) w A0_1 l0_1.length l0_1) (hc0_1 : l0_1.length ≤ c0_1) (hr0_2 : Kd.C (Kd.int .i64) w A0_2 l0_2.length l0_2) (hc0_2 : l0_2.length ≤ c0_2) (h : spec_l7Good.f k l0_0 l0_1 l0_2 = some r) :
 Calls Try.prog 61 #[.agg #[.slice A0_0 l0_0.length c0_0, .slice A0_1 l0_1.length c0_1, .slice A0_2 l0_2.length c0_2]] w fun e w' => e = .returned (.bool r) ∧ Below w.heap.size w w' := by
 have hu26 := Try.underlying26
 have HR0_0 := Aside0.mk hr0_0
 have HC0_0 := Aside0.mk hc0_0
 clear hr0_0 hc0_0
 have HR0_1 := Aside0.mk hr0_1
 have HC0_1 := Aside0.mk hc0_1
 clear hr0_1 hc0_1
 have HR0_2 := Aside0.mk hr0_2
 have HC0_2 := Aside0.mk hc0_2
 clear hr0_2 hc0_2
 have HB := Aside0.mk (Below.refl w.heap.size w)
 have H : (if (l0_0.length : Int) > 6 then (spec_l7Good.j0 k true l0_0 l0_1 l0_2) else ((spec_l2Row.f k l0_0 (l0_0.length : Int) 20).bind fun t390 => (if t390 = true then ((spec_l1In.f (l0_1.length : Int) 1 3).bind fun t391 => (spec_l7Good.j0 k (!t391) l0_0 l0_1 l0_2)) else (spec_l7Good.j0 k true l0_0 l0_1 l0_2)))) = some r := h
 clear h
 have HC2 := Aside0.mk H
 clear H
 go_enter Try.func61, Try.ntmps61
 go_upto_region 1 with (first | ((with_reducible refine gate_dst (N := 1) rfl ?_); (try (refine gate_guard (by rfl) ?_; dsimp only)); refine box_event ?hg (N := 1) ?hd (cs := #[.slice A0_0 l0_0.length c0_0, .slice A0_1 l0_1.length c0_1, .slice A0_2 l0_2.length c0_2]) (t := 26) ?hr ?_; (case hd => rfl); (case hg => rfl); (case hr => first | (go_simp; done) | (go_simp; rfl)); intro gb389 hg w3 hbox hb; have BK389 := Aside0.mk (hbox); have GW389 := Aside0.mk ((z6 : w.heap.size ≤ gb389)); have GE389 := Aside0.mk ((z6 : w.heap.size ≤ gb389)); replace HB := zs0 hb; clear hb hbox hg))
 repeat (go_quiet (first | ((with_reducible refine gate_dst (N := 1) rfl ?_); (try (refine gate_guard (by rfl) ?_; dsimp only)); refine box_event ?hg (N := 1) ?hd (cs := #[.slice A0_0 l0_0.length c0_0, .slice A0_1 l0_1.length c0_1, .slice A0_2 l0_2.length c0_2]) (t := 26) ?hr ?_; (case hd => rfl); (case hg => rfl); (case hr => first | (go_simp; done) | (go_simp; rfl)); intro gb389 hg w3 hbox hb; have BK389 := Aside0.mk (hbox); have GW389 := Aside0.mk ((z6 : w.heap.size ≤ gb389)); have GE389 := Aside0.mk ((z6 : w.heap.size ≤ gb389)); replace HB := zs0 hb; clear hb hbox hg)); go_upto_region 1 with (first | ((with_reducible refine gate_dst (N := 1) rfl ?_); (try (refine gate_guard (by rfl) ?_; dsimp only)); refine box_event ?hg (N := 1) ?hd (cs := #[.slice A0_0 l0_0.length c0_0, .slice A0_1 l0_1.length c0_1, .slice A0_2 l0_2.length c0_2]) (t := 26) ?hr ?_; (case hd => rfl); (case hg => rfl); (case hr => first | (go_simp; done) | (go_simp; rfl)); intro gb389 hg w3 hbox hb; have BK389 := Aside0.mk (hbox); have GW389 := Aside0.mk ((z6 : w.heap.size ≤ gb389)); have GE389 := Aside0.mk ((z6 : w.heap.size ≤ gb389)); replace HB := zs0 hb; clear hb hbox hg)))
 (try simp only [Act.put, List.setIfInBounds_toArray, List.set_cons_zero, List.set_cons_succ])
 go_cut [23] (fun v23 wc => ∃ (kq : Nat) (x23_1 : Bool), v23 = .bool x23_1 ∧ Aside0 (spec_l7Good.j0 kq x23_1 l0_0 l0_1 l0_2 = some r) ∧ Aside0 (kq ≤ k) ∧ Aside0 (wc.heap[gb389]? = some (.cells #[(.slice A0_0 l0_0.length c0_0), (.slice A0_1 l0_1.length c0_1), (.slice A0_2 l0_2.length c0_2)] 26 (0, 0))) ∧ Aside0 (Below w.heap.size w wc))
 case first =>
  have H := HC2.out
  clear HC2
  by_cases c4 : (l0_0.length : Int) > 6
  · rw [if_pos c4] at H
    have c4b0 : decide (6 < (l0_0.length : Int)) = true := decide_eq_true c4
    have c4b1 : decide (6 < l0_0.length) = true := decide_eq_true (by omega)
    clear c4
    (first | rw [c4b0] | (simp only [i64_w, i32_w]; rw [c4b0]) | skip)
    have H' := Aside0.mk H
    clear H
    obtain ⟨hcz5_0, hcz5_1, hcz5_2, hfz5_0, hfz5_1, hfz5_2⟩ := zc3 BK389.out
    go_wp2
    repeat (go_quiet (fail); try go_wp2)
    go_meet
    case rel => exact ⟨_, (true), z3, H', ⟨z37⟩, ⟨(zB BK389.out)⟩, ⟨(zH1 GE389.out)⟩⟩
  · rw [if_neg c4] at H
    have c4b0 : decide (6 < (l0_0.length : Int)) = false := decide_eq_false c4
    have c4b1 : decide (6 < l0_0.length) = false := decide_eq_false (by omega)
    clear c4
    (first | rw [c4b0] | (simp only [i64_w, i32_w]; rw [c4b0]) | skip)
    replace H := Option.bind_eq_some_iff.mp H
    obtain ⟨t390, A60, H⟩ := H
    replace H : (if t390 = true then ((spec_l1In.f (l0_1.length : Int) 1 3).bind fun t391 => (spec_l7Good.j0 k (!t391) l0_0 l0_1 l0_2)) else (spec_l7Good.j0 k true l0_0 l0_1 l0_2)) = some r := H
    have A6 := Aside0.mk A60
    clear A60
    by_cases c7 : t390 = true
    · subst c7
      have H1 : ((spec_l1In.f (l0_1.length : Int) 1 3).bind fun t391 => (spec_l7Good.j0 k (!t391) l0_0 l0_1 l0_2)) = some r := by rw [if_pos rfl] at H; exact H
      clear H
      have H := H1
      clear H1
      replace H := Option.bind_eq_some_iff.mp H
      obtain ⟨t391, A80, H⟩ := H
      replace H : (spec_l7Good.j0 k (!t391) l0_0 l0_1 l0_2) = some r := H
      have A8 := Aside0.mk A80
      clear A80
      have H' := Aside0.mk H
      clear H
      obtain ⟨hcz9_0, hcz9_1, hcz9_2, hfz9_0, hfz9_1, hfz9_2⟩ := zc3 BK389.out
      go_wp2_with (first | (go_at_call 112; (with_reducible refine (spec_l2Row.calls k _ _ l0_0 (l0_0.length : Int) 20 true _ ?side1 ?side2 A6.out).mono ?_); (case side1 => exact zC (Kd.C_below HR0_0.out HB.out)); (case side2 => exact HC0_0.out); rintro e w' ⟨rfl, ⟨nd, rfl⟩⟩; (try first | exact ⟨rfl, _, World.drewN_drewN _ _ _⟩ | exact ⟨rfl, _, Eq.trans (World.drewN_drewN _ _ _) (congrArg (World.drewN _) (Nat.add_assoc _ _ _))⟩)) | (go_at_call 87; (with_reducible refine (spec_l1In.calls (l0_1.length : Int) 1 3 t391 _ A8.out).mono ?_); rintro e w' ⟨rfl, ⟨nd, rfl⟩⟩; (try first | exact ⟨rfl, _, World.drewN_drewN _ _ _⟩ | exact ⟨rfl, _, Eq.trans (World.drewN_drewN _ _ _) (congrArg (World.drewN _) (Nat.add_assoc _ _ _))⟩)))
      repeat (go_quiet (first | (go_at_call 112; (with_reducible refine (spec_l2Row.calls k _ _ l0_0 (l0_0.length : Int) 20 true _ ?side1 ?side2 A6.out).mono ?_); (case side1 => exact zC (Kd.C_below HR0_0.out HB.out)); (case side2 => exact HC0_0.out); rintro e w' ⟨rfl, ⟨nd, rfl⟩⟩; (try first | exact ⟨rfl, _, World.drewN_drewN _ _ _⟩ | exact ⟨rfl, _, Eq.trans (World.drewN_drewN _ _ _) (congrArg (World.drewN _) (Nat.add_assoc _ _ _))⟩)) | (go_at_call 87; (with_reducible refine (spec_l1In.calls (l0_1.length : Int) 1 3 t391 _ A8.out).mono ?_); rintro e w' ⟨rfl, ⟨nd, rfl⟩⟩; (try first | exact ⟨rfl, _, World.drewN_drewN _ _ _⟩ | exact ⟨rfl, _, Eq.trans (World.drewN_drewN _ _ _) (congrArg (World.drewN _) (Nat.add_assoc _ _ _))⟩))); try go_wp2_with (first | (go_at_call 112; (with_reducible refine (spec_l2Row.calls k _ _ l0_0 (l0_0.length : Int) 20 true _ ?side1 ?side2 A6.out).mono ?_); (case side1 => exact zC (Kd.C_below HR0_0.out HB.out)); (case side2 => exact HC0_0.out); rintro e w' ⟨rfl, ⟨nd, rfl⟩⟩; (try first | exact ⟨rfl, _, World.drewN_drewN _ _ _⟩ | exact ⟨rfl, _, Eq.trans (World.drewN_drewN _ _ _) (congrArg (World.drewN _) (Nat.add_assoc _ _ _))⟩)) | (go_at_call 87; (with_reducible refine (spec_l1In.calls (l0_1.length : Int) 1 3 t391 _ A8.out).mono ?_); rintro e w' ⟨rfl, ⟨nd, rfl⟩⟩; (try first | exact ⟨rfl, _, World.drewN_drewN _ _ _⟩ | exact ⟨rfl, _, Eq.trans (World.drewN_drewN _ _ _) (congrArg (World.drewN _) (Nat.add_assoc _ _ _))⟩))))
      go_meet
      case rel => exact ⟨_, (!t391), z3, H', ⟨z37⟩, ⟨(zB BK389.out)⟩, ⟨(zH1 GE389.out)⟩⟩
    · replace c7 := Bool.eq_false_iff.mpr c7
      subst c7
      have H1 : (spec_l7Good.j0 k true l0_0 l0_1 l0_2) = some r := by rw [if_neg (show ¬ (false = true) by decide)] at H; exact H
      clear H
      have H := H1
      clear H1
      have H' := Aside0.mk H
      clear H
      obtain ⟨hcz10_0, hcz10_1, hcz10_2, hfz10_0, hfz10_1, hfz10_2⟩ := zc3 BK389.out
      go_wp2_with (first | (go_at_call 112; (with_reducible refine (spec_l2Row.calls k _ _ l0_0 (l0_0.length : Int) 20 false _ ?side1 ?side2 A6.out).mono ?_); (case side1 => exact zC (Kd.C_below HR0_0.out HB.out)); (case side2 => exact HC0_0.out); rintro e w' ⟨rfl, ⟨nd, rfl⟩⟩; (try first | exact ⟨rfl, _, World.drewN_drewN _ _ _⟩ | exact ⟨rfl, _, Eq.trans (World.drewN_drewN _ _ _) (congrArg (World.drewN _) (Nat.add_assoc _ _ _))⟩)))
      repeat (go_quiet (first | (go_at_call 112; (with_reducible refine (spec_l2Row.calls k _ _ l0_0 (l0_0.length : Int) 20 false _ ?side1 ?side2 A6.out).mono ?_); (case side1 => exact zC (Kd.C_below HR0_0.out HB.out)); (case side2 => exact HC0_0.out); rintro e w' ⟨rfl, ⟨nd, rfl⟩⟩; (try first | exact ⟨rfl, _, World.drewN_drewN _ _ _⟩ | exact ⟨rfl, _, Eq.trans (World.drewN_drewN _ _ _) (congrArg (World.drewN _) (Nat.add_assoc _ _ _))⟩))); try go_wp2_with (first | (go_at_call 112; (with_reducible refine (spec_l2Row.calls k _ _ l0_0 (l0_0.length : Int) 20 false _ ?side1 ?side2 A6.out).mono ?_); (case side1 => exact zC (Kd.C_below HR0_0.out HB.out)); (case side2 => exact HC0_0.out); rintro e w' ⟨rfl, ⟨nd, rfl⟩⟩; (try first | exact ⟨rfl, _, World.drewN_drewN _ _ _⟩ | exact ⟨rfl, _, Eq.trans (World.drewN_drewN _ _ _) (congrArg (World.drewN _) (Nat.add_assoc _ _ _))⟩))))
      go_meet
      case rel => exact ⟨_, (true), z3, H', ⟨z37⟩, ⟨(zB BK389.out)⟩, ⟨(zH1 GE389.out)⟩⟩
 case rest =>
  clear HC2
  try clear p2
  try clear c4
  try clear c4b0
  try clear c4b1
  try clear c6
  try clear c7
  try clear hcz10_0
  try clear hcz10_1
  try clear hcz10_2
  try clear hcz5_0
  try clear hcz5_1
  try clear hcz5_2
  try clear hcz9_0
  try clear hcz9_1
  try clear hcz9_2
  try clear hfz10_0
  try clear hfz10_1
  try clear hfz10_2
  try clear hfz5_0
  try clear hfz5_1
  try clear hfz5_2
  try clear hfz9_0
  try clear hfz9_1
  try clear hfz9_2
  obtain ⟨kq, x23_1, rfl, HA, HJ1, BK389, HB⟩ := hcut
  cases kq with
  | zero => exact absurd HA.out (by simp [spec_l7Good.j0])
  | succ kj1 =>
   have H := HA.out
   clear HA
   simp only [spec_l7Good.j0] at H
   by_cases c11 : x23_1 = true
   · subst c11
     have H1 : (some false) = some r := by rw [if_pos rfl] at H; exact H
     clear H
     have H := H1
     clear H1
     obtain rfl := Option.some.inj H
     go_wp2
     repeat (go_quiet (fail); try go_wp2)
     go_ret
     exact ⟨z5, (zH1 GE389.out)⟩
   · replace c11 := Bool.eq_false_iff.mpr c11
     subst c11
     have H1 : ((spec_l2Row.f kj1 l0_1 (l0_1.length : Int) 99).bind fun t392 => (if t392 = true then ((spec_l2Row.f kj1 l0_2 (l0_1.length : Int) 9).bind fun t393 => (spec_l7Good.j1 kj1 (!t393) l0_0 l0_1 l0_2)) else (spec_l7Good.j1 kj1 true l0_0 l0_1 l0_2))) = some r := by rw [if_neg (show ¬ (false = true) by decide)] at H; exact H
     clear H
     have H := H1
     clear H1
     have HC12 := Aside0.mk H
     clear H
     go_upto_region 3 with (fail)
     repeat (go_quiet (fail); go_upto_region 3 with (fail))
     go_cut [39] (fun v39 wc => ∃ (kq : Nat) (x39_11 : Bool), v39 = .bool x39_11 ∧ Aside0 (spec_l7Good.j1 kq x39_11 l0_0 l0_1 l0_2 = some r) ∧ Aside0 (kq ≤ kj1) ∧ Aside0 (wc.heap[gb389]? = some (.cells #[(.slice A0_0 l0_0.length c0_0), (.slice A0_1 l0_1.length c0_1), (.slice A0_2 l0_2.length c0_2)] 26 (0, 0))) ∧ Aside0 (Below w.heap.size w wc))
     case first =>
      have H := HC12.out
      clear HC12
      replace H := Option.bind_eq_some_iff.mp H
      obtain ⟨t392, A130, H⟩ := H
      replace H : (if t392 = true then ((spec_l2Row.f kj1 l0_2 (l0_1.length : Int) 9).bind fun t393 => (spec_l7Good.j1 kj1 (!t393) l0_0 l0_1 l0_2)) else (spec_l7Good.j1 kj1 true l0_0 l0_1 l0_2)) = some r := H
      have A13 := Aside0.mk A130
      clear A130
      by_cases c14 : t392 = true
      · subst c14
        have H1 : ((spec_l2Row.f kj1 l0_2 (l0_1.length : Int) 9).bind fun t393 => (spec_l7Good.j1 kj1 (!t393) l0_0 l0_1 l0_2)) = some r := by rw [if_pos rfl] at H; exact H
        clear H
        have H := H1
        clear H1
        replace H := Option.bind_eq_some_iff.mp H
        obtain ⟨t393, A150, H⟩ := H
        replace H : (spec_l7Good.j1 kj1 (!t393) l0_0 l0_1 l0_2) = some r := H
        have A15 := Aside0.mk A150
        clear A150
        have H' := Aside0.mk H
        clear H
        obtain ⟨hcz16_0, hcz16_1, hcz16_2, hfz16_0, hfz16_1, hfz16_2⟩ := zc3 BK389.out
        go_wp2_with (first | (go_at_call 112; (with_reducible refine (spec_l2Row.calls kj1 _ _ l0_1 (l0_1.length : Int) 99 true _ ?side1 ?side2 A13.out).mono ?_); (case side1 => exact zC (Kd.C_below HR0_1.out HB.out)); (case side2 => exact HC0_1.out); rintro e w' ⟨rfl, ⟨nd, rfl⟩⟩; (try first | exact ⟨rfl, _, World.drewN_drewN _ _ _⟩ | exact ⟨rfl, _, Eq.trans (World.drewN_drewN _ _ _) (congrArg (World.drewN _) (Nat.add_assoc _ _ _))⟩)) | (go_at_call 112; (with_reducible refine (spec_l2Row.calls kj1 _ _ l0_2 (l0_1.length : Int) 9 t393 _ ?side1 ?side2 A15.out).mono ?_); (case side1 => repeat (first | exact (Kd.C_below HR0_2.out (zH1 GE389.out)) | (with_reducible refine Kd.C_alloc ?_ _) | (with_reducible refine Kd.C_drewN ?_ _) | (with_reducible refine Kd.C_drew ?_))); (case side2 => exact HC0_2.out); rintro e w' ⟨rfl, ⟨nd, rfl⟩⟩; (try first | exact ⟨rfl, _, World.drewN_drewN _ _ _⟩ | exact ⟨rfl, _, Eq.trans (World.drewN_drewN _ _ _) (congrArg (World.drewN _) (Nat.add_assoc _ _ _))⟩)))
        repeat (go_quiet (first | (go_at_call 112; (with_reducible refine (spec_l2Row.calls kj1 _ _ l0_1 (l0_1.length : Int) 99 true _ ?side1 ?side2 A13.out).mono ?_); (case side1 => exact zC (Kd.C_below HR0_1.out HB.out)); (case side2 => exact HC0_1.out); rintro e w' ⟨rfl, ⟨nd, rfl⟩⟩; (try first | exact ⟨rfl, _, World.drewN_drewN _ _ _⟩ | exact ⟨rfl, _, Eq.trans (World.drewN_drewN _ _ _) (congrArg (World.drewN _) (Nat.add_assoc _ _ _))⟩)) | (go_at_call 112; (with_reducible refine (spec_l2Row.calls kj1 _ _ l0_2 (l0_1.length : Int) 9 t393 _ ?side1 ?side2 A15.out).mono ?_); (case side1 => repeat (first | exact (Kd.C_below HR0_2.out (zH1 GE389.out)) | (with_reducible refine Kd.C_alloc ?_ _) | (with_reducible refine Kd.C_drewN ?_ _) | (with_reducible refine Kd.C_drew ?_))); (case side2 => exact HC0_2.out); rintro e w' ⟨rfl, ⟨nd, rfl⟩⟩; (try first | exact ⟨rfl, _, World.drewN_drewN _ _ _⟩ | exact ⟨rfl, _, Eq.trans (World.drewN_drewN _ _ _) (congrArg (World.drewN _) (Nat.add_assoc _ _ _))⟩))); try go_wp2_with (first | (go_at_call 112; (with_reducible refine (spec_l2Row.calls kj1 _ _ l0_1 (l0_1.length : Int) 99 true _ ?side1 ?side2 A13.out).mono ?_); (case side1 => exact zC (Kd.C_below HR0_1.out HB.out)); (case side2 => exact HC0_1.out); rintro e w' ⟨rfl, ⟨nd, rfl⟩⟩; (try first | exact ⟨rfl, _, World.drewN_drewN _ _ _⟩ | exact ⟨rfl, _, Eq.trans (World.drewN_drewN _ _ _) (congrArg (World.drewN _) (Nat.add_assoc _ _ _))⟩)) | (go_at_call 112; (with_reducible refine (spec_l2Row.calls kj1 _ _ l0_2 (l0_1.length : Int) 9 t393 _ ?side1 ?side2 A15.out).mono ?_); (case side1 => repeat (first | exact (Kd.C_below HR0_2.out (zH1 GE389.out)) | (with_reducible refine Kd.C_alloc ?_ _) | (with_reducible refine Kd.C_drewN ?_ _) | (with_reducible refine Kd.C_drew ?_))); (case side2 => exact HC0_2.out); rintro e w' ⟨rfl, ⟨nd, rfl⟩⟩; (try first | exact ⟨rfl, _, World.drewN_drewN _ _ _⟩ | exact ⟨rfl, _, Eq.trans (World.drewN_drewN _ _ _) (congrArg (World.drewN _) (Nat.add_assoc _ _ _))⟩))))
        go_meet
        case rel => exact ⟨_, (!t393), z3, H', ⟨(by have := HJ1.out; first | omega | exact Nat.le_refl _)⟩, ⟨(zB BK389.out)⟩, ⟨(zH1 GE389.out)⟩⟩
      · replace c14 := Bool.eq_false_iff.mpr c14
        subst c14
        have H1 : (spec_l7Good.j1 kj1 true l0_0 l0_1 l0_2) = some r := by rw [if_neg (show ¬ (false = true) by decide)] at H; exact H
        clear H
        have H := H1
        clear H1
        have H' := Aside0.mk H
        clear H
        obtain ⟨hcz17_0, hcz17_1, hcz17_2, hfz17_0, hfz17_1, hfz17_2⟩ := zc3 BK389.out
        go_wp2_with (first | (go_at_call 112; (with_reducible refine (spec_l2Row.calls kj1 _ _ l0_1 (l0_1.length : Int) 99 false _ ?side1 ?side2 A13.out).mono ?_); (case side1 => exact zC (Kd.C_below HR0_1.out HB.out)); (case side2 => exact HC0_1.out); rintro e w' ⟨rfl, ⟨nd, rfl⟩⟩; (try first | exact ⟨rfl, _, World.drewN_drewN _ _ _⟩ | exact ⟨rfl, _, Eq.trans (World.drewN_drewN _ _ _) (congrArg (World.drewN _) (Nat.add_assoc _ _ _))⟩)))
        repeat (go_quiet (first | (go_at_call 112; (with_reducible refine (spec_l2Row.calls kj1 _ _ l0_1 (l0_1.length : Int) 99 false _ ?side1 ?side2 A13.out).mono ?_); (case side1 => exact zC (Kd.C_below HR0_1.out HB.out)); (case side2 => exact HC0_1.out); rintro e w' ⟨rfl, ⟨nd, rfl⟩⟩; (try first | exact ⟨rfl, _, World.drewN_drewN _ _ _⟩ | exact ⟨rfl, _, Eq.trans (World.drewN_drewN _ _ _) (congrArg (World.drewN _) (Nat.add_assoc _ _ _))⟩))); try go_wp2_with (first | (go_at_call 112; (with_reducible refine (spec_l2Row.calls kj1 _ _ l0_1 (l0_1.length : Int) 99 false _ ?side1 ?side2 A13.out).mono ?_); (case side1 => exact zC (Kd.C_below HR0_1.out HB.out)); (case side2 => exact HC0_1.out); rintro e w' ⟨rfl, ⟨nd, rfl⟩⟩; (try first | exact ⟨rfl, _, World.drewN_drewN _ _ _⟩ | exact ⟨rfl, _, Eq.trans (World.drewN_drewN _ _ _) (congrArg (World.drewN _) (Nat.add_assoc _ _ _))⟩))))
        go_meet
        case rel => exact ⟨_, (true), z3, H', ⟨(by have := HJ1.out; first | omega | exact Nat.le_refl _)⟩, ⟨(zB BK389.out)⟩, ⟨(zH1 GE389.out)⟩⟩
     case rest =>
      clear HC12
      try clear c1
      try clear p2
      try clear c4
      try clear c4b0
      try clear c4b1
      try clear c6
      try clear c7
      try clear c11
      try clear c14
      try clear hcz10_0
      try clear hcz10_1
      try clear hcz10_2
      try clear hcz16_0
      try clear hcz16_1
      try clear hcz16_2
      try clear hcz17_0
      try clear hcz17_1
      try clear hcz17_2
      try clear hcz5_0
      try clear hcz5_1
      try clear hcz5_2
      try clear hcz9_0
      try clear hcz9_1
      try clear hcz9_2
      try clear hfz10_0
      try clear hfz10_1
      try clear hfz10_2
      try clear hfz16_0
      try clear hfz16_1
      try clear hfz16_2
      try clear hfz17_0
      try clear hfz17_1
      try clear hfz17_2
      try clear hfz5_0
      try clear hfz5_1
      try clear hfz5_2
      try clear hfz9_0
      try clear hfz9_1
      try clear hfz9_2
      try clear p2
      obtain ⟨kq, x39_11, rfl, HA, HJ11, BK389, HB⟩ := hcut
      cases kq with
      | zero => exact absurd HA.out (by simp [spec_l7Good.j1])
      | succ kj11 =>
       have H := HA.out
       clear HA
       simp only [spec_l7Good.j1] at H
       by_cases c18 : x39_11 = true
       · subst c18
         have H1 : (some false) = some r := by rw [if_pos rfl] at H; exact H
         clear H
         have H := H1
         clear H1
         obtain rfl := Option.some.inj H
         go_wp2
         repeat (go_quiet (fail); try go_wp2)
         go_ret
         exact ⟨z5, (zH1 GE389.out)⟩
       · replace c18 := Bool.eq_false_iff.mpr c18
         subst c18
         have H1 : (spec_l7Good.l0 kj11 1 l0_0 l0_1 l0_2) = some r := by rw [if_neg (show ¬ (false = true) by decide)] at H; exact H
         clear H
         have H := H1
         clear H1
         have H' := Aside0.mk H
         clear H
         go_wp2
         repeat (go_quiet (fail); try go_wp2)
         go_loopg [3] kj11 (fun kq v3 w' => ∃ (x3_3 : Int), v3 = .int .i64 x3_3 ∧ Aside0 (spec_l7Good.l0 kq x3_3 l0_0 l0_1 l0_2 = some r) ∧ Aside0 (kq ≤ kj11) ∧ Aside0 (w'.heap[gb389]? = some (.cells #[(.slice A0_0 l0_0.length c0_0), (.slice A0_1 l0_1.length c0_1), (.slice A0_2 l0_2.length c0_2)] 26 (0, 0))) ∧ Aside0 (Below w.heap.size w w'))
         case atStart => exact ⟨(1), z3, H', ⟨Nat.le_refl _⟩, ⟨(zB BK389.out)⟩, ⟨(zH1 GE389.out)⟩⟩
         case round =>
          clear H'
          try clear c1
          try clear p2
          try clear c4
          try clear c4b0
          try clear c4b1
          try clear c6
          try clear c7
          try clear c11
          try clear c14
          try clear c18
          try clear hcz10_0
          try clear hcz10_1
          try clear hcz10_2
          try clear hcz16_0
          try clear hcz16_1
          try clear hcz16_2
          try clear hcz17_0
          try clear hcz17_1
          try clear hcz17_2
          try clear hcz5_0
          try clear hcz5_1
          try clear hcz5_2
          try clear hcz9_0
          try clear hcz9_1
          try clear hcz9_2
          try clear hfz10_0
          try clear hfz10_1
          try clear hfz10_2
          try clear hfz16_0
          try clear hfz16_1
          try clear hfz16_2
          try clear hfz17_0
          try clear hfz17_1
          try clear hfz17_2
          try clear hfz5_0
          try clear hfz5_1
          try clear hfz5_2
          try clear hfz9_0
          try clear hfz9_1
          try clear hfz9_2
          try clear p2
          obtain ⟨x3_3, rfl, HA, HK3, BK389, HB⟩ := hrel
          cases gk with
          | zero => exact absurd HA.out (by simp [spec_l7Good.l0])
          | succ k3 =>
           have H := HA.out
           clear HA
           simp only [spec_l7Good.l0] at H
           by_cases c19 : x3_3 < (l0_2.length : Int)
           · rw [if_pos c19] at H
             have c19b0 : decide (x3_3 < (l0_2.length : Int)) = true := decide_eq_true c19
             clear c19
             by_cases c20 : 0 ≤ x3_3
             · rw [if_pos c20] at H
               have c20b0 : decide (0 ≤ x3_3) = true := decide_eq_true c20
               clear c20
               obtain ⟨ji21, hji21⟩ : ∃ j_ : Int, (wrap64 (x3_3 - 1)) = j_ := ⟨_, rfl⟩
               replace H : (if 0 ≤ (ji21) then (if (ji21) < (l0_2.length : Int) then (if (rd l0_2 x3_3) < (rd l0_2 (ji21)) then (some false) else (spec_l7Good.l0 k3 (wrap64 (x3_3 + 1)) l0_0 l0_1 l0_2)) else (none)) else (none)) = some r := by first | (rw [hji21] at H; exact H) | (simp only [hji21] at H ⊢; exact H)
               have hji21w : (IntKind.i64.wrap (x3_3 - 1)) = ji21 := (i64_w _).trans hji21
               by_cases c22 : 0 ≤ (ji21)
               · rw [if_pos c22] at H
                 have c22b0 : decide (0 ≤ (ji21)) = true := decide_eq_true c22
                 clear c22
                 by_cases c23 : (ji21) < (l0_2.length : Int)
                 · rw [if_pos c23] at H
                   have c23b0 : decide ((ji21) < (l0_2.length : Int)) = true := decide_eq_true c23
                   clear c23
                   by_cases c24 : (rd l0_2 x3_3) < (rd l0_2 (ji21))
                   · rw [if_pos c24] at H
                     have c24b0 : decide ((rd l0_2 x3_3) < (rd l0_2 (ji21))) = true := decide_eq_true c24
                     clear c24
                     obtain rfl := Option.some.inj H
                     obtain ⟨hcz25_0, hcz25_1, hcz25_2, hfz25_0, hfz25_1, hfz25_2⟩ := zc3 BK389.out
                     have p394 : 0 ≤ (x3_3 : Int) := of_decide_eq_true z1
                     have q394 : x3_3 < (l0_2.length : Int) := of_decide_eq_true z1
                     obtain ⟨ad394, e394, hx394_0⟩ := Kd.at_int HR0_2.out x3_3 p394 q394
                     cases e394
                     replace hx394_0 := (HB.out.cell (World.block_lt_of_cell? w _ hx394_0)).trans hx394_0
                     replace p394 := eq_true p394
                     replace q394 := eq_true q394
                     have p395 : 0 ≤ ((ji21) : Int) := of_decide_eq_true z1
                     have q395 : (ji21) < (l0_2.length : Int) := of_decide_eq_true z1
                     obtain ⟨ad395, e395, hx395_0⟩ := Kd.at_int HR0_2.out (ji21) p395 q395
                     obtain rfl : ad394 = ad395 := (by injection e395)
                     replace hx395_0 := (HB.out.cell (World.block_lt_of_cell? w _ hx395_0)).trans hx395_0
                     replace p395 := eq_true p395
                     replace q395 := eq_true q395
                     go_wp2
                     repeat (go_quiet (fail); try go_wp2)
                     go_ret
                     exact ⟨(by first | rfl | (simp [errW_none, errW_some] <;> rfl) | (simp only [← hji21]; first | rfl | (simp [errW_none, errW_some] <;> rfl)) | (simp [*, errW_none, errW_some] <;> rfl)), (zH1 GE389.out)⟩
                   · rw [if_neg c24] at H
                     have c24b0 : decide ((rd l0_2 x3_3) < (rd l0_2 (ji21))) = false := decide_eq_false c24
                     clear c24
                     have H' := Aside0.mk H
                     clear H
                     obtain ⟨hcz26_0, hcz26_1, hcz26_2, hfz26_0, hfz26_1, hfz26_2⟩ := zc3 BK389.out
                     have p394 : 0 ≤ (x3_3 : Int) := of_decide_eq_true z1
                     have q394 : x3_3 < (l0_2.length : Int) := of_decide_eq_true z1
                     obtain ⟨ad394, e394, hx394_0⟩ := Kd.at_int HR0_2.out x3_3 p394 q394
                     cases e394
                     replace hx394_0 := (HB.out.cell (World.block_lt_of_cell? w _ hx394_0)).trans hx394_0
                     replace p394 := eq_true p394
                     replace q394 := eq_true q394
                     have p395 : 0 ≤ ((ji21) : Int) := of_decide_eq_true z1
                     have q395 : (ji21) < (l0_2.length : Int) := of_decide_eq_true z1
                     obtain ⟨ad395, e395, hx395_0⟩ := Kd.at_int HR0_2.out (ji21) p395 q395
                     obtain rfl : ad394 = ad395 := (by injection e395)
                     replace hx395_0 := (HB.out.cell (World.block_lt_of_cell? w _ hx395_0)).trans hx395_0
                     replace p395 := eq_true p395
                     replace q395 := eq_true q395
                     go_wp2
                     repeat (go_quiet (fail); try go_wp2)
                     go_roundg k3
                     case measure => have := HJ1.out; have := HJ11.out; have := HK3.out; omega
                     case rel => exact ⟨(wrap64 (x3_3 + 1)), z3, H', ⟨(by have := HJ1.out; have := HJ11.out; have := HK3.out; omega)⟩, ⟨(zB BK389.out)⟩, ⟨(zH1 GE389.out)⟩⟩
                 · rw [if_neg c23] at H
                   exact absurd H (by simp)
               · rw [if_neg c22] at H
                 exact absurd H (by simp)
             · rw [if_neg c20] at H
               exact absurd H (by simp)
           · rw [if_neg c19] at H
             have c19b0 : decide (x3_3 < (l0_2.length : Int)) = false := decide_eq_false c19
             clear c19
             obtain rfl := Option.some.inj H
             obtain ⟨hcz27_0, hcz27_1, hcz27_2, hfz27_0, hfz27_1, hfz27_2⟩ := zc3 BK389.out
             go_wp2
             repeat (go_quiet (fail); try go_wp2)
             go_ret
             exact ⟨z5, (zH1 GE389.out)⟩
end Go.Proofs.Ythlmmcmpllgflaa.P
namespace Go.Proofs.Ythlmmcmpllgflaa.P
open Go.RowKit Go.Proofs.YthlmmcmpllgflaaW.PrintWords Go.Proofs.YthlmmcmpllgflaaW.PrintLast Go.Proofs.YthlmmcmpllgflaaW.PrintMore
def chainB (need setup hold : List Int) : Bool :=
  decide ((need.length : Int) ≤ 6) && (need.all (inB 0 20) && (inB 1 3 (setup.length : Int) && (decide ((hold.length : Int) = setup.length) && (setup.all (inB 0 99) && (hold.all (inB 0 9) && risB hold)))))
theorem IsChain_ev (need setup hold : List Int) (h1 : need.length < 1000000000) (_ : setup.length < 1000000000) (h3 : hold.length < 1000000000) :
    Ev (fun k => impl_IsChain.f k need setup hold) (chainB need setup hold) := by
  unfold impl_IsChain.f chainB
  refine Ev.ifB fun _ => Ev.andB (allWithin_ev _ _ _ (by omega)) fun _ => Ev.andB (Ev.const (within_eq _ _ _)) fun _ => Ev.ifB fun _ => Ev.andB (allWithin_ev _ _ _ (by omega)) fun _ => Ev.andB (allWithin_ev _ _ _ (by omega)) fun _ => ?_
  exact Ev.bind (IsSorted_ev _ (by omega)) (Ev.now _)
theorem l7Good_l0 (a b l : List Int) (hl : l.length < 4611686018427387904) : ∀ d i : Nat, i + 1 + d = l.length →
    Ev (fun k => spec_l7Good.l0 k ((i + 1 : Nat) : Int) a b l) ((List.range' i d).all fun i => decide (l.getD i 0 ≤ l.getD (i + 1) 0))
  | 0, i, h => by
    refine Ev.step (fun k => spec_l7Good.l0.eq_2 ..) ?_
    exact Ev.neg (by omega) ((Ev.now _).to (by simp))
  | d + 1, i, h => by
    refine Ev.step (fun k => spec_l7Good.l0.eq_2 ..) ?_
    rw [wrP (by omega)]
    refine Ev.pos (by omega) (Ev.pos (by omega) (Ev.pos (by omega) (Ev.pos (by omega) ?_)))
    rw [rd_nat, rd_nat, List.range'_succ, List.all_cons]
    by_cases hx : l.getD (i + 1) 0 < l.getD i 0
    · exact Ev.pos hx ((Ev.now false).to (by rw [decide_eq_false (by omega)]; rfl))
    · rw [show wrap64 (((i + 1 : Nat) : Int) + 1) = ((i + 1 + 1 : Nat) : Int) from wrS (by omega)]
      refine Ev.neg hx ((l7Good_l0 a b l hl d (i + 1) (by omega)).to ?_)
      rw [decide_eq_true (show l.getD i 0 ≤ l.getD (i + 1) 0 by omega)]; rfl
theorem l7Good_ev (need setup hold : List Int) (h1 : need.length < 1000000000) (h2 : setup.length < 1000000000) (h3 : hold.length < 1000000000) :
    Ev (fun k => spec_l7Good.f k need setup hold) (chainB need setup hold) := by
  have hj1 : ∀ b, Ev (fun k => spec_l7Good.j1 k b need setup hold) (!b && risB hold) := by
    intro b
    refine Ev.step (fun k => spec_l7Good.j1.eq_2 ..) ?_
    cases b with
    | true => exact Ev.pos rfl (Ev.now _)
    | false =>
      refine Ev.neg (by simp) (Ev.to (r := risB hold) ?_ (by simp))
      unfold risB
      by_cases h0 : hold.length = 0
      · refine Ev.step (fun k => spec_l7Good.l0.eq_2 ..) ?_
        refine Ev.neg (by omega) ((Ev.now _).to ?_)
        rw [h0]; rfl
      · refine (l7Good_l0 need setup hold (by omega) (hold.length - 1) 0 (by omega)).to ?_
        rw [List.range_eq_range']
  have hj0 : ∀ b, Ev (fun k => spec_l7Good.j0 k b need setup hold) (!b && (decide ((hold.length : Int) = setup.length) && (setup.all (inB 0 99) && (hold.all (inB 0 9) && risB hold)))) := by
    intro b
    refine Ev.step (fun k => spec_l7Good.j0.eq_2 ..) ?_
    cases b with
    | true => exact Ev.pos rfl (Ev.now _)
    | false =>
      refine Ev.neg (by simp) (Ev.bind (l2Row_ev _ _ _ (by omega)) ?_)
      cases hs : setup.all (inB 0 99) with
      | false => exact Ev.neg (by simp) ((hj1 true).to (by simp))
      | true =>
        refine Ev.pos (by simp) (Ev.bind (l2Row_ev _ _ _ (by omega)) ((hj1 _).to ?_))
        cases hold.all (inB 0 9) <;> simp
        by_cases e : (hold.length : Int) = setup.length
        · simp [e]
        · simp [e]
  unfold spec_l7Good.f chainB
  by_cases hn : (need.length : Int) ≤ 6
  · rw [decide_eq_true hn, Bool.true_and]
    refine Ev.neg (by omega) (Ev.bind (l2Row_ev _ _ _ (by omega)) ?_)
    cases hs : need.all (inB 0 20) with
    | false => exact Ev.neg (by simp) ((hj0 true).to (by simp))
    | true =>
      refine Ev.pos (by simp) (Ev.bind (Ev.const (l1In_eq _ _ _)) ((hj0 _).to ?_))
      simp
  · rw [decide_eq_false hn, Bool.false_and]
    exact Ev.pos (by omega) ((hj0 true).to (by simp))
end Go.Proofs.Ythlmmcmpllgflaa.P
namespace Go.Proofs.Ythlmmcmpllgflaa.P
open Go.RowKit Go.Proofs.YthlmmcmpllgflaaW.PrintWords Go.Proofs.YthlmmcmpllgflaaW.PrintLast Go.Proofs.YthlmmcmpllgflaaW.PrintMore
attribute [local go_sem] max2_int min2_int max_two min_two max_three min_three max_four min_four
set_option linter.unusedVariables false
set_option linter.unusedSimpArgs false
mutual
def impl_Chain_stocks.l0 : Nat → List (List Int) → List (List Int) → List (List Int) → Int → Int → List Int → List Int → List Int → Option ((List (List Int)) × Bool)
 | 0, _, _, _, _, _, _, _, _ => none
 | k + 1, x1, x6, x21, x22, x23, x450000, x450001, x450002 => if x23 < x22 then (if 0 ≤ x23 then (if x23 < (x21.length : Int) then (if (wrap64 (x23 + 1)) < (x1.length : Int) then (if 0 ≤ (wrap64 (x23 + 1)) then (if ((rd_L2 x21 x23).length : Int) = (x450000.length : Int) then (if ((rd_L2 x1 (wrap64 (x23 + 1))).length : Int) = (x450000.length : Int) then ((impl_allWithin.f k (rd_L2 x21 x23) 0 120).bind fun t455 => (if t455 = true then ((impl_allWithin.f k (rd_L2 x1 (wrap64 (x23 + 1))) 0 120).bind fun t456 => (if t456 = true then (impl_Chain_stocks.l1 k x1 x6 (rd_L2 x1 (wrap64 (x23 + 1))) (([] : List Int)) 0 x21 x22 x23 (rd_L2 x21 x23) ((rd_L2 x21 x23).length : Int) 0 x450000 x450001 x450002) else (some (([] : List (List Int)), false)))) else (some (([] : List (List Int)), false)))) else (some (([] : List (List Int)), false))) else (some (([] : List (List Int)), false))) else (none)) else (if ((rd_L2 x21 x23).length : Int) = (x450000.length : Int) then ((impl_allWithin.f k (rd_L2 x21 x23) 0 120).bind fun t468 => (if t468 = true then ((impl_allWithin.f k x450000 0 120).bind fun t469 => (if t469 = true then (impl_Chain_stocks.l101 k x1 x6 x450000 (([] : List Int)) 0 x21 x22 x23 (rd_L2 x21 x23) ((rd_L2 x21 x23).length : Int) 0 x450000 x450001 x450002) else (some (([] : List (List Int)), false)))) else (some (([] : List (List Int)), false)))) else (some (([] : List (List Int)), false)))) else (none)) else (none)) else (some (x6, true))
def impl_Chain_stocks.l1 : Nat → List (List Int) → List (List Int) → List Int → List Int → Int → List (List Int) → Int → Int → List Int → Int → Int → List Int → List Int → List Int → Option ((List (List Int)) × Bool)
 | 0, _, _, _, _, _, _, _, _, _, _, _, _, _, _ => none
 | k + 1, x1, x6, x9, x10, x11, x21, x22, x23, x65, x66, x67, x450000, x450001, x450002 => if x67 < x66 then (if 0 ≤ x67 then (if x67 < (x65.length : Int) then (if x67 < (x9.length : Int) then (if (wrap64 (x11 + (wrap64 ((rd x65 x67) - (rd x9 x67))))) < 0 then (some (([] : List (List Int)), false)) else (if x10.length < 17592186044416 then (impl_Chain_stocks.l1 k x1 x6 x9 (x10 ++ [wrap64 (x11 + (wrap64 ((rd x65 x67) - (rd x9 x67))))]) (wrap64 (x11 + (wrap64 ((rd x65 x67) - (rd x9 x67))))) x21 x22 x23 x65 x66 (wrap64 (x67 + 1)) x450000 x450001 x450002) else (none))) else (none)) else (none)) else (none)) else (if x11 = 0 then (if x6.length < 5864062014805 then (impl_Chain_stocks.l0 k x1 (x6 ++ [x10]) x21 x22 (wrap64 (x23 + 1)) x450000 x450001 x450002) else (none)) else (some (([] : List (List Int)), false)))
def impl_Chain_stocks.l101 : Nat → List (List Int) → List (List Int) → List Int → List Int → Int → List (List Int) → Int → Int → List Int → Int → Int → List Int → List Int → List Int → Option ((List (List Int)) × Bool)
 | 0, _, _, _, _, _, _, _, _, _, _, _, _, _, _ => none
 | k + 1, x1, x6, x9, x10, x11, x21, x22, x23, x65, x66, x67, x450000, x450001, x450002 => if x67 < x66 then (if 0 ≤ x67 then (if x67 < (x65.length : Int) then (if x67 < (x9.length : Int) then (if (wrap64 (x11 + (wrap64 ((rd x65 x67) - (rd x9 x67))))) < 0 then (some (([] : List (List Int)), false)) else (if x10.length < 17592186044416 then (impl_Chain_stocks.l101 k x1 x6 x9 (x10 ++ [wrap64 (x11 + (wrap64 ((rd x65 x67) - (rd x9 x67))))]) (wrap64 (x11 + (wrap64 ((rd x65 x67) - (rd x9 x67))))) x21 x22 x23 x65 x66 (wrap64 (x67 + 1)) x450000 x450001 x450002) else (none))) else (none)) else (none)) else (none)) else (if x11 = 0 then (if x6.length < 5864062014805 then (impl_Chain_stocks.l0 k x1 (x6 ++ [x10]) x21 x22 (wrap64 (x23 + 1)) x450000 x450001 x450002) else (none)) else (some (([] : List (List Int)), false)))
end
def impl_Chain_stocks.f (k : Nat) (l0_0 : List Int) (l0_1 : List Int) (l0_2 : List Int) (l1 : List (List Int)) : Option ((List (List Int)) × Bool) := if (l1.length : Int) = (l0_1.length : Int) then (impl_Chain_stocks.l0 k l1 (([] : List (List Int))) l1 (l1.length : Int) 0 l0_0 l0_1 l0_2) else (some (([] : List (List Int)), false))
set_option maxHeartbeats 8000000 in
set_option maxRecDepth 100000 in
theorem impl_Chain_stocks.calls (k : Nat) (A0_0 : Option Addr) (c0_0 : Nat) (l0_0 : List Int) (A0_1 : Option Addr) (c0_1 : Nat) (l0_1 : List Int) (A0_2 : Option Addr) (c0_2 : Nat) (l0_2 : List Int) (A1 : Option Addr) (c1 : Nat) (l1 : List (List Int)) (r1 : List (List Int)) (r2 : Bool) (w : World) (hr0_0 : Kd.C (Kd.int .i64) w A0_0 l0_0.length l0_0) (hc0_0 : l0_0.length ≤ c0_0) (hr0_1 : Kd.C (Kd.int .i64) w A0_1 l0_1.length l0_1) (hc0_1 : l0_1.length ≤ c0_1) (hr0_2 : Kd.C (Kd.int .i64) w A0_2 l0_2.length l0_2) (hc0_2 : l0_2.length ≤ c0_2) (hr1 : Kd.C (Kd.slice 3 (Kd.int .i64)) w A1 l1.length l1) (hc1 : l1.length ≤ c1) (h : impl_Chain_stocks.f k l0_0 l0_1 l0_2 l1 = some (r1, r2)) :
 Calls Try.prog 103 #[.agg #[.slice A0_0 l0_0.length c0_0, .slice A0_1 l0_1.length c0_1, .slice A0_2 l0_2.length c0_2], .slice A1 l1.length c1] w fun e w' => ∃ v0_ : Value, e = .returned (.tuple #[v0_, .bool r2]) ∧ Kd.S (Kd.slice 3 (Kd.int .i64)) 24 w' w.heap.size (fun _ => True) v0_ r1 ∧ Below w.heap.size w w' := by
 have hu26 := Try.underlying26
 have HR0_0 := Aside0.mk hr0_0
 have HC0_0 := Aside0.mk hc0_0
 clear hr0_0 hc0_0
 have HR0_1 := Aside0.mk hr0_1
 have HC0_1 := Aside0.mk hc0_1
 clear hr0_1 hc0_1
 have HR0_2 := Aside0.mk hr0_2
 have HC0_2 := Aside0.mk hc0_2
 clear hr0_2 hc0_2
 have HR1 := Aside0.mk hr1
 have HC1 := Aside0.mk hc1
 clear hr1 hc1
 have HB := Aside0.mk (Below.refl w.heap.size w)
 have H : (if (l1.length : Int) = (l0_1.length : Int) then (impl_Chain_stocks.l0 k l1 (([] : List (List Int))) l1 (l1.length : Int) 0 l0_0 l0_1 l0_2) else (some (([] : List (List Int)), false))) = some (r1, r2) := h
 clear h
 by_cases c3 : (l1.length : Int) = (l0_1.length : Int)
 · rw [if_pos c3] at H
   have c3b0 : ((l1.length : Int) == (l0_1.length : Int)) = true := beq_iff_eq.mpr c3
   have c3b1 : ((l1.length : Int) != (l0_1.length : Int)) = false := bne_eq_false_iff_eq.mpr c3
   have c3b2 : (l1.length == l0_1.length) = true := by first | simpa using c3 | (simp at c3 ⊢; omega)
   clear c3
   obtain ⟨y450, hy450⟩ : ∃ y_ : List (List Int), y_ = (([] : List (List Int))) := ⟨_, rfl⟩
   replace H : (impl_Chain_stocks.l0 k l1 y450 l1 (l1.length : Int) 0 l0_0 l0_1 l0_2) = some (r1, r2) := zY hy450
   have Ny450 := Aside0.mk hy450
   clear hy450
   have H' := Aside0.mk H
   clear H
   go_enter Try.func103, Try.ntmps103
   go_wp2_with (first | ((with_reducible refine gate_dst (N := 2) rfl ?_); (try (refine gate_guard (by rfl) ?_; dsimp only)); refine box_event ?hg (N := 2) ?hd (cs := #[.slice A0_0 l0_0.length c0_0, .slice A0_1 l0_1.length c0_1, .slice A0_2 l0_2.length c0_2]) (t := 26) ?hr ?_; (case hd => rfl); (case hg => rfl); (case hr => first | (go_simp; done) | (go_simp; rfl)); intro gb449 hg w4 hbox hb; have BK449 := Aside0.mk (hbox); have GW449 := Aside0.mk ((z6 : w.heap.size ≤ gb449)); have GE449 := Aside0.mk ((z6 : w.heap.size ≤ gb449)); replace HB := zs0 hb; clear hb hbox hg; obtain ⟨hcz5_0, hcz5_1, hcz5_2, hfz5_0, hfz5_1, hfz5_2⟩ := zc3 BK449.out) | ((with_reducible refine gate_dst (N := 20) rfl ?_); (try (refine gate_guard (by rfl) ?_; dsimp only)); refine Kd.S_lit (Kd.slice 3 (Kd.int .i64)) _ 24 ?hg (N := 20) ?hd (xs := ([] : List (List Int))) (inner := []) (ok := fun _ => True) (okp := fun _ => True) ?hr ?hp (fun _ hk => hk) trivial (Below.refl _ _) (Nat.le_refl _) (by simp) ?_; (case hd => rfl); (case hg => rfl); (case hr => first | (go_simp; done) | (go_simp; rfl)); (case hp => exact (Reps.none _ _)); intro v451 w6 ho7 hb hg_ hnew_; clear hg_ hnew_; (first | rw [← Ny450.out] at ho7 | (simp only [Int.reduceToNat] at ho7; rw [← Ny450.out] at ho7)); have HO452 := Aside0.mk (Kd.S_lower ho7 (below_size (zH1 GE449.out))); replace BK449 := zb BK449 hb; replace HB := zs1 GE449.out hb; clear hb ho7))
   go_loopg [6, 23] k (fun kq v6 v23 w' => ∃ (x6_1 : List (List Int)) (x23_1 : Int), v23 = .int .i64 x23_1 ∧ Aside0 (impl_Chain_stocks.l0 kq l1 x6_1 l1 (l1.length : Int) x23_1 l0_0 l0_1 l0_2 = some (r1, r2)) ∧ Aside0 (kq ≤ k) ∧ Aside0 (Kd.S (Kd.slice 3 (Kd.int .i64)) 24 w' w.heap.size (fun _ => True) v6 x6_1) ∧ Aside0 (w'.heap[gb449]? = some (.cells #[(.slice A0_0 l0_0.length c0_0), (.slice A0_1 l0_1.length c0_1), (.slice A0_2 l0_2.length c0_2)] 26 (0, 0))) ∧ Aside0 (Below w.heap.size w w'))
   case atStart => exact ⟨(y450), (0), z3, H', ⟨Nat.le_refl _⟩, ⟨(zS HO452.out)⟩, ⟨(zB BK449.out)⟩, ⟨(zH1 GE449.out)⟩⟩
   case round =>
    clear H'
    try clear c1
    try clear p2
    try clear c3
    try clear c3b0
    try clear c3b1
    try clear c3b2
    try clear hcz5_0
    try clear hcz5_1
    try clear hcz5_2
    try clear hfz5_0
    try clear hfz5_1
    try clear hfz5_2
    obtain ⟨x6_1, x23_1, rfl, HA, HK1, HO_6, BK449, HB⟩ := hrel
    cases gk with
    | zero => exact absurd HA.out (by simp [impl_Chain_stocks.l0])
    | succ k1 =>
     have H := HA.out
     clear HA
     simp only [impl_Chain_stocks.l0] at H
     by_cases c8 : x23_1 < (l1.length : Int)
     · rw [if_pos c8] at H
       have c8b0 : decide (x23_1 < (l1.length : Int)) = true := decide_eq_true c8
       clear c8
       by_cases c9 : 0 ≤ x23_1
       · rw [if_pos c9] at H
         have c9b0 : decide (0 ≤ x23_1) = true := decide_eq_true c9
         clear c9
         by_cases c10 : x23_1 < (l1.length : Int)
         · rw [if_pos c10] at H
           have c10b0 : decide (x23_1 < (l1.length : Int)) = true := decide_eq_true c10
           clear c10
           by_cases c11 : (wrap64 (x23_1 + 1)) < (l1.length : Int)
           · rw [if_pos c11] at H
             have c11b0 : decide ((wrap64 (x23_1 + 1)) < (l1.length : Int)) = true := decide_eq_true c11
             clear c11
             obtain ⟨ji12, hji12⟩ : ∃ j_ : Int, (wrap64 (x23_1 + 1)) = j_ := ⟨_, rfl⟩
             replace H : (if 0 ≤ (ji12) then (if ((rd_L2 l1 x23_1).length : Int) = (l0_0.length : Int) then (if ((rd_L2 l1 (ji12)).length : Int) = (l0_0.length : Int) then ((impl_allWithin.f k1 (rd_L2 l1 x23_1) 0 120).bind fun t455 => (if t455 = true then ((impl_allWithin.f k1 (rd_L2 l1 (ji12)) 0 120).bind fun t456 => (if t456 = true then (impl_Chain_stocks.l1 k1 l1 x6_1 (rd_L2 l1 (ji12)) (([] : List Int)) 0 l1 (l1.length : Int) x23_1 (rd_L2 l1 x23_1) ((rd_L2 l1 x23_1).length : Int) 0 l0_0 l0_1 l0_2) else (some (([] : List (List Int)), false)))) else (some (([] : List (List Int)), false)))) else (some (([] : List (List Int)), false))) else (some (([] : List (List Int)), false))) else (none)) = some (r1, r2) := by first | (rw [hji12] at H; exact H) | (simp only [hji12] at H ⊢; exact H)
             (try rw [hji12] at c11b0)
             have hji12w : (IntKind.i64.wrap (x23_1 + 1)) = ji12 := (i64_w _).trans hji12
             by_cases c13 : 0 ≤ (ji12)
             · rw [if_pos c13] at H
               have c13b0 : decide (0 ≤ (ji12)) = true := decide_eq_true c13
               clear c13
               by_cases c14 : ((rd_L2 l1 x23_1).length : Int) = (l0_0.length : Int)
               · rw [if_pos c14] at H
                 have c14b0 : (((rd_L2 l1 x23_1).length : Int) == (l0_0.length : Int)) = true := beq_iff_eq.mpr c14
                 have c14b1 : (((rd_L2 l1 x23_1).length : Int) != (l0_0.length : Int)) = false := bne_eq_false_iff_eq.mpr c14
                 have c14b2 : ((rd_L2 l1 x23_1).length == l0_0.length) = true := by first | simpa using c14 | (simp at c14 ⊢; omega)
                 clear c14
                 by_cases c15 : ((rd_L2 l1 (ji12)).length : Int) = (l0_0.length : Int)
                 · rw [if_pos c15] at H
                   have c15b0 : (((rd_L2 l1 (ji12)).length : Int) == (l0_0.length : Int)) = true := beq_iff_eq.mpr c15
                   have c15b1 : (((rd_L2 l1 (ji12)).length : Int) != (l0_0.length : Int)) = false := bne_eq_false_iff_eq.mpr c15
                   have c15b2 : ((rd_L2 l1 (ji12)).length == l0_0.length) = true := by first | simpa using c15 | (simp at c15 ⊢; omega)
                   clear c15
                   replace H := Option.bind_eq_some_iff.mp H
                   obtain ⟨t455, A160, H⟩ := H
                   replace H : (if t455 = true then ((impl_allWithin.f k1 (rd_L2 l1 (ji12)) 0 120).bind fun t456 => (if t456 = true then (impl_Chain_stocks.l1 k1 l1 x6_1 (rd_L2 l1 (ji12)) (([] : List Int)) 0 l1 (l1.length : Int) x23_1 (rd_L2 l1 x23_1) ((rd_L2 l1 x23_1).length : Int) 0 l0_0 l0_1 l0_2) else (some (([] : List (List Int)), false)))) else (some (([] : List (List Int)), false))) = some (r1, r2) := H
                   have A16 := Aside0.mk A160
                   clear A160
                   by_cases c17 : t455 = true
                   · subst c17
                     have H1 : ((impl_allWithin.f k1 (rd_L2 l1 (ji12)) 0 120).bind fun t456 => (if t456 = true then (impl_Chain_stocks.l1 k1 l1 x6_1 (rd_L2 l1 (ji12)) (([] : List Int)) 0 l1 (l1.length : Int) x23_1 (rd_L2 l1 x23_1) ((rd_L2 l1 x23_1).length : Int) 0 l0_0 l0_1 l0_2) else (some (([] : List (List Int)), false)))) = some (r1, r2) := by rw [if_pos rfl] at H; exact H
                     clear H
                     have H := H1
                     clear H1
                     replace H := Option.bind_eq_some_iff.mp H
                     obtain ⟨t456, A180, H⟩ := H
                     replace H : (if t456 = true then (impl_Chain_stocks.l1 k1 l1 x6_1 (rd_L2 l1 (ji12)) (([] : List Int)) 0 l1 (l1.length : Int) x23_1 (rd_L2 l1 x23_1) ((rd_L2 l1 x23_1).length : Int) 0 l0_0 l0_1 l0_2) else (some (([] : List (List Int)), false))) = some (r1, r2) := H
                     have A18 := Aside0.mk A180
                     clear A180
                     by_cases c19 : t456 = true
                     · subst c19
                       have H1 : (impl_Chain_stocks.l1 k1 l1 x6_1 (rd_L2 l1 (ji12)) (([] : List Int)) 0 l1 (l1.length : Int) x23_1 (rd_L2 l1 x23_1) ((rd_L2 l1 x23_1).length : Int) 0 l0_0 l0_1 l0_2) = some (r1, r2) := by rw [if_pos rfl] at H; exact H
                       clear H
                       have H := H1
                       clear H1
                       obtain ⟨y457, hy457⟩ : ∃ y_ : List Int, y_ = (([] : List Int)) := ⟨_, rfl⟩
                       replace H : (impl_Chain_stocks.l1 k1 l1 x6_1 (rd_L2 l1 (ji12)) y457 0 l1 (l1.length : Int) x23_1 (rd_L2 l1 x23_1) ((rd_L2 l1 x23_1).length : Int) 0 l0_0 l0_1 l0_2) = some (r1, r2) := zY hy457
                       have Ny457 := Aside0.mk hy457
                       clear hy457
                       have H' := Aside0.mk H
                       clear H
                       have p453 : 0 ≤ (x23_1 : Int) := of_decide_eq_true z1
                       have q453 : x23_1 < (l1.length : Int) := of_decide_eq_true z1
                       obtain ⟨ad453, A453_0, c453_0, e453, hx453_0, hl453_0, hi453_0⟩ := at_L2 HR1.out x23_1 p453 q453
                       cases e453
                       replace hx453_0 := (HB.out.cell (World.block_lt_of_cell? w _ hx453_0)).trans hx453_0
                       have HR453_0 := Aside0.mk hi453_0
                       have HC453_0 := Aside0.mk hl453_0
                       clear hi453_0 hl453_0
                       replace p453 := eq_true p453
                       replace q453 := eq_true q453
                       obtain ⟨hcz20_0, hcz20_1, hcz20_2, hfz20_0, hfz20_1, hfz20_2⟩ := zc3 BK449.out
                       have p454 : 0 ≤ ((ji12) : Int) := of_decide_eq_true z1
                       have q454 : (ji12) < (l1.length : Int) := of_decide_eq_true z1
                       obtain ⟨ad454, A454_0, c454_0, e454, hx454_0, hl454_0, hi454_0⟩ := at_L2 HR1.out (ji12) p454 q454
                       obtain rfl : ad453 = ad454 := (by injection e454)
                       replace hx454_0 := (HB.out.cell (World.block_lt_of_cell? w _ hx454_0)).trans hx454_0
                       have HR454_0 := Aside0.mk hi454_0
                       have HC454_0 := Aside0.mk hl454_0
                       clear hi454_0 hl454_0
                       replace p454 := eq_true p454
                       replace q454 := eq_true q454
                       go_wp2_with (first | (go_at_call 69; (with_reducible refine (impl_allWithin.calls k1 _ _ (rd_L2 l1 x23_1) 0 120 true _ ?side1 ?side2 A16.out).mono ?_); (case side1 => exact zC (Kd.C_below HR453_0.out HB.out)); (case side2 => exact HC453_0.out); rintro e w' ⟨rfl, ⟨nd, rfl⟩⟩) | (go_at_call 69; (with_reducible refine (impl_allWithin.calls k1 _ _ (rd_L2 l1 (ji12)) 0 120 true _ ?side1 ?side2 A18.out).mono ?_); (case side1 => repeat (first | exact (Kd.C_below HR454_0.out (zH1 GE449.out)) | (with_reducible refine Kd.C_alloc ?_ _) | (with_reducible refine Kd.C_drewN ?_ _) | (with_reducible refine Kd.C_drew ?_))); (case side2 => exact HC454_0.out); rintro e w' ⟨rfl, ⟨nd, rfl⟩⟩) | ((with_reducible refine gate_dst (N := 64) rfl ?_); (try (refine gate_guard (by rfl) ?_; dsimp only)); refine Kd.R_lit (Kd.int .i64) _ 3 ?hg (N := 64) ?hd (xs := ([] : List Int)) (inner := []) (ok := fun _ => True) (okp := fun _ => True) ?hr ?hp (fun _ hk => hk) trivial (Below.refl _ _) (Nat.le_refl _) (by simp) ?_; (case hd => rfl); (case hg => rfl); (case hr => first | (go_simp; done) | (go_simp; rfl)); (case hp => exact (Reps.none _ _)); intro v458 w21 ho22 hb hg_ hnew_; clear hg_ hnew_; (first | rw [← Ny457.out] at ho22 | (simp only [Int.reduceToNat] at ho22; rw [← Ny457.out] at ho22)); have HO459 := Aside0.mk (Kd.R_lower ho22 (below_size (zH1 GE449.out))); replace HO_6 := zSe HO_6 (Kd.R_base ho22) hb; replace BK449 := zb BK449 hb; replace HB := zs1 GE449.out hb; clear hb ho22))
                       go_loopg [10, 11, 67] k1 (fun kq v10 v11 v67 w' => ∃ (x10_2 : List Int) (x11_2 : Int) (x67_2 : Int), v11 = .int .i64 x11_2 ∧ v67 = .int .i64 x67_2 ∧ Aside0 (impl_Chain_stocks.l1 kq l1 x6_1 (rd_L2 l1 (ji12)) x10_2 x11_2 l1 (l1.length : Int) x23_1 (rd_L2 l1 x23_1) ((rd_L2 l1 x23_1).length : Int) x67_2 l0_0 l0_1 l0_2 = some (r1, r2)) ∧ Aside0 (kq ≤ k1) ∧ Aside0 (Kd.S (Kd.slice 3 (Kd.int .i64)) 24 w' w.heap.size (fun k_ => some k_ ≠ (v10 : Value).ownBlock) u6 x6_1) ∧ Aside0 (Kd.R (Kd.int .i64) 3 w' w.heap.size (fun _ => True) v10 x10_2) ∧ Aside0 (w'.heap[gb449]? = some (.cells #[(.slice A0_0 l0_0.length c0_0), (.slice A0_1 l0_1.length c0_1), (.slice A0_2 l0_2.length c0_2)] 26 (0, 0))) ∧ Aside0 (Below w.heap.size w w'))
                       case atStart => exact ⟨(y457), (0), (0), z3, z3, H', ⟨Nat.le_refl _⟩, ⟨z35⟩, ⟨(zR HO459.out)⟩, ⟨(zB BK449.out)⟩, ⟨(zH1 GE449.out)⟩⟩
                       case round =>
                        clear H'
                        try clear c1
                        try clear p2
                        try clear c3
                        try clear c3b0
                        try clear c3b1
                        try clear c3b2
                        try clear c4
                        try clear p4
                        try clear q4
                        try clear hx4
                        try clear p6
                        try clear c8
                        try clear c8b0
                        try clear c9
                        try clear c9b0
                        try clear c10
                        try clear c10b0
                        try clear c11
                        try clear c11b0
                        try clear c13
                        try clear c13b0
                        try clear c14
                        try clear c14b0
                        try clear c14b1
                        try clear c14b2
                        try clear c15
                        try clear c15b0
                        try clear c15b1
                        try clear c15b2
                        try clear c17
                        try clear c19
                        try clear hcz20_0
                        try clear hcz20_1
                        try clear hcz20_2
                        try clear hcz5_0
                        try clear hcz5_1
                        try clear hcz5_2
                        try clear hfz20_0
                        try clear hfz20_1
                        try clear hfz20_2
                        try clear hfz5_0
                        try clear hfz5_1
                        try clear hfz5_2
                        try clear hx453_0
                        try clear hx454_0
                        try clear p2
                        try clear p453
                        try clear p454
                        try clear q453
                        try clear q454
                        obtain ⟨x10_2, x11_2, x67_2, rfl, rfl, HA, HK2, HO_6, HO_10, BK449, HB⟩ := hrel
                        cases gk with
                        | zero => exact absurd HA.out (by simp [impl_Chain_stocks.l1])
                        | succ k2 =>
                         have H := HA.out
                         clear HA
                         simp only [impl_Chain_stocks.l1] at H
                         by_cases c23 : x67_2 < ((rd_L2 l1 x23_1).length : Int)
                         · rw [if_pos c23] at H
                           have c23b0 : decide (x67_2 < ((rd_L2 l1 x23_1).length : Int)) = true := decide_eq_true c23
                           clear c23
                           by_cases c24 : 0 ≤ x67_2
                           · rw [if_pos c24] at H
                             have c24b0 : decide (0 ≤ x67_2) = true := decide_eq_true c24
                             clear c24
                             by_cases c25 : x67_2 < ((rd_L2 l1 x23_1).length : Int)
                             · rw [if_pos c25] at H
                               have c25b0 : decide (x67_2 < ((rd_L2 l1 x23_1).length : Int)) = true := decide_eq_true c25
                               clear c25
                               by_cases c26 : x67_2 < ((rd_L2 l1 (ji12)).length : Int)
                               · rw [if_pos c26] at H
                                 have c26b0 : decide (x67_2 < ((rd_L2 l1 (ji12)).length : Int)) = true := decide_eq_true c26
                                 clear c26
                                 by_cases c27 : (wrap64 (x11_2 + (wrap64 ((rd (rd_L2 l1 x23_1) x67_2) - (rd (rd_L2 l1 (ji12)) x67_2))))) < 0
                                 · rw [if_pos c27] at H
                                   have c27b0 : decide ((wrap64 (x11_2 + (wrap64 ((rd (rd_L2 l1 x23_1) x67_2) - (rd (rd_L2 l1 (ji12)) x67_2))))) < 0) = true := decide_eq_true c27
                                   clear c27
                                   simp only [Option.some.injEq, Prod.mk.injEq] at H
                                   obtain ⟨rfl, rfl⟩ := H
                                   have p460 : 0 ≤ (x67_2 : Int) := of_decide_eq_true z1
                                   have q460 : x67_2 < ((rd_L2 l1 x23_1).length : Int) := of_decide_eq_true z1
                                   obtain ⟨ad460, e460, hx460_0⟩ := Kd.at_int HR453_0.out x67_2 p460 q460
                                   cases e460
                                   replace hx460_0 := (HB.out.cell (World.block_lt_of_cell? w _ hx460_0)).trans hx460_0
                                   replace p460 := eq_true p460
                                   replace q460 := eq_true q460
                                   have p461 : 0 ≤ (x67_2 : Int) := of_decide_eq_true z1
                                   have q461 : x67_2 < ((rd_L2 l1 (ji12)).length : Int) := of_decide_eq_true z1
                                   obtain ⟨ad461, e461, hx461_0⟩ := Kd.at_int HR454_0.out x67_2 p461 q461
                                   cases e461
                                   replace hx461_0 := (HB.out.cell (World.block_lt_of_cell? w _ hx461_0)).trans hx461_0
                                   replace p461 := eq_true p461
                                   replace q461 := eq_true q461
                                   go_wp2
                                   go_ret2
                                   exact ⟨_, z20, z9, (zH1 GE449.out)⟩
                                 · rw [if_neg c27] at H
                                   have c27b0 : decide ((wrap64 (x11_2 + (wrap64 ((rd (rd_L2 l1 x23_1) x67_2) - (rd (rd_L2 l1 (ji12)) x67_2))))) < 0) = false := decide_eq_false c27
                                   clear c27
                                   by_cases c28 : x10_2.length < 17592186044416
                                   · rw [if_pos c28] at H
                                     have LMc28 := Aside0.mk c28
                                     clear c28
                                     obtain ⟨y462, hy462⟩ : ∃ y_ : List Int, y_ = (x10_2 ++ [wrap64 (x11_2 + (wrap64 ((rd (rd_L2 l1 x23_1) x67_2) - (rd (rd_L2 l1 (ji12)) x67_2))))]) := ⟨_, rfl⟩
                                     replace H : (impl_Chain_stocks.l1 k2 l1 x6_1 (rd_L2 l1 (ji12)) y462 (wrap64 (x11_2 + (wrap64 ((rd (rd_L2 l1 x23_1) x67_2) - (rd (rd_L2 l1 (ji12)) x67_2))))) l1 (l1.length : Int) x23_1 (rd_L2 l1 x23_1) ((rd_L2 l1 x23_1).length : Int) (wrap64 (x67_2 + 1)) l0_0 l0_1 l0_2) = some (r1, r2) := zY hy462
                                     have Ny462 := Aside0.mk hy462
                                     clear hy462
                                     have H' := Aside0.mk H
                                     clear H
                                     have p460 : 0 ≤ (x67_2 : Int) := of_decide_eq_true z1
                                     have q460 : x67_2 < ((rd_L2 l1 x23_1).length : Int) := of_decide_eq_true z1
                                     obtain ⟨ad460, e460, hx460_0⟩ := Kd.at_int HR453_0.out x67_2 p460 q460
                                     cases e460
                                     replace hx460_0 := (HB.out.cell (World.block_lt_of_cell? w _ hx460_0)).trans hx460_0
                                     replace p460 := eq_true p460
                                     replace q460 := eq_true q460
                                     have p461 : 0 ≤ (x67_2 : Int) := of_decide_eq_true z1
                                     have q461 : x67_2 < ((rd_L2 l1 (ji12)).length : Int) := of_decide_eq_true z1
                                     obtain ⟨ad461, e461, hx461_0⟩ := Kd.at_int HR454_0.out x67_2 p461 q461
                                     cases e461
                                     replace hx461_0 := (HB.out.cell (World.block_lt_of_cell? w _ hx461_0)).trans hx461_0
                                     replace p461 := eq_true p461
                                     replace q461 := eq_true q461
                                     go_wp2_with (first | ((with_reducible refine gate_builtin (b := .append) (xs := #[.tmp 82, .tmp 84]) rfl ?_); (try (refine gate_guard (by rfl) ?_; dsimp only)); at_builtin; refine Kd.R_append (Kd.int .i64) (w0 := w) w.heap.size rfl (.tmp 82) (.tmp 84) 24 3 (.int .i64 0) 8 rfl Try.underlying24 info3 rfl (by decide) (by omega) u10 x10_2 (wrap64 (x11_2 + (wrap64 ((rd (rd_L2 l1 x23_1) x67_2) - (rd (rd_L2 l1 (ji12)) x67_2))))) [.int .i64 (wrap64 (x11_2 + (wrap64 ((rd (rd_L2 l1 x23_1) x67_2) - (rd (rd_L2 l1 (ji12)) x67_2)))))] (fun _ => True) (fun _ => False) rfl rfl ?aP (fun _ hk => hk.elim) ?aF ?aO ?aB ?aS ?aL ?_; (case aP => exact rfl); (case aB => exact (zH1 GE449.out)); (case aF => exact (fun _ _ => trivial)); (case aO => exact (zR HO_10.out)); (case aS => exact (below_size (zH1 GE449.out))); (case aL => have := LMc28.out; omega); intro v463 w29 ho hb hg hat; rw [← Ny462.out] at ho; have HO464 := Aside0.mk (ho); replace HO_6 := Aside0.mk (Kd.S_after (ok := (fun _ => True)) (by (with_reducible repeat (first | apply Kd.S_alloc | apply Kd.S_drewN | apply Kd.S_drew)); exact Kd.S_mono HO_6.out (fun _ hk => ⟨trivial, hk⟩)) hg hat); replace BK449 := Aside0.mk (blk_grown (g := gb449) (o := .cells #[.slice A0_0 l0_0.length c0_0, .slice A0_1 l0_1.length c0_1, .slice A0_2 l0_2.length c0_2] 26 (0, 0)) (zB BK449.out) hg (Kd.R_ne HO_10.out BK449.out (by decide))); replace HB := Aside0.mk (hb); clear HO_10; clear ho hb hg hat))
                                     go_roundg k2
                                     case measure => have := HK1.out; have := HK2.out; omega
                                     case rel => exact ⟨(y462), (wrap64 (x11_2 + (wrap64 ((rd (rd_L2 l1 x23_1) x67_2) - (rd (rd_L2 l1 (ji12)) x67_2))))), (wrap64 (x67_2 + 1)), (by first | rfl | (simp; done) | (simp only [← hji12] <;> (first | rfl | simp)) | (simp [*]; done)), z3, H', ⟨z32⟩, ⟨z35⟩, ⟨(zR HO464.out)⟩, ⟨(zB BK449.out)⟩, ⟨(zH1 GE449.out)⟩⟩
                                   · rw [if_neg c28] at H
                                     exact absurd H (by simp)
                               · rw [if_neg c26] at H
                                 exact absurd H (by simp)
                             · rw [if_neg c25] at H
                               exact absurd H (by simp)
                           · rw [if_neg c24] at H
                             exact absurd H (by simp)
                         · rw [if_neg c23] at H
                           have c23b0 : decide (x67_2 < ((rd_L2 l1 x23_1).length : Int)) = false := decide_eq_false c23
                           clear c23
                           by_cases c30 : x11_2 = 0
                           · rw [if_pos c30] at H
                             have c30b0 : (x11_2 == 0) = true := beq_iff_eq.mpr c30
                             have c30b1 : (x11_2 != 0) = false := bne_eq_false_iff_eq.mpr c30
                             clear c30
                             by_cases c31 : x6_1.length < 5864062014805
                             · rw [if_pos c31] at H
                               have LMc31 := Aside0.mk c31
                               clear c31
                               obtain ⟨y465, hy465⟩ : ∃ y_ : List (List Int), y_ = (x6_1 ++ [x10_2]) := ⟨_, rfl⟩
                               replace H : (impl_Chain_stocks.l0 k2 l1 y465 l1 (l1.length : Int) (wrap64 (x23_1 + 1)) l0_0 l0_1 l0_2) = some (r1, r2) := zY hy465
                               have Ny465 := Aside0.mk hy465
                               clear hy465
                               have H' := Aside0.mk H
                               clear H
                               obtain ⟨Ao33, co33, eo33⟩ := Kd.R_slice HO_10.out
                               subst eo33
                               go_wp2_with (first | ((with_reducible refine gate_builtin (b := .append) (xs := #[.tmp 89, .tmp 91]) rfl ?_); (try (refine gate_guard (by rfl) ?_; dsimp only)); at_builtin; refine Kd.S_append (Kd.slice 3 (Kd.int .i64)) (w0 := w) w.heap.size rfl (.tmp 89) (.tmp 91) 27 24 (.slice none 0 0) 24 rfl Try.underlying27 info24 rfl (by decide) (by omega) u6 x6_1 x10_2 [.slice Ao33 x10_2.length co33] (fun _ => True) (fun k_ => some k_ = (.slice Ao33 x10_2.length co33 : Value).ownBlock) rfl rfl ?aP (fun k_ hk_ => ((Kd.R_mono (ok' := fun k_ => ((fun _ => True)) k_ ∧ some k_ ≠ (u6 : Value).ownBlock) (Kd.R_apart' (HO_10.out) (Kd.S_typed HO_6.out) (by decide)) (fun k_ hk => ⟨trivial, hk.2⟩))).1 k_ hk_.symm) ?aF ?aO ?aB ?aS ?aL ?_; (case aP => exact Kd.M_row (Kd.R_mono (Kd.R_tight rfl (Kd.R_mono (ok' := fun k_ => ((fun _ => True)) k_ ∧ some k_ ≠ (u6 : Value).ownBlock) (Kd.R_apart' (HO_10.out) (Kd.S_typed HO_6.out) (by decide)) (fun k_ hk => ⟨trivial, hk.2⟩))) (fun _ h_ => h_))); (case aB => exact (zH1 GE449.out)); (case aF => exact (fun _ _ => trivial)); (case aO => exact (by (with_reducible repeat (first | apply Kd.S_alloc | apply Kd.S_drewN | apply Kd.S_drew)); exact Kd.S_mono HO_6.out (fun k_ hk => ⟨trivial, fun e_ => hk e_⟩))); (case aS => exact (below_size (zH1 GE449.out))); (case aL => have := LMc31.out; omega); intro v466 w32 ho hb hg hat; rw [← Ny465.out] at ho; have HO467 := Aside0.mk (ho); replace BK449 := Aside0.mk (blk_grown (g := gb449) (o := .cells #[.slice A0_0 l0_0.length c0_0, .slice A0_1 l0_1.length c0_1, .slice A0_2 l0_2.length c0_2] 26 (0, 0)) (zB BK449.out) hg (Kd.S_ne HO_6.out BK449.out (by decide))); replace HB := Aside0.mk (hb); clear HO_6 HO_10; clear ho hb hg hat))
                               go_roundg k2
                               case measure => have := HK1.out; have := HK2.out; omega
                               case rel => exact ⟨(y465), (wrap64 (x23_1 + 1)), z3, H', ⟨z32⟩, ⟨(zS HO467.out)⟩, ⟨(zB BK449.out)⟩, ⟨(zH1 GE449.out)⟩⟩
                             · rw [if_neg c31] at H
                               exact absurd H (by simp)
                           · rw [if_neg c30] at H
                             have c30b0 : (x11_2 == 0) = false := beq_eq_false_iff_ne.mpr c30
                             have c30b1 : (x11_2 != 0) = true := bne_iff_ne.mpr c30
                             simp only [Option.some.injEq, Prod.mk.injEq] at H
                             obtain ⟨rfl, rfl⟩ := H
                             go_wp2
                             go_ret2
                             exact ⟨_, z20, z9, (zH1 GE449.out)⟩
                     · replace c19 := Bool.eq_false_iff.mpr c19
                       subst c19
                       have H1 : (some (([] : List (List Int)), false)) = some (r1, r2) := by rw [if_neg (show ¬ (false = true) by decide)] at H; exact H
                       clear H
                       have H := H1
                       clear H1
                       simp only [Option.some.injEq, Prod.mk.injEq] at H
                       obtain ⟨rfl, rfl⟩ := H
                       have p453 : 0 ≤ (x23_1 : Int) := of_decide_eq_true z1
                       have q453 : x23_1 < (l1.length : Int) := of_decide_eq_true z1
                       obtain ⟨ad453, A453_0, c453_0, e453, hx453_0, hl453_0, hi453_0⟩ := at_L2 HR1.out x23_1 p453 q453
                       cases e453
                       replace hx453_0 := (HB.out.cell (World.block_lt_of_cell? w _ hx453_0)).trans hx453_0
                       have HR453_0 := Aside0.mk hi453_0
                       have HC453_0 := Aside0.mk hl453_0
                       clear hi453_0 hl453_0
                       replace p453 := eq_true p453
                       replace q453 := eq_true q453
                       obtain ⟨hcz34_0, hcz34_1, hcz34_2, hfz34_0, hfz34_1, hfz34_2⟩ := zc3 BK449.out
                       have p454 : 0 ≤ ((ji12) : Int) := of_decide_eq_true z1
                       have q454 : (ji12) < (l1.length : Int) := of_decide_eq_true z1
                       obtain ⟨ad454, A454_0, c454_0, e454, hx454_0, hl454_0, hi454_0⟩ := at_L2 HR1.out (ji12) p454 q454
                       obtain rfl : ad453 = ad454 := (by injection e454)
                       replace hx454_0 := (HB.out.cell (World.block_lt_of_cell? w _ hx454_0)).trans hx454_0
                       have HR454_0 := Aside0.mk hi454_0
                       have HC454_0 := Aside0.mk hl454_0
                       clear hi454_0 hl454_0
                       replace p454 := eq_true p454
                       replace q454 := eq_true q454
                       go_wp2_with (first | (go_at_call 69; (with_reducible refine (impl_allWithin.calls k1 _ _ (rd_L2 l1 x23_1) 0 120 true _ ?side1 ?side2 A16.out).mono ?_); (case side1 => exact zC (Kd.C_below HR453_0.out HB.out)); (case side2 => exact HC453_0.out); rintro e w' ⟨rfl, ⟨nd, rfl⟩⟩) | (go_at_call 69; (with_reducible refine (impl_allWithin.calls k1 _ _ (rd_L2 l1 (ji12)) 0 120 false _ ?side1 ?side2 A18.out).mono ?_); (case side1 => repeat (first | exact (Kd.C_below HR454_0.out (zH1 GE449.out)) | (with_reducible refine Kd.C_alloc ?_ _) | (with_reducible refine Kd.C_drewN ?_ _) | (with_reducible refine Kd.C_drew ?_))); (case side2 => exact HC454_0.out); rintro e w' ⟨rfl, ⟨nd, rfl⟩⟩))
                       go_ret2
                       exact ⟨_, z20, z9, (zH1 GE449.out)⟩
                   · replace c17 := Bool.eq_false_iff.mpr c17
                     subst c17
                     have H1 : (some (([] : List (List Int)), false)) = some (r1, r2) := by rw [if_neg (show ¬ (false = true) by decide)] at H; exact H
                     clear H
                     have H := H1
                     clear H1
                     simp only [Option.some.injEq, Prod.mk.injEq] at H
                     obtain ⟨rfl, rfl⟩ := H
                     have p453 : 0 ≤ (x23_1 : Int) := of_decide_eq_true z1
                     have q453 : x23_1 < (l1.length : Int) := of_decide_eq_true z1
                     obtain ⟨ad453, A453_0, c453_0, e453, hx453_0, hl453_0, hi453_0⟩ := at_L2 HR1.out x23_1 p453 q453
                     cases e453
                     replace hx453_0 := (HB.out.cell (World.block_lt_of_cell? w _ hx453_0)).trans hx453_0
                     have HR453_0 := Aside0.mk hi453_0
                     have HC453_0 := Aside0.mk hl453_0
                     clear hi453_0 hl453_0
                     replace p453 := eq_true p453
                     replace q453 := eq_true q453
                     obtain ⟨hcz35_0, hcz35_1, hcz35_2, hfz35_0, hfz35_1, hfz35_2⟩ := zc3 BK449.out
                     have p454 : 0 ≤ ((ji12) : Int) := of_decide_eq_true z1
                     have q454 : (ji12) < (l1.length : Int) := of_decide_eq_true z1
                     obtain ⟨ad454, A454_0, c454_0, e454, hx454_0, hl454_0, hi454_0⟩ := at_L2 HR1.out (ji12) p454 q454
                     obtain rfl : ad453 = ad454 := (by injection e454)
                     replace hx454_0 := (HB.out.cell (World.block_lt_of_cell? w _ hx454_0)).trans hx454_0
                     have HR454_0 := Aside0.mk hi454_0
                     have HC454_0 := Aside0.mk hl454_0
                     clear hi454_0 hl454_0
                     replace p454 := eq_true p454
                     replace q454 := eq_true q454
                     go_wp2_with (first | (go_at_call 69; (with_reducible refine (impl_allWithin.calls k1 _ _ (rd_L2 l1 x23_1) 0 120 false _ ?side1 ?side2 A16.out).mono ?_); (case side1 => exact zC (Kd.C_below HR453_0.out HB.out)); (case side2 => exact HC453_0.out); rintro e w' ⟨rfl, ⟨nd, rfl⟩⟩))
                     go_ret2
                     exact ⟨_, z20, z9, (zH1 GE449.out)⟩
                 · rw [if_neg c15] at H
                   have c15b0 : (((rd_L2 l1 (ji12)).length : Int) == (l0_0.length : Int)) = false := beq_eq_false_iff_ne.mpr c15
                   have c15b1 : (((rd_L2 l1 (ji12)).length : Int) != (l0_0.length : Int)) = true := bne_iff_ne.mpr c15
                   have c15b2 : ((rd_L2 l1 (ji12)).length == l0_0.length) = false := by first | simpa using c15 | (simp at c15 ⊢; omega)
                   simp only [Option.some.injEq, Prod.mk.injEq] at H
                   obtain ⟨rfl, rfl⟩ := H
                   have p453 : 0 ≤ (x23_1 : Int) := of_decide_eq_true z1
                   have q453 : x23_1 < (l1.length : Int) := of_decide_eq_true z1
                   obtain ⟨ad453, A453_0, c453_0, e453, hx453_0, hl453_0, hi453_0⟩ := at_L2 HR1.out x23_1 p453 q453
                   cases e453
                   replace hx453_0 := (HB.out.cell (World.block_lt_of_cell? w _ hx453_0)).trans hx453_0
                   have HR453_0 := Aside0.mk hi453_0
                   have HC453_0 := Aside0.mk hl453_0
                   clear hi453_0 hl453_0
                   replace p453 := eq_true p453
                   replace q453 := eq_true q453
                   obtain ⟨hcz36_0, hcz36_1, hcz36_2, hfz36_0, hfz36_1, hfz36_2⟩ := zc3 BK449.out
                   have p454 : 0 ≤ ((ji12) : Int) := of_decide_eq_true z1
                   have q454 : (ji12) < (l1.length : Int) := of_decide_eq_true z1
                   obtain ⟨ad454, A454_0, c454_0, e454, hx454_0, hl454_0, hi454_0⟩ := at_L2 HR1.out (ji12) p454 q454
                   obtain rfl : ad453 = ad454 := (by injection e454)
                   replace hx454_0 := (HB.out.cell (World.block_lt_of_cell? w _ hx454_0)).trans hx454_0
                   have HR454_0 := Aside0.mk hi454_0
                   have HC454_0 := Aside0.mk hl454_0
                   clear hi454_0 hl454_0
                   replace p454 := eq_true p454
                   replace q454 := eq_true q454
                   go_wp2
                   go_ret2
                   exact ⟨_, z20, z9, (zH1 GE449.out)⟩
               · rw [if_neg c14] at H
                 have c14b0 : (((rd_L2 l1 x23_1).length : Int) == (l0_0.length : Int)) = false := beq_eq_false_iff_ne.mpr c14
                 have c14b1 : (((rd_L2 l1 x23_1).length : Int) != (l0_0.length : Int)) = true := bne_iff_ne.mpr c14
                 have c14b2 : ((rd_L2 l1 x23_1).length == l0_0.length) = false := by first | simpa using c14 | (simp at c14 ⊢; omega)
                 simp only [Option.some.injEq, Prod.mk.injEq] at H
                 obtain ⟨rfl, rfl⟩ := H
                 have p453 : 0 ≤ (x23_1 : Int) := of_decide_eq_true z1
                 have q453 : x23_1 < (l1.length : Int) := of_decide_eq_true z1
                 obtain ⟨ad453, A453_0, c453_0, e453, hx453_0, hl453_0, hi453_0⟩ := at_L2 HR1.out x23_1 p453 q453
                 cases e453
                 replace hx453_0 := (HB.out.cell (World.block_lt_of_cell? w _ hx453_0)).trans hx453_0
                 have HR453_0 := Aside0.mk hi453_0
                 have HC453_0 := Aside0.mk hl453_0
                 clear hi453_0 hl453_0
                 replace p453 := eq_true p453
                 replace q453 := eq_true q453
                 obtain ⟨hcz37_0, hcz37_1, hcz37_2, hfz37_0, hfz37_1, hfz37_2⟩ := zc3 BK449.out
                 have p454 : 0 ≤ ((ji12) : Int) := of_decide_eq_true z1
                 have q454 : (ji12) < (l1.length : Int) := of_decide_eq_true z1
                 obtain ⟨ad454, A454_0, c454_0, e454, hx454_0, hl454_0, hi454_0⟩ := at_L2 HR1.out (ji12) p454 q454
                 obtain rfl : ad453 = ad454 := (by injection e454)
                 replace hx454_0 := (HB.out.cell (World.block_lt_of_cell? w _ hx454_0)).trans hx454_0
                 have HR454_0 := Aside0.mk hi454_0
                 have HC454_0 := Aside0.mk hl454_0
                 clear hi454_0 hl454_0
                 replace p454 := eq_true p454
                 replace q454 := eq_true q454
                 go_wp2
                 go_ret2
                 exact ⟨_, z20, z9, (zH1 GE449.out)⟩
             · rw [if_neg c13] at H
               exact absurd H (by simp)
           · rw [if_neg c11] at H
             have c11b0 : decide ((wrap64 (x23_1 + 1)) < (l1.length : Int)) = false := decide_eq_false c11
             clear c11
             by_cases c38 : ((rd_L2 l1 x23_1).length : Int) = (l0_0.length : Int)
             · rw [if_pos c38] at H
               have c38b0 : (((rd_L2 l1 x23_1).length : Int) == (l0_0.length : Int)) = true := beq_iff_eq.mpr c38
               have c38b1 : (((rd_L2 l1 x23_1).length : Int) != (l0_0.length : Int)) = false := bne_eq_false_iff_eq.mpr c38
               have c38b2 : ((rd_L2 l1 x23_1).length == l0_0.length) = true := by first | simpa using c38 | (simp at c38 ⊢; omega)
               clear c38
               replace H := Option.bind_eq_some_iff.mp H
               obtain ⟨t468, A390, H⟩ := H
               replace H : (if t468 = true then ((impl_allWithin.f k1 l0_0 0 120).bind fun t469 => (if t469 = true then (impl_Chain_stocks.l101 k1 l1 x6_1 l0_0 (([] : List Int)) 0 l1 (l1.length : Int) x23_1 (rd_L2 l1 x23_1) ((rd_L2 l1 x23_1).length : Int) 0 l0_0 l0_1 l0_2) else (some (([] : List (List Int)), false)))) else (some (([] : List (List Int)), false))) = some (r1, r2) := H
               have A39 := Aside0.mk A390
               clear A390
               by_cases c40 : t468 = true
               · subst c40
                 have H1 : ((impl_allWithin.f k1 l0_0 0 120).bind fun t469 => (if t469 = true then (impl_Chain_stocks.l101 k1 l1 x6_1 l0_0 (([] : List Int)) 0 l1 (l1.length : Int) x23_1 (rd_L2 l1 x23_1) ((rd_L2 l1 x23_1).length : Int) 0 l0_0 l0_1 l0_2) else (some (([] : List (List Int)), false)))) = some (r1, r2) := by rw [if_pos rfl] at H; exact H
                 clear H
                 have H := H1
                 clear H1
                 replace H := Option.bind_eq_some_iff.mp H
                 obtain ⟨t469, A410, H⟩ := H
                 replace H : (if t469 = true then (impl_Chain_stocks.l101 k1 l1 x6_1 l0_0 (([] : List Int)) 0 l1 (l1.length : Int) x23_1 (rd_L2 l1 x23_1) ((rd_L2 l1 x23_1).length : Int) 0 l0_0 l0_1 l0_2) else (some (([] : List (List Int)), false))) = some (r1, r2) := H
                 have A41 := Aside0.mk A410
                 clear A410
                 by_cases c42 : t469 = true
                 · subst c42
                   have H1 : (impl_Chain_stocks.l101 k1 l1 x6_1 l0_0 (([] : List Int)) 0 l1 (l1.length : Int) x23_1 (rd_L2 l1 x23_1) ((rd_L2 l1 x23_1).length : Int) 0 l0_0 l0_1 l0_2) = some (r1, r2) := by rw [if_pos rfl] at H; exact H
                   clear H
                   have H := H1
                   clear H1
                   obtain ⟨y470, hy470⟩ : ∃ y_ : List Int, y_ = (([] : List Int)) := ⟨_, rfl⟩
                   replace H : (impl_Chain_stocks.l101 k1 l1 x6_1 l0_0 y470 0 l1 (l1.length : Int) x23_1 (rd_L2 l1 x23_1) ((rd_L2 l1 x23_1).length : Int) 0 l0_0 l0_1 l0_2) = some (r1, r2) := zY hy470
                   have Ny470 := Aside0.mk hy470
                   clear hy470
                   have H' := Aside0.mk H
                   clear H
                   have p453 : 0 ≤ (x23_1 : Int) := of_decide_eq_true z1
                   have q453 : x23_1 < (l1.length : Int) := of_decide_eq_true z1
                   obtain ⟨ad453, A453_0, c453_0, e453, hx453_0, hl453_0, hi453_0⟩ := at_L2 HR1.out x23_1 p453 q453
                   cases e453
                   replace hx453_0 := (HB.out.cell (World.block_lt_of_cell? w _ hx453_0)).trans hx453_0
                   have HR453_0 := Aside0.mk hi453_0
                   have HC453_0 := Aside0.mk hl453_0
                   clear hi453_0 hl453_0
                   replace p453 := eq_true p453
                   replace q453 := eq_true q453
                   obtain ⟨hcz43_0, hcz43_1, hcz43_2, hfz43_0, hfz43_1, hfz43_2⟩ := zc3 BK449.out
                   go_wp2_with (first | (go_at_call 69; (with_reducible refine (impl_allWithin.calls k1 _ _ (rd_L2 l1 x23_1) 0 120 true _ ?side1 ?side2 A39.out).mono ?_); (case side1 => exact zC (Kd.C_below HR453_0.out HB.out)); (case side2 => exact HC453_0.out); rintro e w' ⟨rfl, ⟨nd, rfl⟩⟩) | (go_at_call 69; (with_reducible refine (impl_allWithin.calls k1 _ _ l0_0 0 120 true _ ?side1 ?side2 A41.out).mono ?_); (case side1 => repeat (first | exact (Kd.C_below HR0_0.out (zH1 GE449.out)) | (with_reducible refine Kd.C_alloc ?_ _) | (with_reducible refine Kd.C_drewN ?_ _) | (with_reducible refine Kd.C_drew ?_))); (case side2 => exact HC0_0.out); rintro e w' ⟨rfl, ⟨nd, rfl⟩⟩) | ((with_reducible refine gate_dst (N := 64) rfl ?_); (try (refine gate_guard (by rfl) ?_; dsimp only)); refine Kd.R_lit (Kd.int .i64) _ 3 ?hg (N := 64) ?hd (xs := ([] : List Int)) (inner := []) (ok := fun _ => True) (okp := fun _ => True) ?hr ?hp (fun _ hk => hk) trivial (Below.refl _ _) (Nat.le_refl _) (by simp) ?_; (case hd => rfl); (case hg => rfl); (case hr => first | (go_simp; done) | (go_simp; rfl)); (case hp => exact (Reps.none _ _)); intro v471 w44 ho45 hb hg_ hnew_; clear hg_ hnew_; (first | rw [← Ny470.out] at ho45 | (simp only [Int.reduceToNat] at ho45; rw [← Ny470.out] at ho45)); have HO472 := Aside0.mk (Kd.R_lower ho45 (below_size (zH1 GE449.out))); replace HO_6 := zSe HO_6 (Kd.R_base ho45) hb; replace BK449 := zb BK449 hb; replace HB := zs1 GE449.out hb; clear hb ho45))
                   go_loopg [10, 11, 67] k1 (fun kq v10 v11 v67 w' => ∃ (x10_2 : List Int) (x11_2 : Int) (x67_2 : Int), v11 = .int .i64 x11_2 ∧ v67 = .int .i64 x67_2 ∧ Aside0 (impl_Chain_stocks.l101 kq l1 x6_1 l0_0 x10_2 x11_2 l1 (l1.length : Int) x23_1 (rd_L2 l1 x23_1) ((rd_L2 l1 x23_1).length : Int) x67_2 l0_0 l0_1 l0_2 = some (r1, r2)) ∧ Aside0 (kq ≤ k1) ∧ Aside0 (Kd.S (Kd.slice 3 (Kd.int .i64)) 24 w' w.heap.size (fun k_ => some k_ ≠ (v10 : Value).ownBlock) u6 x6_1) ∧ Aside0 (Kd.R (Kd.int .i64) 3 w' w.heap.size (fun _ => True) v10 x10_2) ∧ Aside0 (w'.heap[gb449]? = some (.cells #[(.slice A0_0 l0_0.length c0_0), (.slice A0_1 l0_1.length c0_1), (.slice A0_2 l0_2.length c0_2)] 26 (0, 0))) ∧ Aside0 (Below w.heap.size w w'))
                   case atStart => exact ⟨(y470), (0), (0), z3, z3, H', ⟨Nat.le_refl _⟩, ⟨z35⟩, ⟨(zR HO472.out)⟩, ⟨(zB BK449.out)⟩, ⟨(zH1 GE449.out)⟩⟩
                   case round =>
                    clear H'
                    try clear c1
                    try clear c2
                    try clear p2
                    try clear c3
                    try clear c3b0
                    try clear c3b1
                    try clear c3b2
                    try clear c4
                    try clear p4
                    try clear q4
                    try clear hx4
                    try clear p6
                    try clear c8
                    try clear c8b0
                    try clear c9
                    try clear c9b0
                    try clear c10
                    try clear c10b0
                    try clear c11
                    try clear c11b0
                    try clear c13
                    try clear c13b0
                    try clear c14
                    try clear c14b0
                    try clear c14b1
                    try clear c14b2
                    try clear c15
                    try clear c15b0
                    try clear c15b1
                    try clear c15b2
                    try clear c17
                    try clear c19
                    try clear c23
                    try clear c23b0
                    try clear c24
                    try clear c24b0
                    try clear c25
                    try clear c25b0
                    try clear c26
                    try clear c26b0
                    try clear c27
                    try clear c27b0
                    try clear c28
                    try clear c30
                    try clear c30b0
                    try clear c30b1
                    try clear c31
                    try clear c38
                    try clear c38b0
                    try clear c38b1
                    try clear c38b2
                    try clear c40
                    try clear c42
                    try clear c45
                    try clear p45
                    try clear q45
                    try clear hx45
                    try clear hcz20_0
                    try clear hcz20_1
                    try clear hcz20_2
                    try clear hcz34_0
                    try clear hcz34_1
                    try clear hcz34_2
                    try clear hcz35_0
                    try clear hcz35_1
                    try clear hcz35_2
                    try clear hcz36_0
                    try clear hcz36_1
                    try clear hcz36_2
                    try clear hcz37_0
                    try clear hcz37_1
                    try clear hcz37_2
                    try clear hcz43_0
                    try clear hcz43_1
                    try clear hcz43_2
                    try clear hcz5_0
                    try clear hcz5_1
                    try clear hcz5_2
                    try clear hfz20_0
                    try clear hfz20_1
                    try clear hfz20_2
                    try clear hfz34_0
                    try clear hfz34_1
                    try clear hfz34_2
                    try clear hfz35_0
                    try clear hfz35_1
                    try clear hfz35_2
                    try clear hfz36_0
                    try clear hfz36_1
                    try clear hfz36_2
                    try clear hfz37_0
                    try clear hfz37_1
                    try clear hfz37_2
                    try clear hfz43_0
                    try clear hfz43_1
                    try clear hfz43_2
                    try clear hfz5_0
                    try clear hfz5_1
                    try clear hfz5_2
                    try clear hx453_0
                    try clear hx454_0
                    try clear hx460_0
                    try clear hx461_0
                    try clear p2
                    try clear p4
                    try clear p453
                    try clear p454
                    try clear p460
                    try clear p461
                    try clear p6
                    try clear q4
                    try clear q453
                    try clear q454
                    try clear q460
                    try clear q461
                    obtain ⟨x10_2, x11_2, x67_2, rfl, rfl, HA, HK2, HO_6, HO_10, BK449, HB⟩ := hrel
                    cases gk with
                    | zero => exact absurd HA.out (by simp [impl_Chain_stocks.l101])
                    | succ k2 =>
                     have H := HA.out
                     clear HA
                     simp only [impl_Chain_stocks.l101] at H
                     by_cases c46 : x67_2 < ((rd_L2 l1 x23_1).length : Int)
                     · rw [if_pos c46] at H
                       have c46b0 : decide (x67_2 < ((rd_L2 l1 x23_1).length : Int)) = true := decide_eq_true c46
                       clear c46
                       by_cases c47 : 0 ≤ x67_2
                       · rw [if_pos c47] at H
                         have c47b0 : decide (0 ≤ x67_2) = true := decide_eq_true c47
                         clear c47
                         by_cases c48 : x67_2 < ((rd_L2 l1 x23_1).length : Int)
                         · rw [if_pos c48] at H
                           have c48b0 : decide (x67_2 < ((rd_L2 l1 x23_1).length : Int)) = true := decide_eq_true c48
                           clear c48
                           by_cases c49 : x67_2 < (l0_0.length : Int)
                           · rw [if_pos c49] at H
                             have c49b0 : decide (x67_2 < (l0_0.length : Int)) = true := decide_eq_true c49
                             clear c49
                             by_cases c50 : (wrap64 (x11_2 + (wrap64 ((rd (rd_L2 l1 x23_1) x67_2) - (rd l0_0 x67_2))))) < 0
                             · rw [if_pos c50] at H
                               have c50b0 : decide ((wrap64 (x11_2 + (wrap64 ((rd (rd_L2 l1 x23_1) x67_2) - (rd l0_0 x67_2))))) < 0) = true := decide_eq_true c50
                               clear c50
                               simp only [Option.some.injEq, Prod.mk.injEq] at H
                               obtain ⟨rfl, rfl⟩ := H
                               have p473 : 0 ≤ (x67_2 : Int) := of_decide_eq_true z1
                               have q473 : x67_2 < ((rd_L2 l1 x23_1).length : Int) := of_decide_eq_true z1
                               obtain ⟨ad473, e473, hx473_0⟩ := Kd.at_int HR453_0.out x67_2 p473 q473
                               cases e473
                               replace hx473_0 := (HB.out.cell (World.block_lt_of_cell? w _ hx473_0)).trans hx473_0
                               replace p473 := eq_true p473
                               replace q473 := eq_true q473
                               have p474 : 0 ≤ (x67_2 : Int) := of_decide_eq_true z1
                               have q474 : x67_2 < (l0_0.length : Int) := of_decide_eq_true z1
                               obtain ⟨ad474, e474, hx474_0⟩ := Kd.at_int HR0_0.out x67_2 p474 q474
                               cases e474
                               replace hx474_0 := (HB.out.cell (World.block_lt_of_cell? w _ hx474_0)).trans hx474_0
                               replace p474 := eq_true p474
                               replace q474 := eq_true q474
                               go_wp2
                               go_ret2
                               exact ⟨_, z5, z9, (zH1 GE449.out)⟩
                             · rw [if_neg c50] at H
                               have c50b0 : decide ((wrap64 (x11_2 + (wrap64 ((rd (rd_L2 l1 x23_1) x67_2) - (rd l0_0 x67_2))))) < 0) = false := decide_eq_false c50
                               clear c50
                               by_cases c51 : x10_2.length < 17592186044416
                               · rw [if_pos c51] at H
                                 have LMc51 := Aside0.mk c51
                                 clear c51
                                 obtain ⟨y475, hy475⟩ : ∃ y_ : List Int, y_ = (x10_2 ++ [wrap64 (x11_2 + (wrap64 ((rd (rd_L2 l1 x23_1) x67_2) - (rd l0_0 x67_2))))]) := ⟨_, rfl⟩
                                 replace H : (impl_Chain_stocks.l101 k2 l1 x6_1 l0_0 y475 (wrap64 (x11_2 + (wrap64 ((rd (rd_L2 l1 x23_1) x67_2) - (rd l0_0 x67_2))))) l1 (l1.length : Int) x23_1 (rd_L2 l1 x23_1) ((rd_L2 l1 x23_1).length : Int) (wrap64 (x67_2 + 1)) l0_0 l0_1 l0_2) = some (r1, r2) := zY hy475
                                 have Ny475 := Aside0.mk hy475
                                 clear hy475
                                 have H' := Aside0.mk H
                                 clear H
                                 have p473 : 0 ≤ (x67_2 : Int) := of_decide_eq_true z1
                                 have q473 : x67_2 < ((rd_L2 l1 x23_1).length : Int) := of_decide_eq_true z1
                                 obtain ⟨ad473, e473, hx473_0⟩ := Kd.at_int HR453_0.out x67_2 p473 q473
                                 cases e473
                                 replace hx473_0 := (HB.out.cell (World.block_lt_of_cell? w _ hx473_0)).trans hx473_0
                                 replace p473 := eq_true p473
                                 replace q473 := eq_true q473
                                 have p474 : 0 ≤ (x67_2 : Int) := of_decide_eq_true z1
                                 have q474 : x67_2 < (l0_0.length : Int) := of_decide_eq_true z1
                                 obtain ⟨ad474, e474, hx474_0⟩ := Kd.at_int HR0_0.out x67_2 p474 q474
                                 cases e474
                                 replace hx474_0 := (HB.out.cell (World.block_lt_of_cell? w _ hx474_0)).trans hx474_0
                                 replace p474 := eq_true p474
                                 replace q474 := eq_true q474
                                 go_wp2_with (first | ((with_reducible refine gate_builtin (b := .append) (xs := #[.tmp 82, .tmp 84]) rfl ?_); (try (refine gate_guard (by rfl) ?_; dsimp only)); at_builtin; refine Kd.R_append (Kd.int .i64) (w0 := w) w.heap.size rfl (.tmp 82) (.tmp 84) 24 3 (.int .i64 0) 8 rfl Try.underlying24 info3 rfl (by decide) (by omega) u10 x10_2 (wrap64 (x11_2 + (wrap64 ((rd (rd_L2 l1 x23_1) x67_2) - (rd l0_0 x67_2))))) [.int .i64 (wrap64 (x11_2 + (wrap64 ((rd (rd_L2 l1 x23_1) x67_2) - (rd l0_0 x67_2)))))] (fun _ => True) (fun _ => False) rfl rfl ?aP (fun _ hk => hk.elim) ?aF ?aO ?aB ?aS ?aL ?_; (case aP => exact rfl); (case aB => exact (zH1 GE449.out)); (case aF => exact (fun _ _ => trivial)); (case aO => exact (zR HO_10.out)); (case aS => exact (below_size (zH1 GE449.out))); (case aL => have := LMc51.out; omega); intro v476 w52 ho hb hg hat; rw [← Ny475.out] at ho; have HO477 := Aside0.mk (ho); replace HO_6 := Aside0.mk (Kd.S_after (ok := (fun _ => True)) (by (with_reducible repeat (first | apply Kd.S_alloc | apply Kd.S_drewN | apply Kd.S_drew)); exact Kd.S_mono HO_6.out (fun _ hk => ⟨trivial, hk⟩)) hg hat); replace BK449 := Aside0.mk (blk_grown (g := gb449) (o := .cells #[.slice (some ad474) l0_0.length c0_0, .slice A0_1 l0_1.length c0_1, .slice A0_2 l0_2.length c0_2] 26 (0, 0)) (zB BK449.out) hg (Kd.R_ne HO_10.out BK449.out (by decide))); replace HB := Aside0.mk (hb); clear HO_10; clear ho hb hg hat))
                                 go_roundg k2
                                 case measure => have := HK1.out; have := HK2.out; omega
                                 case rel => exact ⟨(y475), (wrap64 (x11_2 + (wrap64 ((rd (rd_L2 l1 x23_1) x67_2) - (rd l0_0 x67_2))))), (wrap64 (x67_2 + 1)), z3, z3, H', ⟨z32⟩, ⟨z35⟩, ⟨(zR HO477.out)⟩, ⟨(zB BK449.out)⟩, ⟨(zH1 GE449.out)⟩⟩
                               · rw [if_neg c51] at H
                                 exact absurd H (by simp)
                           · rw [if_neg c49] at H
                             exact absurd H (by simp)
                         · rw [if_neg c48] at H
                           exact absurd H (by simp)
                       · rw [if_neg c47] at H
                         exact absurd H (by simp)
                     · rw [if_neg c46] at H
                       have c46b0 : decide (x67_2 < ((rd_L2 l1 x23_1).length : Int)) = false := decide_eq_false c46
                       clear c46
                       by_cases c53 : x11_2 = 0
                       · rw [if_pos c53] at H
                         have c53b0 : (x11_2 == 0) = true := beq_iff_eq.mpr c53
                         have c53b1 : (x11_2 != 0) = false := bne_eq_false_iff_eq.mpr c53
                         clear c53
                         by_cases c54 : x6_1.length < 5864062014805
                         · rw [if_pos c54] at H
                           have LMc54 := Aside0.mk c54
                           clear c54
                           obtain ⟨y478, hy478⟩ : ∃ y_ : List (List Int), y_ = (x6_1 ++ [x10_2]) := ⟨_, rfl⟩
                           replace H : (impl_Chain_stocks.l0 k2 l1 y478 l1 (l1.length : Int) (wrap64 (x23_1 + 1)) l0_0 l0_1 l0_2) = some (r1, r2) := zY hy478
                           have Ny478 := Aside0.mk hy478
                           clear hy478
                           have H' := Aside0.mk H
                           clear H
                           obtain ⟨Ao56, co56, eo56⟩ := Kd.R_slice HO_10.out
                           subst eo56
                           go_wp2_with (first | ((with_reducible refine gate_builtin (b := .append) (xs := #[.tmp 89, .tmp 91]) rfl ?_); (try (refine gate_guard (by rfl) ?_; dsimp only)); at_builtin; refine Kd.S_append (Kd.slice 3 (Kd.int .i64)) (w0 := w) w.heap.size rfl (.tmp 89) (.tmp 91) 27 24 (.slice none 0 0) 24 rfl Try.underlying27 info24 rfl (by decide) (by omega) u6 x6_1 x10_2 [.slice Ao56 x10_2.length co56] (fun _ => True) (fun k_ => some k_ = (.slice Ao56 x10_2.length co56 : Value).ownBlock) rfl rfl ?aP (fun k_ hk_ => ((Kd.R_mono (ok' := fun k_ => ((fun _ => True)) k_ ∧ some k_ ≠ (u6 : Value).ownBlock) (Kd.R_apart' (HO_10.out) (Kd.S_typed HO_6.out) (by decide)) (fun k_ hk => ⟨trivial, hk.2⟩))).1 k_ hk_.symm) ?aF ?aO ?aB ?aS ?aL ?_; (case aP => exact Kd.M_row (Kd.R_mono (Kd.R_tight rfl (Kd.R_mono (ok' := fun k_ => ((fun _ => True)) k_ ∧ some k_ ≠ (u6 : Value).ownBlock) (Kd.R_apart' (HO_10.out) (Kd.S_typed HO_6.out) (by decide)) (fun k_ hk => ⟨trivial, hk.2⟩))) (fun _ h_ => h_))); (case aB => exact (zH1 GE449.out)); (case aF => exact (fun _ _ => trivial)); (case aO => exact (by (with_reducible repeat (first | apply Kd.S_alloc | apply Kd.S_drewN | apply Kd.S_drew)); exact Kd.S_mono HO_6.out (fun k_ hk => ⟨trivial, fun e_ => hk e_⟩))); (case aS => exact (below_size (zH1 GE449.out))); (case aL => have := LMc54.out; omega); intro v479 w55 ho hb hg hat; rw [← Ny478.out] at ho; have HO480 := Aside0.mk (ho); replace BK449 := Aside0.mk (blk_grown (g := gb449) (o := .cells #[.slice A0_0 l0_0.length c0_0, .slice A0_1 l0_1.length c0_1, .slice A0_2 l0_2.length c0_2] 26 (0, 0)) (zB BK449.out) hg (Kd.S_ne HO_6.out BK449.out (by decide))); replace HB := Aside0.mk (hb); clear HO_6 HO_10; clear ho hb hg hat))
                           go_roundg k2
                           case measure => have := HK1.out; have := HK2.out; omega
                           case rel => exact ⟨(y478), (wrap64 (x23_1 + 1)), z3, H', ⟨z32⟩, ⟨(zS HO480.out)⟩, ⟨(zB BK449.out)⟩, ⟨(zH1 GE449.out)⟩⟩
                         · rw [if_neg c54] at H
                           exact absurd H (by simp)
                       · rw [if_neg c53] at H
                         have c53b0 : (x11_2 == 0) = false := beq_eq_false_iff_ne.mpr c53
                         have c53b1 : (x11_2 != 0) = true := bne_iff_ne.mpr c53
                         simp only [Option.some.injEq, Prod.mk.injEq] at H
                         obtain ⟨rfl, rfl⟩ := H
                         go_wp2
                         go_ret2
                         exact ⟨_, z5, z9, (zH1 GE449.out)⟩
                 · replace c42 := Bool.eq_false_iff.mpr c42
                   subst c42
                   have H1 : (some (([] : List (List Int)), false)) = some (r1, r2) := by rw [if_neg (show ¬ (false = true) by decide)] at H; exact H
                   clear H
                   have H := H1
                   clear H1
                   simp only [Option.some.injEq, Prod.mk.injEq] at H
                   obtain ⟨rfl, rfl⟩ := H
                   have p453 : 0 ≤ (x23_1 : Int) := of_decide_eq_true z1
                   have q453 : x23_1 < (l1.length : Int) := of_decide_eq_true z1
                   obtain ⟨ad453, A453_0, c453_0, e453, hx453_0, hl453_0, hi453_0⟩ := at_L2 HR1.out x23_1 p453 q453
                   cases e453
                   replace hx453_0 := (HB.out.cell (World.block_lt_of_cell? w _ hx453_0)).trans hx453_0
                   have HR453_0 := Aside0.mk hi453_0
                   have HC453_0 := Aside0.mk hl453_0
                   clear hi453_0 hl453_0
                   replace p453 := eq_true p453
                   replace q453 := eq_true q453
                   obtain ⟨hcz57_0, hcz57_1, hcz57_2, hfz57_0, hfz57_1, hfz57_2⟩ := zc3 BK449.out
                   go_wp2_with (first | (go_at_call 69; (with_reducible refine (impl_allWithin.calls k1 _ _ (rd_L2 l1 x23_1) 0 120 true _ ?side1 ?side2 A39.out).mono ?_); (case side1 => exact zC (Kd.C_below HR453_0.out HB.out)); (case side2 => exact HC453_0.out); rintro e w' ⟨rfl, ⟨nd, rfl⟩⟩) | (go_at_call 69; (with_reducible refine (impl_allWithin.calls k1 _ _ l0_0 0 120 false _ ?side1 ?side2 A41.out).mono ?_); (case side1 => repeat (first | exact (Kd.C_below HR0_0.out (zH1 GE449.out)) | (with_reducible refine Kd.C_alloc ?_ _) | (with_reducible refine Kd.C_drewN ?_ _) | (with_reducible refine Kd.C_drew ?_))); (case side2 => exact HC0_0.out); rintro e w' ⟨rfl, ⟨nd, rfl⟩⟩))
                   go_ret2
                   exact ⟨_, z5, z9, (zH1 GE449.out)⟩
               · replace c40 := Bool.eq_false_iff.mpr c40
                 subst c40
                 have H1 : (some (([] : List (List Int)), false)) = some (r1, r2) := by rw [if_neg (show ¬ (false = true) by decide)] at H; exact H
                 clear H
                 have H := H1
                 clear H1
                 simp only [Option.some.injEq, Prod.mk.injEq] at H
                 obtain ⟨rfl, rfl⟩ := H
                 have p453 : 0 ≤ (x23_1 : Int) := of_decide_eq_true z1
                 have q453 : x23_1 < (l1.length : Int) := of_decide_eq_true z1
                 obtain ⟨ad453, A453_0, c453_0, e453, hx453_0, hl453_0, hi453_0⟩ := at_L2 HR1.out x23_1 p453 q453
                 cases e453
                 replace hx453_0 := (HB.out.cell (World.block_lt_of_cell? w _ hx453_0)).trans hx453_0
                 have HR453_0 := Aside0.mk hi453_0
                 have HC453_0 := Aside0.mk hl453_0
                 clear hi453_0 hl453_0
                 replace p453 := eq_true p453
                 replace q453 := eq_true q453
                 obtain ⟨hcz58_0, hcz58_1, hcz58_2, hfz58_0, hfz58_1, hfz58_2⟩ := zc3 BK449.out
                 go_wp2_with (first | (go_at_call 69; (with_reducible refine (impl_allWithin.calls k1 _ _ (rd_L2 l1 x23_1) 0 120 false _ ?side1 ?side2 A39.out).mono ?_); (case side1 => exact zC (Kd.C_below HR453_0.out HB.out)); (case side2 => exact HC453_0.out); rintro e w' ⟨rfl, ⟨nd, rfl⟩⟩))
                 go_ret2
                 exact ⟨_, z5, z9, (zH1 GE449.out)⟩
             · rw [if_neg c38] at H
               have c38b0 : (((rd_L2 l1 x23_1).length : Int) == (l0_0.length : Int)) = false := beq_eq_false_iff_ne.mpr c38
               have c38b1 : (((rd_L2 l1 x23_1).length : Int) != (l0_0.length : Int)) = true := bne_iff_ne.mpr c38
               have c38b2 : ((rd_L2 l1 x23_1).length == l0_0.length) = false := by first | simpa using c38 | (simp at c38 ⊢; omega)
               simp only [Option.some.injEq, Prod.mk.injEq] at H
               obtain ⟨rfl, rfl⟩ := H
               have p453 : 0 ≤ (x23_1 : Int) := of_decide_eq_true z1
               have q453 : x23_1 < (l1.length : Int) := of_decide_eq_true z1
               obtain ⟨ad453, A453_0, c453_0, e453, hx453_0, hl453_0, hi453_0⟩ := at_L2 HR1.out x23_1 p453 q453
               cases e453
               replace hx453_0 := (HB.out.cell (World.block_lt_of_cell? w _ hx453_0)).trans hx453_0
               have HR453_0 := Aside0.mk hi453_0
               have HC453_0 := Aside0.mk hl453_0
               clear hi453_0 hl453_0
               replace p453 := eq_true p453
               replace q453 := eq_true q453
               obtain ⟨hcz59_0, hcz59_1, hcz59_2, hfz59_0, hfz59_1, hfz59_2⟩ := zc3 BK449.out
               go_wp2
               go_ret2
               exact ⟨_, z5, z9, (zH1 GE449.out)⟩
         · rw [if_neg c10] at H
           exact absurd H (by simp)
       · rw [if_neg c9] at H
         exact absurd H (by simp)
     · rw [if_neg c8] at H
       have c8b0 : decide (x23_1 < (l1.length : Int)) = false := decide_eq_false c8
       clear c8
       simp only [Option.some.injEq, Prod.mk.injEq] at H
       obtain ⟨rfl, rfl⟩ := H
       go_wp2
       go_ret2
       exact ⟨_, z5, (zS HO_6.out), (zH1 GE449.out)⟩
 · rw [if_neg c3] at H
   have c3b0 : ((l1.length : Int) == (l0_1.length : Int)) = false := beq_eq_false_iff_ne.mpr c3
   have c3b1 : ((l1.length : Int) != (l0_1.length : Int)) = true := bne_iff_ne.mpr c3
   have c3b2 : (l1.length == l0_1.length) = false := by first | simpa using c3 | (simp at c3 ⊢; omega)
   simp only [Option.some.injEq, Prod.mk.injEq] at H
   obtain ⟨rfl, rfl⟩ := H
   go_enter Try.func103, Try.ntmps103
   go_wp2_with (first | ((with_reducible refine gate_dst (N := 2) rfl ?_); (try (refine gate_guard (by rfl) ?_; dsimp only)); refine box_event ?hg (N := 2) ?hd (cs := #[.slice A0_0 l0_0.length c0_0, .slice A0_1 l0_1.length c0_1, .slice A0_2 l0_2.length c0_2]) (t := 26) ?hr ?_; (case hd => rfl); (case hg => rfl); (case hr => first | (go_simp; done) | (go_simp; rfl)); intro gb449 hg w60 hbox hb; have BK449 := Aside0.mk (hbox); have GW449 := Aside0.mk ((z6 : w.heap.size ≤ gb449)); have GE449 := Aside0.mk ((z6 : w.heap.size ≤ gb449)); replace HB := zs0 hb; clear hb hbox hg; obtain ⟨hcz61_0, hcz61_1, hcz61_2, hfz61_0, hfz61_1, hfz61_2⟩ := zc3 BK449.out))
   go_ret2
   exact ⟨_, z5, z9, (zH1 GE449.out)⟩
def impl_Chain_nested.l0 : Nat → List (List Int) → List (List Int) → Int → Int → List Int → List Int → List Int → Option ((List (List Int)) × Bool)
 | 0, _, _, _, _, _, _, _ => none
 | k + 1, x6, x12, x13, x14, x341000, x341001, x341002 => if x14 < x13 then (if 0 ≤ x14 then (if x14 < (x12.length : Int) then ((impl_evenCase.f k x341000 0 0).bind fun bt345 => ((impl_Case_planFrom.f k bt345.1 bt345.2.1 bt345.2.2.1 bt345.2.2.2 (rd_L2 x12 x14)).bind fun bt357 => (if bt357.2 = true then (if x6.length < 5864062014805 then (impl_Chain_nested.l0 k (x6 ++ [bt357.1]) x12 x13 (wrap64 (x14 + 1)) x341000 x341001 x341002) else (none)) else (some (([] : List (List Int)), false))))) else (none)) else (none)) else (some (x6, true))
def impl_Chain_nested.f (k : Nat) (l0_0 : List Int) (l0_1 : List Int) (l0_2 : List Int) (l1 : List (List Int)) : Option ((List (List Int)) × Bool) := impl_Chain_nested.l0 k (([] : List (List Int))) l1 (l1.length : Int) 0 l0_0 l0_1 l0_2
set_option maxHeartbeats 8000000 in
set_option maxRecDepth 100000 in
theorem impl_Chain_nested.calls (k : Nat) (A0_0 : Option Addr) (c0_0 : Nat) (l0_0 : List Int) (A0_1 : Option Addr) (c0_1 : Nat) (l0_1 : List Int) (A0_2 : Option Addr) (c0_2 : Nat) (l0_2 : List Int) (A1 : Option Addr) (c1 : Nat) (l1 : List (List Int)) (r1 : List (List Int)) (r2 : Bool) (w : World) (hr0_0 : Kd.C (Kd.int .i64) w A0_0 l0_0.length l0_0) (hc0_0 : l0_0.length ≤ c0_0) (hr0_1 : Kd.C (Kd.int .i64) w A0_1 l0_1.length l0_1) (hc0_1 : l0_1.length ≤ c0_1) (hr0_2 : Kd.C (Kd.int .i64) w A0_2 l0_2.length l0_2) (hc0_2 : l0_2.length ≤ c0_2) (hr1 : Kd.C (Kd.slice 3 (Kd.int .i64)) w A1 l1.length l1) (hc1 : l1.length ≤ c1) (h : impl_Chain_nested.f k l0_0 l0_1 l0_2 l1 = some (r1, r2)) :
 Calls Try.prog 60 #[.agg #[.slice A0_0 l0_0.length c0_0, .slice A0_1 l0_1.length c0_1, .slice A0_2 l0_2.length c0_2], .slice A1 l1.length c1] w fun e w' => ∃ v0_ : Value, e = .returned (.tuple #[v0_, .bool r2]) ∧ Kd.S (Kd.slice 3 (Kd.int .i64)) 24 w' w.heap.size (fun _ => True) v0_ r1 ∧ Below w.heap.size w w' := by
 have hu26 := Try.underlying26
 have HR0_0 := Aside0.mk hr0_0
 have HC0_0 := Aside0.mk hc0_0
 clear hr0_0 hc0_0
 have HR0_1 := Aside0.mk hr0_1
 have HC0_1 := Aside0.mk hc0_1
 clear hr0_1 hc0_1
 have HR0_2 := Aside0.mk hr0_2
 have HC0_2 := Aside0.mk hc0_2
 clear hr0_2 hc0_2
 have HR1 := Aside0.mk hr1
 have HC1 := Aside0.mk hc1
 clear hr1 hc1
 have HB := Aside0.mk (Below.refl w.heap.size w)
 have H : (impl_Chain_nested.l0 k (([] : List (List Int))) l1 (l1.length : Int) 0 l0_0 l0_1 l0_2) = some (r1, r2) := h
 clear h
 obtain ⟨y341, hy341⟩ : ∃ y_ : List (List Int), y_ = (([] : List (List Int))) := ⟨_, rfl⟩
 replace H : (impl_Chain_nested.l0 k y341 l1 (l1.length : Int) 0 l0_0 l0_1 l0_2) = some (r1, r2) := zY hy341
 have Ny341 := Aside0.mk hy341
 clear hy341
 have H' := Aside0.mk H
 clear H
 go_enter Try.func60, Try.ntmps60
 go_wp2_with (first | ((with_reducible refine gate_dst (N := 2) rfl ?_); refine box_event ?hg (N := 2) ?hd (cs := #[.slice A0_0 l0_0.length c0_0, .slice A0_1 l0_1.length c0_1, .slice A0_2 l0_2.length c0_2]) (t := 26) ?hr ?_; (case hd => rfl); (case hg => rfl); (case hr => first | (go_simp; done) | (go_simp; rfl)); intro gb340 hg w3 hbox hb; have BK340 := Aside0.mk (hbox); have GW340 := Aside0.mk ((z6 : w.heap.size ≤ gb340)); have GE340 := Aside0.mk ((z6 : w.heap.size ≤ gb340)); replace HB := zs0 hb; clear hb hbox hg) | ((with_reducible refine gate_dst (N := 11) rfl ?_); refine Kd.S_lit (Kd.slice 3 (Kd.int .i64)) _ 24 ?hg (N := 11) ?hd (xs := ([] : List (List Int))) (inner := []) (ok := fun _ => True) (okp := fun _ => True) ?hr ?hp (fun _ hk => hk) trivial (Below.refl _ _) (Nat.le_refl _) (by simp) ?_; (case hd => rfl); (case hg => rfl); (case hr => first | (go_simp; done) | (go_simp; rfl)); (case hp => exact (Reps.none _ _)); intro v342 w4 ho5 hb hg_ hnew_; clear hg_ hnew_; (first | rw [← Ny341.out] at ho5 | (simp only [Int.reduceToNat] at ho5; rw [← Ny341.out] at ho5)); have HO343 := Aside0.mk (Kd.S_lower ho5 (below_size (zH1 GE340.out))); replace BK340 := zb BK340 hb; replace HB := zs1 GE340.out hb; clear hb ho5))
 go_loopg [6, 14] k (fun kq v6 v14 w' => ∃ (x6_1 : List (List Int)) (x14_1 : Int), v14 = .int .i64 x14_1 ∧ Aside0 (impl_Chain_nested.l0 kq x6_1 l1 (l1.length : Int) x14_1 l0_0 l0_1 l0_2 = some (r1, r2)) ∧ Aside0 (kq ≤ k) ∧ Aside0 (Kd.S (Kd.slice 3 (Kd.int .i64)) 24 w' w.heap.size (fun _ => True) v6 x6_1) ∧ Aside0 (w'.heap[gb340]? = some (.cells #[(.slice A0_0 l0_0.length c0_0), (.slice A0_1 l0_1.length c0_1), (.slice A0_2 l0_2.length c0_2)] 26 (0, 0))) ∧ Aside0 (Below w.heap.size w w'))
 case atStart => exact ⟨(y341), (0), z3, H', ⟨Nat.le_refl _⟩, ⟨(zS HO343.out)⟩, ⟨(zB BK340.out)⟩, ⟨(zH1 GE340.out)⟩⟩
 case round =>
  clear H'
  try clear c1
  try clear p2
  obtain ⟨x6_1, x14_1, rfl, HA, HK1, HO_6, BK340, HB⟩ := hrel
  cases gk with
  | zero => exact absurd HA.out (by simp [impl_Chain_nested.l0])
  | succ k1 =>
   have H := HA.out
   clear HA
   simp only [impl_Chain_nested.l0] at H
   by_cases c6 : x14_1 < (l1.length : Int)
   · rw [if_pos c6] at H
     have c6b0 : decide (x14_1 < (l1.length : Int)) = true := decide_eq_true c6
     clear c6
     by_cases c7 : 0 ≤ x14_1
     · rw [if_pos c7] at H
       have c7b0 : decide (0 ≤ x14_1) = true := decide_eq_true c7
       clear c7
       by_cases c8 : x14_1 < (l1.length : Int)
       · rw [if_pos c8] at H
         have c8b0 : decide (x14_1 < (l1.length : Int)) = true := decide_eq_true c8
         clear c8
         replace H := Option.bind_eq_some_iff.mp H
         obtain ⟨⟨t345, t348, t351, t354⟩, A90, H⟩ := H
         replace H : ((impl_Case_planFrom.f k1 t345 t348 t351 t354 (rd_L2 l1 x14_1)).bind fun bt357 => (if bt357.2 = true then (if x6_1.length < 5864062014805 then (impl_Chain_nested.l0 k1 (x6_1 ++ [bt357.1]) l1 (l1.length : Int) (wrap64 (x14_1 + 1)) l0_0 l0_1 l0_2) else (none)) else (some (([] : List (List Int)), false)))) = some (r1, r2) := H
         have A9 := Aside0.mk A90
         clear A90
         replace H := Option.bind_eq_some_iff.mp H
         obtain ⟨⟨t357, t360⟩, A100, H⟩ := H
         replace H : (if t360 = true then (if x6_1.length < 5864062014805 then (impl_Chain_nested.l0 k1 (x6_1 ++ [t357]) l1 (l1.length : Int) (wrap64 (x14_1 + 1)) l0_0 l0_1 l0_2) else (none)) else (some (([] : List (List Int)), false))) = some (r1, r2) := H
         have A10 := Aside0.mk A100
         clear A100
         by_cases c11 : t360 = true
         · subst c11
           have H1 : (if x6_1.length < 5864062014805 then (impl_Chain_nested.l0 k1 (x6_1 ++ [t357]) l1 (l1.length : Int) (wrap64 (x14_1 + 1)) l0_0 l0_1 l0_2) else (none)) = some (r1, r2) := by rw [if_pos rfl] at H; exact H
           clear H
           have H := H1
           clear H1
           by_cases c12 : x6_1.length < 5864062014805
           · rw [if_pos c12] at H
             have LMc12 := Aside0.mk c12
             clear c12
             obtain ⟨y361, hy361⟩ : ∃ y_ : List (List Int), y_ = (x6_1 ++ [t357]) := ⟨_, rfl⟩
             replace H : (impl_Chain_nested.l0 k1 y361 l1 (l1.length : Int) (wrap64 (x14_1 + 1)) l0_0 l0_1 l0_2) = some (r1, r2) := zY hy361
             have Ny361 := Aside0.mk hy361
             clear hy361
             have H' := Aside0.mk H
             clear H
             have p344 : 0 ≤ (x14_1 : Int) := of_decide_eq_true z1
             have q344 : x14_1 < (l1.length : Int) := of_decide_eq_true z1
             obtain ⟨ad344, A344_0, c344_0, e344, hx344_0, hl344_0, hi344_0⟩ := at_L2 HR1.out x14_1 p344 q344
             cases e344
             replace hx344_0 := (HB.out.cell (World.block_lt_of_cell? w _ hx344_0)).trans hx344_0
             have HR344_0 := Aside0.mk hi344_0
             have HC344_0 := Aside0.mk hl344_0
             clear hi344_0 hl344_0
             replace p344 := eq_true p344
             replace q344 := eq_true q344
             obtain ⟨hcz13_0, hcz13_1, hcz13_2, hfz13_0, hfz13_1, hfz13_2⟩ := zc3 BK340.out
             go_wp2_with (first | ((with_reducible refine gate_callee (f := 57) rfl ?_); refine goesL_ (some 21) rfl rfl Try.func57 (by kernel_rfl) rfl #[.slice A0_0 l0_0.length c0_0, .int .i64 0, .int .i64 0] rfl z2 ?_; (with_reducible refine (impl_evenCase.calls k1 _ _ l0_0 0 0 t345 t348 t351 t354 _ ?side1 ?side2 A9.out).mono ?_); (case side1 => exact zC (Kd.C_below HR0_0.out HB.out)); (case side2 => exact HC0_0.out); rintro e w14 ⟨v346, v349, v352, v355, rfl, ho0, ho1, ho2, ho3, hb⟩; refine ⟨_, rfl, ?_⟩; have HO347 := Aside0.mk (Kd.R_lower ho0 (below_size (zH1 GE340.out))); have HO350 := Aside0.mk (Kd.R_lower ho1 (below_size (zH1 GE340.out))); have HO353 := Aside0.mk (Kd.R_lower ho2 (below_size (zH1 GE340.out))); have HO356 := Aside0.mk (Kd.R_lower ho3 (below_size (zH1 GE340.out))); replace HO_6 := Aside0.mk (Kd.S_mono (Kd.S_told (Kd.S_told (Kd.S_told (Kd.S_told (Kd.S_old (zS HO_6.out) hb) (Kd.R_base ho0)) (Kd.R_base ho1)) (Kd.R_base ho2)) (Kd.R_base ho3)) (fun _ h_ => h_.1)); replace BK340 := zb BK340 hb; replace HB := zs1 GE340.out hb; (try clear hb); (try clear hb2); (try clear hk); (try clear hi); (try clear ho0); (try clear ho1); (try clear ho2); (try clear ho3); obtain ⟨Ao15, co15, eo15⟩ := Kd.R_slice HO347.out; subst eo15; obtain ⟨Ao16, co16, eo16⟩ := Kd.R_slice HO350.out; subst eo16; obtain ⟨Ao17, co17, eo17⟩ := Kd.R_slice HO353.out; subst eo17; obtain ⟨Ao18, co18, eo18⟩ := Kd.R_slice HO356.out; subst eo18) | ((with_reducible refine gate_callee (f := 71) rfl ?_); refine goesL_ (some 23) rfl rfl Try.func71 (by kernel_rfl) rfl #[.agg #[.slice Ao15 t345.length co15, .slice Ao16 t348.length co16, .slice Ao17 t351.length co17, .slice Ao18 t354.length co18], .slice A344_0 (rd_L2 l1 x14_1).length c344_0] rfl z2 ?_; (with_reducible refine (impl_Case_planFrom.calls k1 _ _ t345 _ _ t348 _ _ t351 _ _ t354 _ _ (rd_L2 l1 x14_1) t357 true _ ?side1 ?side2 ?side3 ?side4 ?side5 ?side6 ?side7 ?side8 ?side9 ?side10 A10.out).mono ?_); (case side1 => exact zC (Kd.R_reads' HO347.out).2.2); (case side2 => exact (Kd.R_reads' HO347.out).2.1); (case side3 => exact zC (Kd.R_reads' HO350.out).2.2); (case side4 => exact (Kd.R_reads' HO350.out).2.1); (case side5 => exact zC (Kd.R_reads' HO353.out).2.2); (case side6 => exact (Kd.R_reads' HO353.out).2.1); (case side7 => exact zC (Kd.R_reads' HO356.out).2.2); (case side8 => exact (Kd.R_reads' HO356.out).2.1); (case side9 => exact zC (Kd.C_below HR344_0.out HB.out)); (case side10 => exact HC344_0.out); rintro e w19 ⟨v358, rfl, ho0, hb⟩; refine ⟨_, rfl, ?_⟩; have HO359 := Aside0.mk (Kd.R_lower (Kd.R_new' (Kd.R_new' (Kd.R_new' (Kd.R_new' ho0 (Kd.R_lt (zR HO347.out))) (Kd.R_lt (zR HO350.out))) (Kd.R_lt (zR HO353.out))) (Kd.R_lt (zR HO356.out))) (below_size (zH1 GE340.out))); replace HO_6 := zSe HO_6 (Kd.R_base ho0) hb; replace HO347 := zRe HO347 (Kd.R_base ho0) hb; replace HO350 := zRe HO350 (Kd.R_base ho0) hb; replace HO353 := zRe HO353 (Kd.R_base ho0) hb; replace HO356 := zRe HO356 (Kd.R_base ho0) hb; replace BK340 := zb BK340 hb; replace HB := zs1 GE340.out hb; (try clear hb); (try clear hb2); (try clear hk); (try clear hi); (try clear ho0); obtain ⟨Ao21, co21, eo21⟩ := Kd.R_slice HO359.out; subst eo21) | ((with_reducible refine gate_builtin (b := .append) (xs := #[.tmp 28, .tmp 30]) rfl ?_); at_builtin; refine Kd.S_append (Kd.slice 3 (Kd.int .i64)) (w0 := w) w.heap.size rfl (.tmp 28) (.tmp 30) 27 24 (.slice none 0 0) 24 rfl Try.underlying27 info24 rfl (by decide) (by omega) u6 x6_1 t357 [.slice Ao21 t357.length co21] (fun k_ => some k_ ≠ (.slice Ao15 t345.length co15 : Value).ownBlock ∧ some k_ ≠ (.slice Ao16 t348.length co16 : Value).ownBlock ∧ some k_ ≠ (.slice Ao17 t351.length co17 : Value).ownBlock ∧ some k_ ≠ (.slice Ao18 t354.length co18 : Value).ownBlock) (fun k_ => some k_ = (.slice Ao21 t357.length co21 : Value).ownBlock) rfl rfl ?aP (fun k_ hk_ => ((Kd.R_mono (ok' := fun k_ => ((fun k_ => some k_ ≠ (.slice Ao15 t345.length co15 : Value).ownBlock ∧ some k_ ≠ (.slice Ao16 t348.length co16 : Value).ownBlock ∧ some k_ ≠ (.slice Ao17 t351.length co17 : Value).ownBlock ∧ some k_ ≠ (.slice Ao18 t354.length co18 : Value).ownBlock)) k_ ∧ some k_ ≠ (u6 : Value).ownBlock) (Kd.R_apart' (HO359.out) (Kd.S_typed HO_6.out) (by decide)) (fun k_ hk => ⟨⟨hk.1.1.1.1.2, ⟨hk.1.1.1.2, ⟨hk.1.1.2, hk.1.2⟩⟩⟩, hk.2⟩))).1 k_ hk_.symm) ?aF ?aO ?aB ?aS ?aL ?_; (case aP => exact Kd.M_row (Kd.R_mono (Kd.R_tight rfl (Kd.R_mono (ok' := fun k_ => ((fun k_ => some k_ ≠ (.slice Ao15 t345.length co15 : Value).ownBlock ∧ some k_ ≠ (.slice Ao16 t348.length co16 : Value).ownBlock ∧ some k_ ≠ (.slice Ao17 t351.length co17 : Value).ownBlock ∧ some k_ ≠ (.slice Ao18 t354.length co18 : Value).ownBlock)) k_ ∧ some k_ ≠ (u6 : Value).ownBlock) (Kd.R_apart' (HO359.out) (Kd.S_typed HO_6.out) (by decide)) (fun k_ hk => ⟨⟨hk.1.1.1.1.2, ⟨hk.1.1.1.2, ⟨hk.1.1.2, hk.1.2⟩⟩⟩, hk.2⟩))) (fun _ h_ => h_))); (case aB => exact (zH1 GE340.out)); (case aF => exact (fun k_ hk => ⟨Kd.fresh' (Kd.R_lt (zR HO347.out)) k_ hk, Kd.fresh' (Kd.R_lt (zR HO350.out)) k_ hk, Kd.fresh' (Kd.R_lt (zR HO353.out)) k_ hk, Kd.fresh' (Kd.R_lt (zR HO356.out)) k_ hk⟩)); (case aO => exact (by (with_reducible repeat (first | apply Kd.S_alloc | apply Kd.S_drewN | apply Kd.S_drew)); exact Kd.S_mono HO_6.out (fun k_ hk => ⟨⟨hk.1.1.1.1.2, ⟨hk.1.1.1.2, ⟨hk.1.1.2, hk.1.2⟩⟩⟩, fun e_ => hk.2 e_⟩))); (case aS => exact (below_size (zH1 GE340.out))); (case aL => have := LMc12.out; omega); intro v362 w20 ho hb hg hat; rw [← Ny361.out] at ho; have HO363 := Aside0.mk (ho); replace BK340 := Aside0.mk (blk_grown (g := gb340) (o := .cells #[.slice A0_0 l0_0.length c0_0, .slice A0_1 l0_1.length c0_1, .slice A0_2 l0_2.length c0_2] 26 (0, 0)) (zB BK340.out) hg (Kd.S_ne HO_6.out BK340.out (by decide))); replace HO347 := Aside0.mk (Kd.R_over' (zR HO347.out) (Kd.S_typed (zS HO_6.out)) (by decide) hg); replace HO350 := Aside0.mk (Kd.R_over' (zR HO350.out) (Kd.S_typed (zS HO_6.out)) (by decide) hg); replace HO353 := Aside0.mk (Kd.R_over' (zR HO353.out) (Kd.S_typed (zS HO_6.out)) (by decide) hg); replace HO356 := Aside0.mk (Kd.R_over' (zR HO356.out) (Kd.S_typed (zS HO_6.out)) (by decide) hg); replace HB := Aside0.mk (hb); clear HO_6 HO359; clear ho hb hg hat))
             go_roundg k1
             case measure => have := HK1.out; omega
             case rel => exact ⟨(y361), (wrap64 (x14_1 + 1)), z3, H', ⟨z21⟩, ⟨(by (with_reducible repeat (first | apply Kd.S_alloc | apply Kd.S_drewN | apply Kd.S_drew)); exact Kd.S_mono HO363.out (fun _ hk => trivial))⟩, ⟨(zB BK340.out)⟩, ⟨(zH1 GE340.out)⟩⟩
           · rw [if_neg c12] at H
             exact absurd H (by simp)
         · replace c11 := Bool.eq_false_iff.mpr c11
           subst c11
           have H1 : (some (([] : List (List Int)), false)) = some (r1, r2) := by rw [if_neg (show ¬ (false = true) by decide)] at H; exact H
           clear H
           have H := H1
           clear H1
           simp only [Option.some.injEq, Prod.mk.injEq] at H
           obtain ⟨rfl, rfl⟩ := H
           have p344 : 0 ≤ (x14_1 : Int) := of_decide_eq_true z1
           have q344 : x14_1 < (l1.length : Int) := of_decide_eq_true z1
           obtain ⟨ad344, A344_0, c344_0, e344, hx344_0, hl344_0, hi344_0⟩ := at_L2 HR1.out x14_1 p344 q344
           cases e344
           replace hx344_0 := (HB.out.cell (World.block_lt_of_cell? w _ hx344_0)).trans hx344_0
           have HR344_0 := Aside0.mk hi344_0
           have HC344_0 := Aside0.mk hl344_0
           clear hi344_0 hl344_0
           replace p344 := eq_true p344
           replace q344 := eq_true q344
           obtain ⟨hcz22_0, hcz22_1, hcz22_2, hfz22_0, hfz22_1, hfz22_2⟩ := zc3 BK340.out
           go_wp2_with (first | ((with_reducible refine gate_callee (f := 57) rfl ?_); refine goesL_ (some 21) rfl rfl Try.func57 (by kernel_rfl) rfl #[.slice A0_0 l0_0.length c0_0, .int .i64 0, .int .i64 0] rfl z2 ?_; (with_reducible refine (impl_evenCase.calls k1 _ _ l0_0 0 0 t345 t348 t351 t354 _ ?side1 ?side2 A9.out).mono ?_); (case side1 => exact zC (Kd.C_below HR0_0.out HB.out)); (case side2 => exact HC0_0.out); rintro e w23 ⟨v346, v349, v352, v355, rfl, ho0, ho1, ho2, ho3, hb⟩; refine ⟨_, rfl, ?_⟩; have HO347 := Aside0.mk (Kd.R_lower ho0 (below_size (zH1 GE340.out))); have HO350 := Aside0.mk (Kd.R_lower ho1 (below_size (zH1 GE340.out))); have HO353 := Aside0.mk (Kd.R_lower ho2 (below_size (zH1 GE340.out))); have HO356 := Aside0.mk (Kd.R_lower ho3 (below_size (zH1 GE340.out))); replace HO_6 := Aside0.mk (Kd.S_mono (Kd.S_told (Kd.S_told (Kd.S_told (Kd.S_told (Kd.S_old (zS HO_6.out) hb) (Kd.R_base ho0)) (Kd.R_base ho1)) (Kd.R_base ho2)) (Kd.R_base ho3)) (fun _ h_ => h_.1)); replace BK340 := zb BK340 hb; replace HB := zs1 GE340.out hb; (try clear hb); (try clear hb2); (try clear hk); (try clear hi); (try clear ho0); (try clear ho1); (try clear ho2); (try clear ho3); obtain ⟨Ao24, co24, eo24⟩ := Kd.R_slice HO347.out; subst eo24; obtain ⟨Ao25, co25, eo25⟩ := Kd.R_slice HO350.out; subst eo25; obtain ⟨Ao26, co26, eo26⟩ := Kd.R_slice HO353.out; subst eo26; obtain ⟨Ao27, co27, eo27⟩ := Kd.R_slice HO356.out; subst eo27) | ((with_reducible refine gate_callee (f := 71) rfl ?_); refine goesL_ (some 23) rfl rfl Try.func71 (by kernel_rfl) rfl #[.agg #[.slice Ao24 t345.length co24, .slice Ao25 t348.length co25, .slice Ao26 t351.length co26, .slice Ao27 t354.length co27], .slice A344_0 (rd_L2 l1 x14_1).length c344_0] rfl z2 ?_; (with_reducible refine (impl_Case_planFrom.calls k1 _ _ t345 _ _ t348 _ _ t351 _ _ t354 _ _ (rd_L2 l1 x14_1) t357 false _ ?side1 ?side2 ?side3 ?side4 ?side5 ?side6 ?side7 ?side8 ?side9 ?side10 A10.out).mono ?_); (case side1 => exact zC (Kd.R_reads' HO347.out).2.2); (case side2 => exact (Kd.R_reads' HO347.out).2.1); (case side3 => exact zC (Kd.R_reads' HO350.out).2.2); (case side4 => exact (Kd.R_reads' HO350.out).2.1); (case side5 => exact zC (Kd.R_reads' HO353.out).2.2); (case side6 => exact (Kd.R_reads' HO353.out).2.1); (case side7 => exact zC (Kd.R_reads' HO356.out).2.2); (case side8 => exact (Kd.R_reads' HO356.out).2.1); (case side9 => exact zC (Kd.C_below HR344_0.out HB.out)); (case side10 => exact HC344_0.out); rintro e w28 ⟨v358, rfl, ho0, hb⟩; refine ⟨_, rfl, ?_⟩; have HO359 := Aside0.mk (Kd.R_lower (Kd.R_new' (Kd.R_new' (Kd.R_new' (Kd.R_new' ho0 (Kd.R_lt (zR HO347.out))) (Kd.R_lt (zR HO350.out))) (Kd.R_lt (zR HO353.out))) (Kd.R_lt (zR HO356.out))) (below_size (zH1 GE340.out))); replace HO_6 := zSe HO_6 (Kd.R_base ho0) hb; replace HO347 := zRe HO347 (Kd.R_base ho0) hb; replace HO350 := zRe HO350 (Kd.R_base ho0) hb; replace HO353 := zRe HO353 (Kd.R_base ho0) hb; replace HO356 := zRe HO356 (Kd.R_base ho0) hb; replace BK340 := zb BK340 hb; replace HB := zs1 GE340.out hb; (try clear hb); (try clear hb2); (try clear hk); (try clear hi); (try clear ho0)))
           go_ret2
           exact ⟨_, z5, z9, (zH1 GE340.out)⟩
       · rw [if_neg c8] at H
         exact absurd H (by simp)
     · rw [if_neg c7] at H
       exact absurd H (by simp)
   · rw [if_neg c6] at H
     have c6b0 : decide (x14_1 < (l1.length : Int)) = false := decide_eq_false c6
     clear c6
     simp only [Option.some.injEq, Prod.mk.injEq] at H
     obtain ⟨rfl, rfl⟩ := H
     go_wp2
     go_ret2
     exact ⟨_, z5, (zS HO_6.out), (zH1 GE340.out)⟩
mutual
def impl_Chain_cost.l0 : Nat → Int → List (List Int) → List (List Int) → Int → Int → List Int → List Int → List Int → Option (Int)
 | 0, _, _, _, _, _, _, _, _ => none
 | k + 1, x5, x6, x18, x19, x20, x482000, x482001, x482002 => if x20 < x19 then (if 0 ≤ x20 then (if x20 < (x18.length : Int) then (impl_Chain_cost.l1 k x5 x6 x20 x18 x19 x20 (rd_L2 x18 x20) ((rd_L2 x18 x20).length : Int) 0 x482000 x482001 x482002) else (none)) else (none)) else (some x5)
def impl_Chain_cost.l1 : Nat → Int → List (List Int) → Int → List (List Int) → Int → Int → List Int → Int → Int → List Int → List Int → List Int → Option (Int)
 | 0, _, _, _, _, _, _, _, _, _, _, _, _ => none
 | k + 1, x5, x6, x8, x18, x19, x20, x25, x26, x27, x482000, x482001, x482002 => if x27 < x26 then (if 0 ≤ x27 then (if x27 < (x25.length : Int) then (if (rd x25 x27) > 0 then (if 0 ≤ x8 then (if x8 < (x482001.length : Int) then (if x8 < (x482002.length : Int) then (if x8 < (x6.length : Int) then (if x27 < ((rd_L2 x6 x8).length : Int) then (impl_Chain_cost.l1 k (wrap64 ((wrap64 (x5 + (rd x482001 x8))) + (wrap64 ((rd x482002 x8) * (rd (rd_L2 x6 x8) x27))))) x6 x8 x18 x19 x20 x25 x26 (wrap64 (x27 + 1)) x482000 x482001 x482002) else (none)) else (none)) else (none)) else (none)) else (none)) else (if 0 ≤ x8 then (if x8 < (x482002.length : Int) then (if x8 < (x6.length : Int) then (if x27 < ((rd_L2 x6 x8).length : Int) then (impl_Chain_cost.l1 k (wrap64 (x5 + (wrap64 ((rd x482002 x8) * (rd (rd_L2 x6 x8) x27))))) x6 x8 x18 x19 x20 x25 x26 (wrap64 (x27 + 1)) x482000 x482001 x482002) else (none)) else (none)) else (none)) else (none))) else (none)) else (none)) else (impl_Chain_cost.l0 k x5 x6 x18 x19 (wrap64 (x20 + 1)) x482000 x482001 x482002)
end
def impl_Chain_cost.f (k : Nat) (l0_0 : List Int) (l0_1 : List Int) (l0_2 : List Int) (l1 : List (List Int)) : Option (Int) := (impl_Chain_stocks.f k l0_0 l0_1 l0_2 l1).bind fun bt482 => (impl_Chain_cost.l0 k 0 bt482.1 l1 (l1.length : Int) 0 l0_0 l0_1 l0_2)
set_option maxHeartbeats 8000000 in
set_option maxRecDepth 100000 in
theorem impl_Chain_cost.calls (k : Nat) (A0_0 : Option Addr) (c0_0 : Nat) (l0_0 : List Int) (A0_1 : Option Addr) (c0_1 : Nat) (l0_1 : List Int) (A0_2 : Option Addr) (c0_2 : Nat) (l0_2 : List Int) (A1 : Option Addr) (c1 : Nat) (l1 : List (List Int)) (r : Int) (w : World) (hr0_0 : Kd.C (Kd.int .i64) w A0_0 l0_0.length l0_0) (hc0_0 : l0_0.length ≤ c0_0) (hr0_1 : Kd.C (Kd.int .i64) w A0_1 l0_1.length l0_1) (hc0_1 : l0_1.length ≤ c0_1) (hr0_2 : Kd.C (Kd.int .i64) w A0_2 l0_2.length l0_2) (hc0_2 : l0_2.length ≤ c0_2) (hr1 : Kd.C (Kd.slice 3 (Kd.int .i64)) w A1 l1.length l1) (hc1 : l1.length ≤ c1) (h : impl_Chain_cost.f k l0_0 l0_1 l0_2 l1 = some r) :
 Calls Try.prog 78 #[.agg #[.slice A0_0 l0_0.length c0_0, .slice A0_1 l0_1.length c0_1, .slice A0_2 l0_2.length c0_2], .slice A1 l1.length c1] w fun e w' => e = .returned (.int .i64 r) ∧ Below w.heap.size w w' := by
 have hu26 := Try.underlying26
 have HR0_0 := Aside0.mk hr0_0
 have HC0_0 := Aside0.mk hc0_0
 clear hr0_0 hc0_0
 have HR0_1 := Aside0.mk hr0_1
 have HC0_1 := Aside0.mk hc0_1
 clear hr0_1 hc0_1
 have HR0_2 := Aside0.mk hr0_2
 have HC0_2 := Aside0.mk hc0_2
 clear hr0_2 hc0_2
 have HR1 := Aside0.mk hr1
 have HC1 := Aside0.mk hc1
 clear hr1 hc1
 have HB := Aside0.mk (Below.refl w.heap.size w)
 have H : ((impl_Chain_stocks.f k l0_0 l0_1 l0_2 l1).bind fun bt482 => (impl_Chain_cost.l0 k 0 bt482.1 l1 (l1.length : Int) 0 l0_0 l0_1 l0_2)) = some r := h
 clear h
 replace H := Option.bind_eq_some_iff.mp H
 obtain ⟨⟨t482, t485⟩, A30, H⟩ := H
 replace H : (impl_Chain_cost.l0 k 0 t482 l1 (l1.length : Int) 0 l0_0 l0_1 l0_2) = some r := H
 have A3 := Aside0.mk A30
 clear A30
 have H' := Aside0.mk H
 clear H
 go_enter Try.func78, Try.ntmps78
 go_wp2_with (first | ((with_reducible refine gate_dst (N := 2) rfl ?_); refine box_event ?hg (N := 2) ?hd (cs := #[.slice A0_0 l0_0.length c0_0, .slice A0_1 l0_1.length c0_1, .slice A0_2 l0_2.length c0_2]) (t := 26) ?hr ?_; (case hd => rfl); (case hg => rfl); (case hr => first | (go_simp; done) | (go_simp; rfl)); intro gb481 hg w4 hbox hb; have BK481 := Aside0.mk (hbox); have GW481 := Aside0.mk ((z6 : w.heap.size ≤ gb481)); have GE481 := Aside0.mk ((z6 : w.heap.size ≤ gb481)); replace HB := zs0 hb; clear hb hbox hg; obtain ⟨hcz5_0, hcz5_1, hcz5_2, hfz5_0, hfz5_1, hfz5_2⟩ := zc3 BK481.out) | (go_at_call 103; (with_reducible refine (impl_Chain_stocks.calls k _ _ l0_0 _ _ l0_1 _ _ l0_2 _ _ l1 t482 t485 _ ?side1 ?side2 ?side3 ?side4 ?side5 ?side6 ?side7 ?side8 A3.out).mono ?_); (case side1 => exact zC (Kd.C_below HR0_0.out HB.out)); (case side2 => exact HC0_0.out); (case side3 => exact zC (Kd.C_below HR0_1.out HB.out)); (case side4 => exact HC0_1.out); (case side5 => exact zC (Kd.C_below HR0_2.out HB.out)); (case side6 => exact HC0_2.out); (case side7 => exact zC (Kd.C_below HR1.out HB.out)); (case side8 => exact HC1.out); rintro e w6 ⟨v483, rfl, ho0, hb⟩; have HO484 := Aside0.mk (Kd.S_lower ho0 (below_size (zH1 GE481.out))); replace BK481 := zb BK481 hb; replace HB := zs1 GE481.out hb; (try clear hb); (try clear hb2); (try clear hk); (try clear hi); (try clear ho0)))
 repeat (go_quiet (first | ((with_reducible refine gate_dst (N := 2) rfl ?_); refine box_event ?hg (N := 2) ?hd (cs := #[.slice A0_0 l0_0.length c0_0, .slice A0_1 l0_1.length c0_1, .slice A0_2 l0_2.length c0_2]) (t := 26) ?hr ?_; (case hd => rfl); (case hg => rfl); (case hr => first | (go_simp; done) | (go_simp; rfl)); intro gb481 hg w4 hbox hb; have BK481 := Aside0.mk (hbox); have GW481 := Aside0.mk ((z6 : w.heap.size ≤ gb481)); have GE481 := Aside0.mk ((z6 : w.heap.size ≤ gb481)); replace HB := zs0 hb; clear hb hbox hg; obtain ⟨hcz5_0, hcz5_1, hcz5_2, hfz5_0, hfz5_1, hfz5_2⟩ := zc3 BK481.out) | (go_at_call 103; (with_reducible refine (impl_Chain_stocks.calls k _ _ l0_0 _ _ l0_1 _ _ l0_2 _ _ l1 t482 t485 _ ?side1 ?side2 ?side3 ?side4 ?side5 ?side6 ?side7 ?side8 A3.out).mono ?_); (case side1 => exact zC (Kd.C_below HR0_0.out HB.out)); (case side2 => exact HC0_0.out); (case side3 => exact zC (Kd.C_below HR0_1.out HB.out)); (case side4 => exact HC0_1.out); (case side5 => exact zC (Kd.C_below HR0_2.out HB.out)); (case side6 => exact HC0_2.out); (case side7 => exact zC (Kd.C_below HR1.out HB.out)); (case side8 => exact HC1.out); rintro e w6 ⟨v483, rfl, ho0, hb⟩; have HO484 := Aside0.mk (Kd.S_lower ho0 (below_size (zH1 GE481.out))); replace BK481 := zb BK481 hb; replace HB := zs1 GE481.out hb; (try clear hb); (try clear hb2); (try clear hk); (try clear hi); (try clear ho0))); try go_wp2_with (first | ((with_reducible refine gate_dst (N := 2) rfl ?_); refine box_event ?hg (N := 2) ?hd (cs := #[.slice A0_0 l0_0.length c0_0, .slice A0_1 l0_1.length c0_1, .slice A0_2 l0_2.length c0_2]) (t := 26) ?hr ?_; (case hd => rfl); (case hg => rfl); (case hr => first | (go_simp; done) | (go_simp; rfl)); intro gb481 hg w4 hbox hb; have BK481 := Aside0.mk (hbox); have GW481 := Aside0.mk ((z6 : w.heap.size ≤ gb481)); have GE481 := Aside0.mk ((z6 : w.heap.size ≤ gb481)); replace HB := zs0 hb; clear hb hbox hg; obtain ⟨hcz5_0, hcz5_1, hcz5_2, hfz5_0, hfz5_1, hfz5_2⟩ := zc3 BK481.out) | (go_at_call 103; (with_reducible refine (impl_Chain_stocks.calls k _ _ l0_0 _ _ l0_1 _ _ l0_2 _ _ l1 t482 t485 _ ?side1 ?side2 ?side3 ?side4 ?side5 ?side6 ?side7 ?side8 A3.out).mono ?_); (case side1 => exact zC (Kd.C_below HR0_0.out HB.out)); (case side2 => exact HC0_0.out); (case side3 => exact zC (Kd.C_below HR0_1.out HB.out)); (case side4 => exact HC0_1.out); (case side5 => exact zC (Kd.C_below HR0_2.out HB.out)); (case side6 => exact HC0_2.out); (case side7 => exact zC (Kd.C_below HR1.out HB.out)); (case side8 => exact HC1.out); rintro e w6 ⟨v483, rfl, ho0, hb⟩; have HO484 := Aside0.mk (Kd.S_lower ho0 (below_size (zH1 GE481.out))); replace BK481 := zb BK481 hb; replace HB := zs1 GE481.out hb; (try clear hb); (try clear hb2); (try clear hk); (try clear hi); (try clear ho0))))
 go_loopg [5, 20] k (fun kq v5 v20 w' => ∃ (x5_1 : Int) (x20_1 : Int), v5 = .int .i64 x5_1 ∧ v20 = .int .i64 x20_1 ∧ Aside0 (impl_Chain_cost.l0 kq x5_1 t482 l1 (l1.length : Int) x20_1 l0_0 l0_1 l0_2 = some r) ∧ Aside0 (kq ≤ k) ∧ Aside0 (Kd.S (Kd.slice 3 (Kd.int .i64)) 24 w' w.heap.size (fun _ => True) v483 t482) ∧ Aside0 (w'.heap[gb481]? = some (.cells #[(.slice A0_0 l0_0.length c0_0), (.slice A0_1 l0_1.length c0_1), (.slice A0_2 l0_2.length c0_2)] 26 (0, 0))) ∧ Aside0 (Below w.heap.size w w'))
 case atStart => exact ⟨(0), (0), z3, z3, H', ⟨Nat.le_refl _⟩, ⟨(zS HO484.out)⟩, ⟨(zB BK481.out)⟩, ⟨(zH1 GE481.out)⟩⟩
 case round =>
  clear H'
  try clear c1
  try clear p2
  try clear hcz5_0
  try clear hcz5_1
  try clear hcz5_2
  try clear hfz5_0
  try clear hfz5_1
  try clear hfz5_2
  obtain ⟨x5_1, x20_1, rfl, rfl, HA, HK1, HO_6, BK481, HB⟩ := hrel
  cases gk with
  | zero => exact absurd HA.out (by simp [impl_Chain_cost.l0])
  | succ k1 =>
   have H := HA.out
   clear HA
   simp only [impl_Chain_cost.l0] at H
   by_cases c7 : x20_1 < (l1.length : Int)
   · rw [if_pos c7] at H
     have c7b0 : decide (x20_1 < (l1.length : Int)) = true := decide_eq_true c7
     clear c7
     by_cases c8 : 0 ≤ x20_1
     · rw [if_pos c8] at H
       have c8b0 : decide (0 ≤ x20_1) = true := decide_eq_true c8
       clear c8
       by_cases c9 : x20_1 < (l1.length : Int)
       · rw [if_pos c9] at H
         have c9b0 : decide (x20_1 < (l1.length : Int)) = true := decide_eq_true c9
         clear c9
         have H' := Aside0.mk H
         clear H
         have p486 : 0 ≤ (x20_1 : Int) := of_decide_eq_true z1
         have q486 : x20_1 < (l1.length : Int) := of_decide_eq_true z1
         obtain ⟨ad486, A486_0, c486_0, e486, hx486_0, hl486_0, hi486_0⟩ := at_L2 HR1.out x20_1 p486 q486
         cases e486
         replace hx486_0 := (HB.out.cell (World.block_lt_of_cell? w _ hx486_0)).trans hx486_0
         have HR486_0 := Aside0.mk hi486_0
         have HC486_0 := Aside0.mk hl486_0
         clear hi486_0 hl486_0
         replace p486 := eq_true p486
         replace q486 := eq_true q486
         go_wp2
         repeat (go_quiet (fail); try go_wp2)
         go_loopg [5, 27] k1 (fun kq v5 v27 w' => ∃ (x5_2 : Int) (x27_2 : Int), v5 = .int .i64 x5_2 ∧ v27 = .int .i64 x27_2 ∧ Aside0 (impl_Chain_cost.l1 kq x5_2 t482 x20_1 l1 (l1.length : Int) x20_1 (rd_L2 l1 x20_1) ((rd_L2 l1 x20_1).length : Int) x27_2 l0_0 l0_1 l0_2 = some r) ∧ Aside0 (kq ≤ k1) ∧ Aside0 (Kd.S (Kd.slice 3 (Kd.int .i64)) 24 w' w.heap.size (fun _ => True) v483 t482) ∧ Aside0 (w'.heap[gb481]? = some (.cells #[(.slice A0_0 l0_0.length c0_0), (.slice A0_1 l0_1.length c0_1), (.slice A0_2 l0_2.length c0_2)] 26 (0, 0))) ∧ Aside0 (Below w.heap.size w w'))
         case atStart => exact ⟨(x5_1), (0), z3, z3, H', ⟨Nat.le_refl _⟩, ⟨(zS HO_6.out)⟩, ⟨(zB BK481.out)⟩, ⟨(zH1 GE481.out)⟩⟩
         case round =>
          clear H'
          try clear c1
          try clear p2
          try clear c4
          try clear p4
          try clear q4
          try clear hx4
          try clear c7
          try clear c7b0
          try clear c8
          try clear c8b0
          try clear c9
          try clear c9b0
          try clear hcz5_0
          try clear hcz5_1
          try clear hcz5_2
          try clear hfz5_0
          try clear hfz5_1
          try clear hfz5_2
          try clear hx486_0
          try clear p2
          try clear p486
          try clear q486
          obtain ⟨x5_2, x27_2, rfl, rfl, HA, HK2, HO_6, BK481, HB⟩ := hrel
          cases gk with
          | zero => exact absurd HA.out (by simp [impl_Chain_cost.l1])
          | succ k2 =>
           have H := HA.out
           clear HA
           simp only [impl_Chain_cost.l1] at H
           by_cases c10 : x27_2 < ((rd_L2 l1 x20_1).length : Int)
           · rw [if_pos c10] at H
             have c10b0 : decide (x27_2 < ((rd_L2 l1 x20_1).length : Int)) = true := decide_eq_true c10
             clear c10
             by_cases c11 : 0 ≤ x27_2
             · rw [if_pos c11] at H
               have c11b0 : decide (0 ≤ x27_2) = true := decide_eq_true c11
               clear c11
               by_cases c12 : x27_2 < ((rd_L2 l1 x20_1).length : Int)
               · rw [if_pos c12] at H
                 have c12b0 : decide (x27_2 < ((rd_L2 l1 x20_1).length : Int)) = true := decide_eq_true c12
                 clear c12
                 by_cases c13 : (rd (rd_L2 l1 x20_1) x27_2) > 0
                 · rw [if_pos c13] at H
                   have c13b0 : decide (0 < (rd (rd_L2 l1 x20_1) x27_2)) = true := decide_eq_true c13
                   clear c13
                   by_cases c14 : 0 ≤ x20_1
                   · rw [if_pos c14] at H
                     have c14b0 : decide (0 ≤ x20_1) = true := decide_eq_true c14
                     clear c14
                     by_cases c15 : x20_1 < (l0_1.length : Int)
                     · rw [if_pos c15] at H
                       have c15b0 : decide (x20_1 < (l0_1.length : Int)) = true := decide_eq_true c15
                       clear c15
                       by_cases c16 : x20_1 < (l0_2.length : Int)
                       · rw [if_pos c16] at H
                         have c16b0 : decide (x20_1 < (l0_2.length : Int)) = true := decide_eq_true c16
                         clear c16
                         by_cases c17 : x20_1 < (t482.length : Int)
                         · rw [if_pos c17] at H
                           have c17b0 : decide (x20_1 < (t482.length : Int)) = true := decide_eq_true c17
                           clear c17
                           by_cases c18 : x27_2 < ((rd_L2 t482 x20_1).length : Int)
                           · rw [if_pos c18] at H
                             have c18b0 : decide (x27_2 < ((rd_L2 t482 x20_1).length : Int)) = true := decide_eq_true c18
                             clear c18
                             have H' := Aside0.mk H
                             clear H
                             have p487 : 0 ≤ (x27_2 : Int) := of_decide_eq_true z1
                             have q487 : x27_2 < ((rd_L2 l1 x20_1).length : Int) := of_decide_eq_true z1
                             obtain ⟨ad487, e487, hx487_0⟩ := Kd.at_int HR486_0.out x27_2 p487 q487
                             cases e487
                             replace hx487_0 := (HB.out.cell (World.block_lt_of_cell? w _ hx487_0)).trans hx487_0
                             replace p487 := eq_true p487
                             replace q487 := eq_true q487
                             obtain ⟨hcz19_0, hcz19_1, hcz19_2, hfz19_0, hfz19_1, hfz19_2⟩ := zc3 BK481.out
                             have p488 : 0 ≤ (x20_1 : Int) := of_decide_eq_true z1
                             have q488 : x20_1 < (l0_1.length : Int) := of_decide_eq_true z1
                             obtain ⟨ad488, e488, hx488_0⟩ := Kd.at_int HR0_1.out x20_1 p488 q488
                             cases e488
                             replace hx488_0 := (HB.out.cell (World.block_lt_of_cell? w _ hx488_0)).trans hx488_0
                             replace p488 := eq_true p488
                             replace q488 := eq_true q488
                             have p489 : 0 ≤ (x20_1 : Int) := of_decide_eq_true z1
                             have q489 : x20_1 < (l0_2.length : Int) := of_decide_eq_true z1
                             obtain ⟨ad489, e489, hx489_0⟩ := Kd.at_int HR0_2.out x20_1 p489 q489
                             cases e489
                             replace hx489_0 := (HB.out.cell (World.block_lt_of_cell? w _ hx489_0)).trans hx489_0
                             replace p489 := eq_true p489
                             replace q489 := eq_true q489
                             obtain ⟨Ao20, co20, eo20⟩ := Kd.S_slice HO_6.out
                             subst eo20
                             have p490 : 0 ≤ (x20_1 : Int) := of_decide_eq_true z1
                             have q490 : x20_1 < (t482.length : Int) := of_decide_eq_true z1
                             obtain ⟨ad490, A490_0, c490_0, e490, hx490_0, hl490_0, hi490_0⟩ := at_L2 (Kd.S_reads' HO_6.out).2.2 x20_1 p490 q490
                             cases e490
                             obtain ⟨ce490, hce490, hMe490, hcc490⟩ := Kd.S_get HO_6.out [] x20_1 p490 (by first | exact q490 | exact of_decide_eq_true z1 | (have e_ := (Kd.S_reads' HO_6.out).1; omega))
                             obtain ⟨ve490_0, rfl, ge490_0⟩ := hMe490
                             have hv490_0 := hcc490 0 _ rfl
                             rw [Nat.add_zero, show ((Kd.slice 3 (Kd.int .i64))).sz = 1 from rfl, Nat.mul_one] at hv490_0
                             replace hv490_0 := Option.some.inj (hv490_0.symm.trans hx490_0)
                             rw [hv490_0] at ge490_0
                             have HL490_0 := Aside0.mk (show Kd.R (Kd.int .i64) 3 _ _ _ _ (rd_L2 t482 x20_1) from ge490_0)
                             clear hv490_0 ge490_0
                             clear hcc490 hce490
                             have HR490_0 := Aside0.mk hi490_0
                             have HC490_0 := Aside0.mk hl490_0
                             clear hi490_0 hl490_0
                             replace p490 := eq_true p490
                             replace q490 := eq_true q490
                             have p491 : 0 ≤ (x27_2 : Int) := of_decide_eq_true z1
                             have q491 : x27_2 < ((rd_L2 t482 x20_1).length : Int) := of_decide_eq_true z1
                             obtain ⟨ad491, e491, hx491_0⟩ := Kd.at_int (by repeat (first | (with_reducible exact HR490_0.out) | (with_reducible refine Kd.C_alloc ?_ _) | (with_reducible refine Kd.C_drewN ?_ _) | (with_reducible refine Kd.C_drew ?_) | exact HR490_0.out)) x27_2 p491 q491
                             cases e491
                             replace p491 := eq_true p491
                             replace q491 := eq_true q491
                             go_wp2
                             repeat (go_quiet (fail); try go_wp2)
                             go_roundg k2
                             case measure => have := HK1.out; have := HK2.out; omega
                             case rel => exact ⟨(wrap64 ((wrap64 (x5_2 + (rd l0_1 x20_1))) + (wrap64 ((rd l0_2 x20_1) * (rd (rd_L2 t482 x20_1) x27_2))))), (wrap64 (x27_2 + 1)), z3, z3, H', ⟨z32⟩, ⟨(zS HO_6.out)⟩, ⟨(zB BK481.out)⟩, ⟨(zH1 GE481.out)⟩⟩
                           · rw [if_neg c18] at H
                             exact absurd H (by simp)
                         · rw [if_neg c17] at H
                           exact absurd H (by simp)
                       · rw [if_neg c16] at H
                         exact absurd H (by simp)
                     · rw [if_neg c15] at H
                       exact absurd H (by simp)
                   · rw [if_neg c14] at H
                     exact absurd H (by simp)
                 · rw [if_neg c13] at H
                   have c13b0 : decide (0 < (rd (rd_L2 l1 x20_1) x27_2)) = false := decide_eq_false c13
                   clear c13
                   by_cases c21 : 0 ≤ x20_1
                   · rw [if_pos c21] at H
                     have c21b0 : decide (0 ≤ x20_1) = true := decide_eq_true c21
                     clear c21
                     by_cases c22 : x20_1 < (l0_2.length : Int)
                     · rw [if_pos c22] at H
                       have c22b0 : decide (x20_1 < (l0_2.length : Int)) = true := decide_eq_true c22
                       clear c22
                       by_cases c23 : x20_1 < (t482.length : Int)
                       · rw [if_pos c23] at H
                         have c23b0 : decide (x20_1 < (t482.length : Int)) = true := decide_eq_true c23
                         clear c23
                         by_cases c24 : x27_2 < ((rd_L2 t482 x20_1).length : Int)
                         · rw [if_pos c24] at H
                           have c24b0 : decide (x27_2 < ((rd_L2 t482 x20_1).length : Int)) = true := decide_eq_true c24
                           clear c24
                           have H' := Aside0.mk H
                           clear H
                           have p487 : 0 ≤ (x27_2 : Int) := of_decide_eq_true z1
                           have q487 : x27_2 < ((rd_L2 l1 x20_1).length : Int) := of_decide_eq_true z1
                           obtain ⟨ad487, e487, hx487_0⟩ := Kd.at_int HR486_0.out x27_2 p487 q487
                           cases e487
                           replace hx487_0 := (HB.out.cell (World.block_lt_of_cell? w _ hx487_0)).trans hx487_0
                           replace p487 := eq_true p487
                           replace q487 := eq_true q487
                           obtain ⟨hcz25_0, hcz25_1, hcz25_2, hfz25_0, hfz25_1, hfz25_2⟩ := zc3 BK481.out
                           have p492 : 0 ≤ (x20_1 : Int) := of_decide_eq_true z1
                           have q492 : x20_1 < (l0_2.length : Int) := of_decide_eq_true z1
                           obtain ⟨ad492, e492, hx492_0⟩ := Kd.at_int HR0_2.out x20_1 p492 q492
                           cases e492
                           replace hx492_0 := (HB.out.cell (World.block_lt_of_cell? w _ hx492_0)).trans hx492_0
                           replace p492 := eq_true p492
                           replace q492 := eq_true q492
                           obtain ⟨Ao26, co26, eo26⟩ := Kd.S_slice HO_6.out
                           subst eo26
                           have p493 : 0 ≤ (x20_1 : Int) := of_decide_eq_true z1
                           have q493 : x20_1 < (t482.length : Int) := of_decide_eq_true z1
                           obtain ⟨ad493, A493_0, c493_0, e493, hx493_0, hl493_0, hi493_0⟩ := at_L2 (Kd.S_reads' HO_6.out).2.2 x20_1 p493 q493
                           cases e493
                           obtain ⟨ce493, hce493, hMe493, hcc493⟩ := Kd.S_get HO_6.out [] x20_1 p493 (by first | exact q493 | exact of_decide_eq_true z1 | (have e_ := (Kd.S_reads' HO_6.out).1; omega))
                           obtain ⟨ve493_0, rfl, ge493_0⟩ := hMe493
                           have hv493_0 := hcc493 0 _ rfl
                           rw [Nat.add_zero, show ((Kd.slice 3 (Kd.int .i64))).sz = 1 from rfl, Nat.mul_one] at hv493_0
                           replace hv493_0 := Option.some.inj (hv493_0.symm.trans hx493_0)
                           rw [hv493_0] at ge493_0
                           have HL493_0 := Aside0.mk (show Kd.R (Kd.int .i64) 3 _ _ _ _ (rd_L2 t482 x20_1) from ge493_0)
                           clear hv493_0 ge493_0
                           clear hcc493 hce493
                           have HR493_0 := Aside0.mk hi493_0
                           have HC493_0 := Aside0.mk hl493_0
                           clear hi493_0 hl493_0
                           replace p493 := eq_true p493
                           replace q493 := eq_true q493
                           have p494 : 0 ≤ (x27_2 : Int) := of_decide_eq_true z1
                           have q494 : x27_2 < ((rd_L2 t482 x20_1).length : Int) := of_decide_eq_true z1
                           obtain ⟨ad494, e494, hx494_0⟩ := Kd.at_int (by repeat (first | (with_reducible exact HR493_0.out) | (with_reducible refine Kd.C_alloc ?_ _) | (with_reducible refine Kd.C_drewN ?_ _) | (with_reducible refine Kd.C_drew ?_) | exact HR493_0.out)) x27_2 p494 q494
                           cases e494
                           replace p494 := eq_true p494
                           replace q494 := eq_true q494
                           go_wp2
                           repeat (go_quiet (fail); try go_wp2)
                           go_roundg k2
                           case measure => have := HK1.out; have := HK2.out; omega
                           case rel => exact ⟨(wrap64 (x5_2 + (wrap64 ((rd l0_2 x20_1) * (rd (rd_L2 t482 x20_1) x27_2))))), (wrap64 (x27_2 + 1)), z3, z3, H', ⟨z32⟩, ⟨(zS HO_6.out)⟩, ⟨(zB BK481.out)⟩, ⟨(zH1 GE481.out)⟩⟩
                         · rw [if_neg c24] at H
                           exact absurd H (by simp)
                       · rw [if_neg c23] at H
                         exact absurd H (by simp)
                     · rw [if_neg c22] at H
                       exact absurd H (by simp)
                   · rw [if_neg c21] at H
                     exact absurd H (by simp)
               · rw [if_neg c12] at H
                 exact absurd H (by simp)
             · rw [if_neg c11] at H
               exact absurd H (by simp)
           · rw [if_neg c10] at H
             have c10b0 : decide (x27_2 < ((rd_L2 l1 x20_1).length : Int)) = false := decide_eq_false c10
             clear c10
             have H' := Aside0.mk H
             clear H
             go_wp2
             repeat (go_quiet (fail); try go_wp2)
             go_roundg k2
             case measure => have := HK1.out; have := HK2.out; omega
             case rel => exact ⟨(x5_2), (wrap64 (x20_1 + 1)), z3, z3, H', ⟨z32⟩, ⟨(zS HO_6.out)⟩, ⟨(zB BK481.out)⟩, ⟨(zH1 GE481.out)⟩⟩
       · rw [if_neg c9] at H
         exact absurd H (by simp)
     · rw [if_neg c8] at H
       exact absurd H (by simp)
   · rw [if_neg c7] at H
     have c7b0 : decide (x20_1 < (l1.length : Int)) = false := decide_eq_false c7
     clear c7
     obtain rfl := Option.some.inj H
     go_wp2
     repeat (go_quiet (fail); try go_wp2)
     go_ret
     exact ⟨z5, (zH1 GE481.out)⟩
end Go.Proofs.Ythlmmcmpllgflaa.P
namespace Go.Proofs.Ythlmmcmpllgflaa.P
open Go.RowKit Go.Proofs.YthlmmcmpllgflaaW.PrintWords Go.Proofs.YthlmmcmpllgflaaW.PrintLast Go.Proofs.YthlmmcmpllgflaaW.PrintMore ChainMath
theorem rdL_nat (l : List (List Int)) (i : Nat) : rd_L2 l (i : Int) = l.getD i [] := by unfold rd_L2; rw [Int.toNat_natCast]
theorem dropL_cons {α : Type} (l : List α) (d : α) {i : Nat} (h : i < l.length) : l.drop i = l.getD i d :: l.drop (i + 1) := drop_cons l d h
def rowOf (n : Nat) (p q : List Int) : List Int := (List.range n).map fun t => dsum p (t + 1) - dsum q (t + 1)
theorem rowOf_len (n : Nat) (p q : List Int) : (rowOf n p q).length = n := by simp [rowOf]
theorem rowOf_get (n : Nat) (p q : List Int) {t : Nat} (h : t < n) : (rowOf n p q).getD t 0 = dsum p (t + 1) - dsum q (t + 1) := by
  unfold rowOf; rw [List.getD_eq_getElem?_getD, List.getElem?_map, List.getElem?_range h]; rfl
def goesB (n : Nat) (p q : List Int) (i : Nat) : Bool := ((List.range' i (n - i)).all fun t => decide (0 ≤ dsum p (t + 1) - dsum q (t + 1))) && decide (dsum p n = dsum q n)
def stageB (n : Nat) (p q : List Int) : Bool := decide (p.length = n) && (decide (q.length = n) && (p.all (inB 0 120) && (q.all (inB 0 120) && goesB n p q 0)))
def rowsFrom (need : List Int) : List (List Int) → Option (List (List Int))
  | [] => some []
  | p :: ps => if stageB need.length p (ps.headD need) = true then (rowsFrom need ps).map (rowOf need.length p (ps.headD need) :: ·) else none
def toldRows (out : List (List Int)) : Option (List (List Int)) → List (List Int) × Bool
  | some r => (out ++ r, true)
  | none => ([], false)
theorem inB_mem {l : List Int} {lo hi x : Int} (h : l.all (inB lo hi) = true) (hx : x ∈ l) : lo ≤ x ∧ x ≤ hi := by
  have := List.all_eq_true.1 h x hx; unfold inB at this; simpa using this
theorem range'_succ_all (f : Nat → Bool) {n i : Nat} (h : i < n) : (List.range' i (n - i)).all f = (f i && (List.range' (i + 1) (n - (i + 1))).all f) := by
  obtain ⟨d, hd⟩ : ∃ d, n - i = d + 1 := ⟨n - i - 1, (by omega)⟩
  rw [hd, List.range'_succ, List.all_cons, show n - (i + 1) = d by omega]
theorem rowOf_take (n : Nat) (p q : List Int) {i : Nat} (h : i < n) : (rowOf n p q).take i ++ [dsum p (i + 1) - dsum q (i + 1)] = (rowOf n p q).take (i + 1) := by
  rw [List.take_succ_eq_append_getElem (by rw [rowOf_len]; exact h)]
  congr 2
  have := rowOf_get n p q h
  rw [List.getD_eq_getElem?_getD, List.getElem?_eq_getElem (by rw [rowOf_len]; exact h)] at this
  exact this.symm
theorem stocks_l1 (need setup hold p q : List Int) (plan out : List (List Int)) (s : Int) {R : List (List Int) × Bool} (hn : need.length ≤ 6) (hp : p.length = need.length) (hq : q.length = need.length) (bp : p.all (inB 0 120) = true) (bq : q.all (inB 0 120) = true) (ho : out.length ≤ 3)
    (hR : Ev (fun k => impl_Chain_stocks.l0 k plan (out ++ [rowOf need.length p q]) plan (plan.length : Int) (wrap64 (s + 1)) need setup hold) R) : ∀ d i, i + d = need.length →
    Ev (fun k => impl_Chain_stocks.l1 k plan out q ((rowOf need.length p q).take i) (dsum p i - dsum q i) plan (plan.length : Int) s p (p.length : Int) (i : Int) need setup hold) (if goesB need.length p q i = true then R else ([], false))
  | 0, i, h => by
    have hi : i = need.length := by omega
    subst hi
    refine Ev.step (fun k => impl_Chain_stocks.l1.eq_2 ..) ?_
    refine Ev.neg (by omega) ?_
    by_cases e : dsum p need.length = dsum q need.length
    · refine Ev.pos (by omega) (Ev.pos (by omega) ?_)
      rw [List.take_of_length_le (by rw [rowOf_len]; exact Nat.le_refl _)]
      refine hR.to ?_
      unfold goesB; rw [Nat.sub_self]; simp [e]
    · refine Ev.neg (by omega) ((Ev.now _).to ?_)
      unfold goesB; rw [Nat.sub_self]; simp [e]
  | d + 1, i, h => by
    refine Ev.step (fun k => impl_Chain_stocks.l1.eq_2 ..) ?_
    refine Ev.pos (by omega) (Ev.pos (by omega) (Ev.pos (by omega) (Ev.pos (by omega) ?_)))
    have h1 := inB_mem bp (getD_mem p (i := i) (by omega)); have h2 := inB_mem bq (getD_mem q (i := i) (by omega))
    have h3 := dsum_bound p 120 (fun x hx => inB_mem bp hx) i (by omega); have h4 := dsum_bound q 120 (fun x hx => inB_mem bq hx) i (by omega)
    have h5 := dsum_succ p (t := i) (by omega); have h6 := dsum_succ q (t := i) (by omega)
    have e : wrap64 (dsum p i - dsum q i + wrap64 (rd p (i : Int) - rd q (i : Int))) = dsum p (i + 1) - dsum q (i + 1) := by
      rw [rd_nat, rd_nat, wr (n := p.getD i 0 - q.getD i 0) (by omega) (by omega), wr (by omega) (by omega)]; omega
    rw [e, wrS (by omega)]
    have hg : goesB need.length p q i = (decide (0 ≤ dsum p (i + 1) - dsum q (i + 1)) && goesB need.length p q (i + 1)) := by
      unfold goesB; rw [range'_succ_all _ (show i < need.length by omega), Bool.and_assoc]
    by_cases hneg : dsum p (i + 1) - dsum q (i + 1) < 0
    · refine Ev.pos hneg ((Ev.now _).to ?_)
      rw [hg, decide_eq_false (by omega)]; simp
    · refine Ev.neg hneg (Ev.pos (by rw [List.length_take, rowOf_len]; omega) ?_)
      rw [rowOf_take need.length p q (by omega)]
      refine (stocks_l1 need setup hold p q plan out s hn hp hq bp bq ho hR d (i + 1) (by omega)).to ?_
      rw [hg, decide_eq_true (by omega), Bool.true_and]
theorem stocks_l101 (need setup hold p q : List Int) (plan out : List (List Int)) (s : Int) {R : List (List Int) × Bool} (hn : need.length ≤ 6) (hp : p.length = need.length) (hq : q.length = need.length) (bp : p.all (inB 0 120) = true) (bq : q.all (inB 0 120) = true) (ho : out.length ≤ 3)
    (hR : Ev (fun k => impl_Chain_stocks.l0 k plan (out ++ [rowOf need.length p q]) plan (plan.length : Int) (wrap64 (s + 1)) need setup hold) R) : ∀ d i, i + d = need.length →
    Ev (fun k => impl_Chain_stocks.l101 k plan out q ((rowOf need.length p q).take i) (dsum p i - dsum q i) plan (plan.length : Int) s p (p.length : Int) (i : Int) need setup hold) (if goesB need.length p q i = true then R else ([], false))
  | 0, i, h => by
    have hi : i = need.length := by omega
    subst hi
    refine Ev.step (fun k => impl_Chain_stocks.l101.eq_2 ..) ?_
    refine Ev.neg (by omega) ?_
    by_cases e : dsum p need.length = dsum q need.length
    · refine Ev.pos (by omega) (Ev.pos (by omega) ?_)
      rw [List.take_of_length_le (by rw [rowOf_len]; exact Nat.le_refl _)]
      refine hR.to ?_
      unfold goesB; rw [Nat.sub_self]; simp [e]
    · refine Ev.neg (by omega) ((Ev.now _).to ?_)
      unfold goesB; rw [Nat.sub_self]; simp [e]
  | d + 1, i, h => by
    refine Ev.step (fun k => impl_Chain_stocks.l101.eq_2 ..) ?_
    refine Ev.pos (by omega) (Ev.pos (by omega) (Ev.pos (by omega) (Ev.pos (by omega) ?_)))
    have h1 := inB_mem bp (getD_mem p (i := i) (by omega)); have h2 := inB_mem bq (getD_mem q (i := i) (by omega))
    have h3 := dsum_bound p 120 (fun x hx => inB_mem bp hx) i (by omega); have h4 := dsum_bound q 120 (fun x hx => inB_mem bq hx) i (by omega)
    have h5 := dsum_succ p (t := i) (by omega); have h6 := dsum_succ q (t := i) (by omega)
    have e : wrap64 (dsum p i - dsum q i + wrap64 (rd p (i : Int) - rd q (i : Int))) = dsum p (i + 1) - dsum q (i + 1) := by
      rw [rd_nat, rd_nat, wr (n := p.getD i 0 - q.getD i 0) (by omega) (by omega), wr (by omega) (by omega)]; omega
    rw [e, wrS (by omega)]
    have hg : goesB need.length p q i = (decide (0 ≤ dsum p (i + 1) - dsum q (i + 1)) && goesB need.length p q (i + 1)) := by
      unfold goesB; rw [range'_succ_all _ (show i < need.length by omega), Bool.and_assoc]
    by_cases hneg : dsum p (i + 1) - dsum q (i + 1) < 0
    · refine Ev.pos hneg ((Ev.now _).to ?_)
      rw [hg, decide_eq_false (by omega)]; simp
    · refine Ev.neg hneg (Ev.pos (by rw [List.length_take, rowOf_len]; omega) ?_)
      rw [rowOf_take need.length p q (by omega)]
      refine (stocks_l101 need setup hold p q plan out s hn hp hq bp bq ho hR d (i + 1) (by omega)).to ?_
      rw [hg, decide_eq_true (by omega), Bool.true_and]
theorem headD_drop (plan : List (List Int)) (need : List Int) (s : Nat) : (plan.drop s).headD need = if s < plan.length then plan.getD s [] else need := by
  by_cases h : s < plan.length
  · rw [if_pos h, dropL_cons plan [] h]; rfl
  · rw [if_neg h, List.drop_of_length_le (by omega)]; rfl
theorem stocks_l0 (need setup hold : List Int) (plan : List (List Int)) (hn : need.length ≤ 6) (hm : plan.length ≤ 3) (hlen : ∀ p ∈ plan, p.length < 1000000000) : ∀ d s (out : List (List Int)), s + d = plan.length → out.length = s →
    Ev (fun k => impl_Chain_stocks.l0 k plan out plan (plan.length : Int) (s : Int) need setup hold) (toldRows out (rowsFrom need (plan.drop s)))
  | 0, s, out, h, ho => by
    refine Ev.step (fun k => impl_Chain_stocks.l0.eq_2 ..) ?_
    refine Ev.neg (by omega) ((Ev.now _).to ?_)
    rw [List.drop_of_length_le (by omega)]; simp [rowsFrom, toldRows]
  | d + 1, s, out, h, ho => by
    refine Ev.step (fun k => impl_Chain_stocks.l0.eq_2 ..) ?_
    have hs : s < plan.length := by omega
    rw [dropL_cons plan [] hs]
    simp only [rowsFrom]
    rw [headD_drop]
    refine Ev.pos (by omega) (Ev.pos (by omega) (Ev.pos (by omega) ?_))
    rw [wrS (by omega), rdL_nat, rdL_nat]
    generalize hp : plan.getD s [] = p
    have hpl : p.length < 1000000000 := by
      rw [← hp, List.getD_eq_getElem?_getD, List.getElem?_eq_getElem hs]; exact hlen _ (by simp)
    have ih := fun r => stocks_l0 need setup hold plan hn hm hlen d (s + 1) (out ++ [r]) (by omega) (by simp [ho])
    have hfin : ∀ r : List Int, toldRows (out ++ [r]) (rowsFrom need (plan.drop (s + 1))) = toldRows out ((rowsFrom need (plan.drop (s + 1))).map (r :: ·)) := by
      intro r; cases rowsFrom need (plan.drop (s + 1)) <;> simp [toldRows]
    by_cases hs1 : s + 1 < plan.length
    · rw [if_pos hs1]
      generalize hq : plan.getD (s + 1) [] = q
      have hql : q.length < 1000000000 := by
        rw [← hq, List.getD_eq_getElem?_getD, List.getElem?_eq_getElem hs1]; exact hlen _ (by simp)
      refine Ev.pos (by omega) (Ev.pos (by omega) ?_)
      by_cases e1 : p.length = need.length
      · refine Ev.pos (by omega) ?_
        by_cases e2 : q.length = need.length
        · refine Ev.pos (by omega) (Ev.bind (allWithin_ev _ _ _ (by omega)) ?_)
          cases e3 : p.all (inB 0 120) with
          | false => exact Ev.neg (by simp) ((Ev.now _).to (by unfold stageB; rw [e3]; simp [toldRows]))
          | true =>
            refine Ev.pos rfl (Ev.bind (allWithin_ev _ _ _ (by omega)) ?_)
            cases e4 : q.all (inB 0 120) with
            | false => exact Ev.neg (by simp) ((Ev.now _).to (by unfold stageB; rw [e4]; simp [toldRows]))
            | true =>
              refine Ev.pos rfl ?_
              have h0 := stocks_l1 need setup hold p q plan out (s : Int) hn e1 e2 e3 e4 (by omega) (by rw [wrS (by omega)]; exact ih _) need.length 0 (by omega)
              refine h0.to ?_
              unfold stageB; rw [e3, e4, decide_eq_true e1, decide_eq_true e2]; simp only [Bool.true_and]
              split
              · exact hfin _
              · rfl
        · exact Ev.neg (by omega) ((Ev.now _).to (by unfold stageB; rw [decide_eq_false e2]; simp [toldRows]))
      · exact Ev.neg (by omega) ((Ev.now _).to (by unfold stageB; rw [decide_eq_false e1]; simp [toldRows]))
    · rw [if_neg hs1]
      refine Ev.neg (by omega) ?_
      by_cases e1 : p.length = need.length
      · refine Ev.pos (by omega) (Ev.bind (allWithin_ev _ _ _ (by omega)) ?_)
        cases e3 : p.all (inB 0 120) with
        | false => exact Ev.neg (by simp) ((Ev.now _).to (by unfold stageB; rw [e3]; simp [toldRows]))
        | true =>
          refine Ev.pos rfl (Ev.bind (allWithin_ev _ _ _ (by omega)) ?_)
          cases e4 : need.all (inB 0 120) with
          | false => exact Ev.neg (by simp) ((Ev.now _).to (by unfold stageB; rw [e4]; simp [toldRows]))
          | true =>
            refine Ev.pos rfl ?_
            have h0 := stocks_l101 need setup hold p need plan out (s : Int) hn e1 rfl e3 e4 (by omega) (by rw [wrS (by omega)]; exact ih _) need.length 0 (by omega)
            refine h0.to ?_
            unfold stageB; rw [e3, e4, decide_eq_true e1, decide_eq_true rfl]; simp only [Bool.true_and]
            split
            · exact hfin _
            · rfl
      · exact Ev.neg (by omega) ((Ev.now _).to (by unfold stageB; rw [decide_eq_false e1]; simp [toldRows]))
def stocksOf (need setup : List Int) (plan : List (List Int)) : List (List Int) × Bool := if plan.length = setup.length then toldRows [] (rowsFrom need plan) else ([], false)
theorem stocks_ev (need setup hold : List Int) (plan : List (List Int)) (hn : need.length ≤ 6) (hm : setup.length ≤ 3) (hlen : ∀ p ∈ plan, p.length < 1000000000) :
    Ev (fun k => impl_Chain_stocks.f k need setup hold plan) (stocksOf need setup plan) := by
  unfold impl_Chain_stocks.f stocksOf
  by_cases h : plan.length = setup.length
  · rw [if_pos h]
    exact Ev.pos (by omega) (stocks_l0 need setup hold plan hn (by omega) hlen plan.length 0 [] (by omega) rfl)
  · rw [if_neg h]
    exact Ev.neg (by omega) (Ev.now _)
def sums (need : List Int) (plan : List (List Int)) (s t : Nat) : Int := dsum (if s < plan.length then plan.getD s [] else need) t
def fn (l : List Int) (s : Nat) : Int := l.getD s 0
def termOf (need setup hold : List Int) (plan : List (List Int)) (s t : Nat) : Int :=
  (if 0 < (plan.getD s []).getD t 0 then fn setup s else 0) + fn hold s * (sums need plan s (t + 1) - sums need plan (s + 1) (t + 1))
theorem rowsFrom_spec (need : List Int) : ∀ (plan rows : List (List Int)), rowsFrom need plan = some rows → rows.length = plan.length ∧ ∀ s, s < plan.length →
    rows.getD s [] = rowOf need.length (plan.getD s []) (if s + 1 < plan.length then plan.getD (s + 1) [] else need) ∧ stageB need.length (plan.getD s []) (if s + 1 < plan.length then plan.getD (s + 1) [] else need) = true
  | [], rows, h => by
    simp [rowsFrom] at h; subst h; exact ⟨rfl, fun s hs => by simp at hs⟩
  | p :: ps, rows, h => by
    simp only [rowsFrom] at h
    split at h
    · rename_i hb
      cases hr : rowsFrom need ps with
      | none => rw [hr] at h; simp at h
      | some r =>
        rw [hr] at h; simp at h; subst h
        obtain ⟨h1, h2⟩ := rowsFrom_spec need ps r hr
        refine ⟨(by simp [h1]), fun s hs => ?_⟩
        cases s with
        | zero =>
          have e : (if 0 + 1 < (p :: ps).length then (p :: ps).getD (0 + 1) [] else need) = ps.headD need := by cases ps <;> simp
          rw [e]; exact ⟨(by simp), (by simpa using hb)⟩
        | succ s =>
          have hs' : s < ps.length := by simpa using hs
          have h3 := h2 s hs'
          have e : (if s + 1 + 1 < (p :: ps).length then (p :: ps).getD (s + 1 + 1) [] else need) = if s + 1 < ps.length then ps.getD (s + 1) [] else need := by
            simp
          rw [e]; simpa using h3
    · simp at h
structure PlanOk (need : List Int) (plan : List (List Int)) : Prop where
  len : ∀ s, s < plan.length → (plan.getD s []).length = need.length
  amt : ∀ s t, s < plan.length → t < need.length → 0 ≤ (plan.getD s []).getD t 0 ∧ (plan.getD s []).getD t 0 ≤ 120
  feas : Feas plan.length need.length (dsum need) (sums need plan)
  low : ∀ s t, s ≤ plan.length → t ≤ need.length → 0 ≤ sums need plan s t ∧ sums need plan s t ≤ 120 * (need.length : Int)
theorem planOk_of (need : List Int) (plan rows : List (List Int)) (hneed : need.all (inB 0 20) = true) (h : rowsFrom need plan = some rows) : PlanOk need plan := by
  obtain ⟨h1, h2⟩ := rowsFrom_spec need plan rows h
  have hst : ∀ s, s < plan.length → (plan.getD s []).length = need.length ∧ (∀ x ∈ plan.getD s [], 0 ≤ x ∧ x ≤ 120) ∧ goesB need.length (plan.getD s []) (if s + 1 < plan.length then plan.getD (s + 1) [] else need) 0 = true := by
    intro s hs
    have h3 := (h2 s hs).2
    unfold stageB at h3; simp only [Bool.and_eq_true, decide_eq_true_eq] at h3
    exact ⟨h3.1, fun x hx => inB_mem h3.2.2.1 hx, h3.2.2.2.2⟩
  have hgo : ∀ s t, s < plan.length → t ≤ need.length → sums need plan (s + 1) t ≤ sums need plan s t := by
    intro s t hs ht
    have h3 := (hst s hs).2.2
    unfold sums; rw [if_pos hs]
    rcases Nat.eq_zero_or_pos t with e | e
    · subst e; rw [dsum_zero, dsum_zero]; exact Int.le_refl _
    · unfold goesB at h3; simp only [Bool.and_eq_true, List.all_eq_true, List.mem_range'_1, decide_eq_true_eq] at h3
      have := h3.1 (t - 1) (by omega)
      rw [show t - 1 + 1 = t by omega] at this; omega
  have hend : ∀ s, s < plan.length → sums need plan s need.length = sums need plan (s + 1) need.length := by
    intro s hs
    have h3 := (hst s hs).2.2
    unfold sums; rw [if_pos hs]
    unfold goesB at h3; simp only [Bool.and_eq_true, decide_eq_true_eq] at h3
    exact h3.2
  have hlast : ∀ t, sums need plan plan.length t = dsum need t := by intro t; unfold sums; rw [if_neg (by omega)]
  refine ⟨fun s hs => (hst s hs).1, fun s t hs ht => (hst s hs).2.1 _ (getD_mem _ (by rw [(hst s hs).1]; exact ht)), ⟨fun s hs => dsum_zero _, ?_, fun t _ => hlast t, hgo⟩, ?_⟩
  · intro s hs
    have : ∀ d s, s + d = plan.length → sums need plan s need.length = dsum need need.length := by
      intro d
      induction d with
      | zero => intro s h; rw [show s = plan.length by omega, hlast]
      | succ d ih => intro s h; rw [hend s (by omega)]; exact ih (s + 1) (by omega)
    exact this (plan.length - s) s (by omega)
  · intro s t hs ht
    unfold sums
    split
    · rename_i h3
      have := dsum_bound (plan.getD s []) 120 (fun x hx => (hst s h3).2.1 x hx) t (by rw [(hst s h3).1]; exact ht)
      omega
    · have := dsum_bound need 20 (fun x hx => inB_mem hneed hx) t ht
      omega
theorem term_bound {need setup hold : List Int} {plan : List (List Int)} (ok : PlanOk need plan) (hn : need.length ≤ 6) (hs1 : ∀ x ∈ setup, 0 ≤ x ∧ x ≤ 99) (hh1 : ∀ x ∈ hold, 0 ≤ x ∧ x ≤ 9) {s t : Nat} (h1 : s < plan.length) (h2 : s < setup.length) (h3 : s < hold.length) (ht : t < need.length) :
    0 ≤ termOf need setup hold plan s t ∧ termOf need setup hold plan s t ≤ 10000 := by
  have a1 := hs1 _ (getD_mem setup h2); have a2 := hh1 _ (getD_mem hold h3)
  have a3 := ok.feas.over s (t + 1) h1 (by omega); have a4 := ok.low s (t + 1) (by omega) (by omega); have a5 := ok.low (s + 1) (t + 1) (by omega) (by omega)
  have a6 : 0 ≤ fn hold s * (sums need plan s (t + 1) - sums need plan (s + 1) (t + 1)) := Int.mul_nonneg a2.1 (by omega)
  have a7 : fn hold s * (sums need plan s (t + 1) - sums need plan (s + 1) (t + 1)) ≤ 9 * 720 := Int.mul_le_mul a2.2 (by omega) (by omega) (by omega)
  unfold termOf
  have e : fn setup s = setup.getD s 0 := rfl
  split <;> omega
theorem sum_bound {f : Nat → Int} {B : Int} : ∀ n, (∀ i, i < n → 0 ≤ f i ∧ f i ≤ B) → 0 ≤ sumN f n ∧ sumN f n ≤ B * (n : Int)
  | 0, _ => by simp [sumN]
  | n + 1, h => by
    have h1 := sum_bound n (fun i hi => h i (by omega)); have h2 := h n (by omega)
    simp only [sumN, Int.natCast_add, Int.mul_add]; simp; omega
theorem cost_l1 {need setup hold : List Int} {plan rows : List (List Int)} (hr : rowsFrom need plan = some rows) (ok : PlanOk need plan) (hn : need.length ≤ 6) (hm : plan.length ≤ 3) (hs1 : ∀ x ∈ setup, 0 ≤ x ∧ x ≤ 99) (hh1 : ∀ x ∈ hold, 0 ≤ x ∧ x ≤ 9)
    {s : Nat} (h1 : s < plan.length) (h2 : s < setup.length) (h3 : s < hold.length) {C R : Int} (hC : 0 ≤ C ∧ C ≤ 1000000)
    (hR : Ev (fun k => impl_Chain_cost.l0 k (C + sumN (termOf need setup hold plan s) need.length) rows plan (plan.length : Int) ((s + 1 : Nat) : Int) need setup hold) R) : ∀ d i, i + d = need.length →
    Ev (fun k => impl_Chain_cost.l1 k (C + sumN (termOf need setup hold plan s) i) rows (s : Int) plan (plan.length : Int) (s : Int) (plan.getD s []) ((plan.getD s []).length : Int) (i : Int) need setup hold) R
  | 0, i, h => by
    have hi : i = need.length := by omega
    subst hi
    refine Ev.step (fun k => impl_Chain_cost.l1.eq_2 ..) ?_
    have := ok.len s h1
    refine Ev.neg (by omega) ?_
    rw [wrS (by omega)]; exact hR
  | d + 1, i, h => by
    have hl := ok.len s h1
    obtain ⟨r1, r2⟩ := rowsFrom_spec need plan rows hr
    have hrow := (r2 s h1).1
    have e0 : rowOf need.length (plan.getD s []) (if s + 1 < plan.length then plan.getD (s + 1) [] else need) = rows.getD s [] := hrow.symm
    have hst : (rows.getD s []).getD i 0 = sums need plan s (i + 1) - sums need plan (s + 1) (i + 1) := by
      rw [hrow, rowOf_get _ _ _ (by omega)]
      unfold sums; rw [if_pos h1]
    have hrl : (rows.getD s []).length = need.length := by rw [hrow, rowOf_len]
    have tb := term_bound ok hn hs1 hh1 h1 h2 h3 (t := i) (by omega)
    have sb := sum_bound (f := termOf need setup hold plan s) (B := 10000) i (fun j hj => term_bound ok hn hs1 hh1 h1 h2 h3 (by omega))
    have hb1 := hs1 _ (getD_mem setup h2); have hb2 := hh1 _ (getD_mem hold h3)
    have a3 := ok.feas.over s (i + 1) h1 (by omega); have a4 := ok.low s (i + 1) (by omega) (by omega); have a5 := ok.low (s + 1) (i + 1) (by omega) (by omega)
    have a7 : fn hold s * (sums need plan s (i + 1) - sums need plan (s + 1) (i + 1)) ≤ 9 * 720 := Int.mul_le_mul hb2.2 (by omega) (by omega) (by omega)
    have a6 : 0 ≤ fn hold s * (sums need plan s (i + 1) - sums need plan (s + 1) (i + 1)) := Int.mul_nonneg hb2.1 (by omega)
    have ih := cost_l1 hr ok hn hm hs1 hh1 h1 h2 h3 hC hR d (i + 1) (by omega)
    refine Ev.step (fun k => impl_Chain_cost.l1.eq_2 ..) ?_
    refine Ev.pos (by omega) (Ev.pos (by omega) (Ev.pos (by omega) ?_))
    simp only [rdL_nat, rd_nat]
    have eh : hold.getD s 0 = fn hold s := rfl
    have es : setup.getD s 0 = fn setup s := rfl
    rw [hst, hrl, eh, es, wr (n := fn hold s * (sums need plan s (i + 1) - sums need plan (s + 1) (i + 1))) (by omega) (by omega)]
    by_cases hp : (plan.getD s []).getD i 0 > 0
    · refine Ev.pos hp (Ev.pos (by omega) (Ev.pos (by omega) (Ev.pos (by omega) (Ev.pos (by omega) (Ev.pos (by omega) ?_)))))
      have et : termOf need setup hold plan s i = fn setup s + fn hold s * (sums need plan s (i + 1) - sums need plan (s + 1) (i + 1)) := by unfold termOf; rw [if_pos hp]
      rw [wr (n := C + sumN (termOf need setup hold plan s) i + fn setup s) (by omega) (by omega), wr (by omega) (by omega), wrS (by omega)]
      rw [show C + sumN (termOf need setup hold plan s) i + fn setup s + fn hold s * (sums need plan s (i + 1) - sums need plan (s + 1) (i + 1)) = C + sumN (termOf need setup hold plan s) (i + 1) by simp only [sumN]; omega]
      exact ih
    · refine Ev.neg hp (Ev.pos (by omega) (Ev.pos (by omega) (Ev.pos (by omega) (Ev.pos (by omega) ?_))))
      have et : termOf need setup hold plan s i = fn hold s * (sums need plan s (i + 1) - sums need plan (s + 1) (i + 1)) := by unfold termOf; rw [if_neg (by omega)]; omega
      rw [wr (by omega) (by omega), wrS (by omega)]
      rw [show C + sumN (termOf need setup hold plan s) i + fn hold s * (sums need plan s (i + 1) - sums need plan (s + 1) (i + 1)) = C + sumN (termOf need setup hold plan s) (i + 1) by simp only [sumN]; omega]
      exact ih
theorem cost_l0 {need setup hold : List Int} {plan rows : List (List Int)} (hr : rowsFrom need plan = some rows) (ok : PlanOk need plan) (hn : need.length ≤ 6) (hm : plan.length ≤ 3) (hs1 : ∀ x ∈ setup, 0 ≤ x ∧ x ≤ 99) (hh1 : ∀ x ∈ hold, 0 ≤ x ∧ x ≤ 9)
    (h2 : plan.length = setup.length) (h3 : hold.length = setup.length) : ∀ d s, s + d = plan.length →
    Ev (fun k => impl_Chain_cost.l0 k (sumN (fun s => sumN (termOf need setup hold plan s) need.length) s) rows plan (plan.length : Int) (s : Int) need setup hold) (sumN (fun s => sumN (termOf need setup hold plan s) need.length) plan.length)
  | 0, s, h => by
    refine Ev.step (fun k => impl_Chain_cost.l0.eq_2 ..) ?_
    refine Ev.neg (by omega) ((Ev.now _).to ?_)
    rw [show s = plan.length by omega]
  | d + 1, s, h => by
    have ih := cost_l0 hr ok hn hm hs1 hh1 h2 h3 d (s + 1) (by omega)
    have hC := sum_bound (f := fun s => sumN (termOf need setup hold plan s) need.length) (B := 60000) s (fun j hj => by
      have := sum_bound (f := termOf need setup hold plan j) (B := 10000) need.length (fun i hi => term_bound ok hn hs1 hh1 (by omega) (by omega) (by omega) hi)
      omega)
    refine Ev.step (fun k => impl_Chain_cost.l0.eq_2 ..) ?_
    refine Ev.pos (by omega) (Ev.pos (by omega) (Ev.pos (by omega) ?_))
    rw [rdL_nat]
    have := cost_l1 hr ok hn hm hs1 hh1 (show s < plan.length by omega) (by omega) (by omega) (C := sumN (fun s => sumN (termOf need setup hold plan s) need.length) s) (by omega) ih need.length 0 (by omega)
    simpa [sumN] using this
theorem term_sum {need setup hold : List Int} {plan : List (List Int)} (ok : PlanOk need plan) {s : Nat} (h1 : s < plan.length) :
    sumN (termOf need setup hold plan s) need.length = fn setup s * (cnt (chg (sums need plan s)) need.length : Int) + fn hold s * sumN (fun t => sums need plan s (t + 1) - sums need plan (s + 1) (t + 1)) need.length := by
  rw [← sum_setup, ← sumN_mul, ← sumN_add]
  refine sumN_congr _ fun t ht => ?_
  unfold termOf
  congr 1
  have h2 := ok.amt s t h1 ht
  have h3 : sums need plan s (t + 1) = sums need plan s t + (plan.getD s []).getD t 0 := by
    unfold sums; rw [if_pos h1]; exact dsum_succ _ (by rw [ok.len s h1]; exact ht)
  by_cases h4 : 0 < (plan.getD s []).getD t 0
  · rw [if_pos h4, if_pos (by unfold chg; simp; omega)]
  · rw [if_neg h4, if_neg (by unfold chg; simp; omega)]
def planCost (need setup hold : List Int) (plan : List (List Int)) : Int := hcost plan.length need.length (fn setup) (fn hold) (sums need plan)
theorem cost_ev {need setup hold : List Int} {plan rows : List (List Int)} (hr : rowsFrom need plan = some rows) (ok : PlanOk need plan) (hn : need.length ≤ 6) (hm : plan.length ≤ 3) (hs1 : ∀ x ∈ setup, 0 ≤ x ∧ x ≤ 99) (hh1 : ∀ x ∈ hold, 0 ≤ x ∧ x ≤ 9)
    (h2 : plan.length = setup.length) (h3 : hold.length = setup.length) : Ev (fun k => impl_Chain_cost.f k need setup hold plan) (planCost need setup hold plan) := by
  unfold impl_Chain_cost.f
  have hlen : ∀ p ∈ plan, p.length < 1000000000 := by
    intro p hp
    obtain ⟨s, hs, e⟩ := List.getElem_of_mem hp
    have := ok.len s hs
    rw [List.getD_eq_getElem?_getD, List.getElem?_eq_getElem hs] at this
    simp at this; rw [← e]; omega
  refine Ev.bind (stocks_ev need setup hold plan hn (by omega) hlen) ?_
  have e : (stocksOf need setup plan).1 = rows := by unfold stocksOf; rw [if_pos h2, hr]; simp [toldRows]
  rw [e]
  refine (cost_l0 hr ok hn hm hs1 hh1 h2 h3 plan.length 0 (by omega)).to ?_
  unfold planCost hcost
  exact sumN_congr _ fun s hs => term_sum ok hs
theorem evenCase_l0 (a b : Int) (need z : List Int) (n : Nat) (hn : n ≤ 1000000) : ∀ (d i : Nat) (x y : List Int), i + d = n → x.length = i → y.length = i →
    Ev (fun k => impl_evenCase.l0 k a b (n : Int) (i : Int) need x z y) (need, x ++ List.replicate d a, z, y ++ List.replicate d b)
  | 0, i, x, y, h, _, _ => by
    refine Ev.step (fun k => impl_evenCase.l0.eq_2 ..) ?_
    exact Ev.neg (by omega) ((Ev.now _).to (by simp))
  | d + 1, i, x, y, h, hx, hy => by
    refine Ev.step (fun k => impl_evenCase.l0.eq_2 ..) ?_
    refine Ev.pos (by omega) ?_
    simp only [Option.bind_some]
    refine Ev.pos (by simp; omega) (Ev.pos (by simp; omega) ?_)
    rw [wrS (by omega)]
    refine (evenCase_l0 a b need z n hn d (i + 1) (x ++ [a]) (y ++ [b]) (by omega) (by simp [hx]) (by simp [hy])).to ?_
    simp [List.replicate_succ]
theorem evenCase_ev (need : List Int) (a b : Int) (hn : need.length ≤ 1000000) :
    Ev (fun k => impl_evenCase.f k need a b) (need, List.replicate need.length a, List.replicate need.length 0, List.replicate need.length b) := by
  unfold impl_evenCase.f
  refine Ev.bind (Ev.const (copied_eq need (by omega))) (Ev.pos (by omega) (Ev.pos (by omega) ?_))
  exact (evenCase_l0 a b need _ need.length hn need.length 0 [] [] (by omega) rfl rfl).to (by simp)
def nestedOf (need : List Int) (Os : List (Nat → Bool)) : List (List Int) × Bool := if ∀ O ∈ Os, cover need O then (Os.map (planOf need), true) else ([], false)
theorem nested_l0 (need setup hold : List Int) (Os : List (Nat → Bool)) (hl : need.length ≤ 1000) (hn : ∀ x ∈ need, 0 ≤ x ∧ x ≤ 1000000) (hO : Os.length ≤ 1000) : ∀ d i, i + d = Os.length → (∀ O ∈ Os.take i, cover need O) →
    Ev (fun k => impl_Chain_nested.l0 k ((Os.take i).map (planOf need)) (Os.map fun O => per O need.length) (Os.length : Int) (i : Int) need setup hold) (nestedOf need Os)
  | 0, i, h, hc => by
    refine Ev.step (fun k => impl_Chain_nested.l0.eq_2 ..) ?_
    refine Ev.neg (by omega) ((Ev.now _).to ?_)
    rw [List.take_of_length_le (by omega)] at hc ⊢
    unfold nestedOf; rw [if_pos hc]
  | d + 1, i, h, hc => by
    have hi : i < Os.length := by omega
    refine Ev.step (fun k => impl_Chain_nested.l0.eq_2 ..) ?_
    refine Ev.pos (by omega) (Ev.pos (by omega) (Ev.pos z44 (Ev.bind (evenCase_ev need 0 0 (by omega)) ?_)))
    rw [rdL_nat]
    have e : (Os.map fun O => per O need.length).getD i [] = per Os[i] need.length := by
      rw [List.getD_eq_getElem?_getD, List.getElem?_map, List.getElem?_eq_getElem hi]; rfl
    rw [e]
    refine Ev.bind (planFrom_ev need _ _ _ Os[i] hl hn) ?_
    by_cases hcv : cover need Os[i]
    · rw [if_pos hcv]
      refine Ev.pos rfl (Ev.pos (by rw [List.length_map, List.length_take]; omega) ?_)
      rw [wrS (by omega)]
      have e2 : (Os.take i).map (planOf need) ++ [planOf need Os[i]] = (Os.take (i + 1)).map (planOf need) := by rw [List.take_succ_eq_append_getElem hi, List.map_append]; rfl
      rw [e2]
      refine nested_l0 need setup hold Os hl hn hO d (i + 1) (by omega) ?_
      intro O hO2
      rw [List.take_succ_eq_append_getElem hi, List.mem_append] at hO2
      rcases hO2 with h2 | h2
      · exact hc O h2
      · simp at h2; rw [h2]; exact hcv
    · rw [if_neg hcv]
      refine Ev.neg (by simp) ((Ev.now _).to ?_)
      unfold nestedOf; rw [if_neg (fun h2 => hcv (h2 _ (List.getElem_mem hi)))]
theorem nested_ev (need setup hold : List Int) (Os : List (Nat → Bool)) (hl : need.length ≤ 1000) (hn : ∀ x ∈ need, 0 ≤ x ∧ x ≤ 1000000) (hO : Os.length ≤ 1000) :
    Ev (fun k => impl_Chain_nested.f k need setup hold (Os.map fun O => per O need.length)) (nestedOf need Os) := by
  unfold impl_Chain_nested.f
  rw [List.length_map]
  exact nested_l0 need setup hold Os hl hn hO Os.length 0 (by omega) (by simp)
theorem dsum_planOf (need : List Int) (O : Nat → Bool) (hc : cover need O) : ∀ t, t ≤ need.length → dsum (planOf need O) t = dsum need (nxt O need.length t)
  | 0, _ => by rw [dsum_zero]; exact hc.symm
  | t + 1, h => by
    rw [dsum_succ _ (by rw [planOf_len]; omega), dsum_planOf need O hc t (by omega), planOf_get need O (by omega)]
    by_cases ho : O t = true
    · rw [if_pos ho, nxt_self O ho]; omega
    · have ho : O t = false := by simpa using ho
      rw [if_neg (by simp [ho]), nxt_step O ho (by omega)]; omega
theorem planOf_amt (need : List Int) (O : Nat → Bool) (hn : need.length ≤ 6) (hneed : need.all (inB 0 20) = true) {t : Nat} (ht : t < need.length) : 0 ≤ (planOf need O).getD t 0 ∧ (planOf need O).getD t 0 ≤ 120 := by
  rw [planOf_get need O ht]
  split
  · have h1 := nxt_ge O need.length (t + 1); have h2 := nxt_le O (n := need.length) (t := t + 1) (by omega)
    have h3 := dsum_mono need (fun x hx => (inB_mem hneed hx).1) t (nxt O need.length (t + 1)) (by omega) h2
    have h4 := dsum_bound need 20 (fun x hx => inB_mem hneed hx) t (by omega)
    have h5 := dsum_bound need 20 (fun x hx => inB_mem hneed hx) (nxt O need.length (t + 1)) h2
    omega
  · omega
theorem all_getD {l : List Int} {lo hi : Int} (h : ∀ t, t < l.length → lo ≤ l.getD t 0 ∧ l.getD t 0 ≤ hi) : l.all (inB lo hi) = true := by
  rw [List.all_eq_true]
  intro x hx
  obtain ⟨i, hi, e⟩ := List.getElem_of_mem hx
  have := h i hi
  rw [List.getD_eq_getElem?_getD, List.getElem?_eq_getElem hi] at this
  simp at this; unfold inB; rw [e] at this; simpa using this
theorem planOf_stage (need q : List Int) (O : Nat → Bool) (hn : need.length ≤ 6) (hneed : need.all (inB 0 20) = true) (hc : cover need O) (hq : q.length = need.length) (hqb : q.all (inB 0 120) = true)
    (hle : ∀ t, t ≤ need.length → dsum q t ≤ dsum need (nxt O need.length t)) (hend : dsum q need.length = dsum need need.length) : stageB need.length (planOf need O) q = true := by
  have h1 : (planOf need O).all (inB 0 120) = true := all_getD fun t ht => planOf_amt need O hn hneed (by rw [planOf_len] at ht; exact ht)
  have h2 : goesB need.length (planOf need O) q 0 = true := by
    unfold goesB
    rw [Bool.and_eq_true]
    refine ⟨?_, ?_⟩
    · rw [List.all_eq_true]
      intro t ht
      rw [List.mem_range'_1] at ht
      rw [dsum_planOf need O hc _ (by omega)]
      have := hle (t + 1) (by omega)
      simpa using this
    · rw [dsum_planOf need O hc _ (Nat.le_refl _), nxt_n, hend]; simp
  unfold stageB
  rw [h1, h2, hqb, decide_eq_true (planOf_len need O), decide_eq_true hq]; rfl
structure NestL (need : List Int) (Os : List (Nat → Bool)) : Prop where
  cov : ∀ O ∈ Os, cover need O
  sub : ∀ s t (h : s + 1 < Os.length), Os[s] t = true → Os[s + 1] t = true
theorem nest_nxt {need : List Int} {Os : List (Nat → Bool)} (hs : ∀ s t (h : s + 1 < Os.length), Os[s] t = true → Os[s + 1] t = true) {s t : Nat} (h : s + 1 < Os.length) (ht : t ≤ need.length) : nxt Os[s + 1] need.length t ≤ nxt Os[s] need.length t := by
  by_cases e : nxt Os[s] need.length t < need.length
  · exact nxt_min _ (nxt_ge _ _ _) (hs s _ h (nxt_in _ e))
  · have := nxt_le Os[s + 1] ht; omega
theorem nested_rows (need : List Int) (hn : need.length ≤ 6) (hneed : need.all (inB 0 20) = true) : ∀ (Os : List (Nat → Bool)), NestL need Os → ∃ rows, rowsFrom need (Os.map (planOf need)) = some rows
  | [], _ => ⟨[], rfl⟩
  | O :: Os, h => by
    have hD := dsum_mono need (fun x hx => (inB_mem hneed hx).1)
    obtain ⟨rows, hr⟩ := nested_rows need hn hneed Os ⟨fun O' hO' => h.cov O' (by simp [hO']), fun s t hs ho => h.sub (s + 1) t (by simpa using hs) ho⟩
    have hst : stageB need.length (planOf need O) ((Os.map (planOf need)).headD need) = true := by
      cases Os with
      | nil =>
        refine planOf_stage need need O hn hneed (h.cov O (by simp)) rfl ?_ (fun t ht => hD t _ (nxt_ge _ _ _) (nxt_le _ ht)) rfl
        rw [List.all_eq_true] at hneed ⊢
        intro x hx; have := hneed x hx; unfold inB at this ⊢; simp at this ⊢; omega
      | cons O2 Os =>
        have hc2 := h.cov O2 (by simp)
        refine planOf_stage need (planOf need O2) O hn hneed (h.cov O (by simp)) (planOf_len _ _) (all_getD fun t ht => planOf_amt need O2 hn hneed (by rw [planOf_len] at ht; exact ht)) (fun t ht => ?_) ?_
        · rw [dsum_planOf need O2 hc2 t ht]
          exact hD _ _ (nest_nxt (s := 0) h.sub (by simp) ht) (nxt_le _ ht)
        · rw [dsum_planOf need O2 hc2 _ (Nat.le_refl _), nxt_n]
    exact ⟨rowOf need.length (planOf need O) ((Os.map (planOf need)).headD need) :: rows, (by simp only [List.map_cons, rowsFrom]; rw [if_pos hst, hr]; rfl)⟩
end Go.Proofs.Ythlmmcmpllgflaa.P
namespace Go.Proofs.Ythlmmcmpllgflaa.P
open Go.RowKit Go.Proofs.YthlmmcmpllgflaaW.PrintWords Go.Proofs.YthlmmcmpllgflaaW.PrintLast Go.Proofs.YthlmmcmpllgflaaW.PrintMore
attribute [local go_sem] max2_int min2_int max_two min_two max_three min_three max_four min_four
set_option linter.unusedVariables false
set_option linter.unusedSimpArgs false
def cmp_Compare_int.f (a0 : Int) (a1 : Int) : Option (Int) := (cmp_isNaN_int.f a0).bind fun t443 => ((cmp_isNaN_int.f a1).bind fun t444 => (if t443 = true then (if t444 = true then (some 0) else (some (-1))) else (if t444 = true then (some 1) else (if a0 < a1 then (some (-1)) else (if a0 > a1 then (some 1) else (some 0))))))
set_option maxHeartbeats 8000000 in
set_option maxRecDepth 100000 in
theorem cmp_Compare_int.calls (a0 : Int) (a1 : Int) (r : Int) (w : World) (h : cmp_Compare_int.f a0 a1 = some r) :
 Calls Try.prog 131 #[.int .i64 a0, .int .i64 a1] w fun e w' => e = .returned (.int .i64 r) ∧ Drawn0 w w' := by
 have H : ((cmp_isNaN_int.f a0).bind fun t443 => ((cmp_isNaN_int.f a1).bind fun t444 => (if t443 = true then (if t444 = true then (some 0) else (some (-1))) else (if t444 = true then (some 1) else (if a0 < a1 then (some (-1)) else (if a0 > a1 then (some 1) else (some 0))))))) = some r := h
 clear h
 replace H := Option.bind_eq_some_iff.mp H
 obtain ⟨t443, A30, H⟩ := H
 replace H : ((cmp_isNaN_int.f a1).bind fun t444 => (if t443 = true then (if t444 = true then (some 0) else (some (-1))) else (if t444 = true then (some 1) else (if a0 < a1 then (some (-1)) else (if a0 > a1 then (some 1) else (some 0)))))) = some r := H
 have A3 := Aside0.mk A30
 clear A30
 replace H := Option.bind_eq_some_iff.mp H
 obtain ⟨t444, A40, H⟩ := H
 replace H : (if t443 = true then (if t444 = true then (some 0) else (some (-1))) else (if t444 = true then (some 1) else (if a0 < a1 then (some (-1)) else (if a0 > a1 then (some 1) else (some 0))))) = some r := H
 have A4 := Aside0.mk A40
 clear A40
 by_cases c5 : t443 = true
 · subst c5
   have H1 : (if t444 = true then (some 0) else (some (-1))) = some r := by rw [if_pos rfl] at H; exact H
   clear H
   have H := H1
   clear H1
   by_cases c6 : t444 = true
   · subst c6
     have H1 : (some 0) = some r := by rw [if_pos rfl] at H; exact H
     clear H
     have H := H1
     clear H1
     obtain rfl := Option.some.inj H
     go_enter Try.func131, Try.ntmps131
     go_wp2_with (first | ((with_reducible refine gate_callee (f := 133) rfl ?_); refine goesL_ (some 8) rfl rfl Try.func133 (by kernel_rfl) rfl #[.int .i64 a0] rfl z2 ?_; (with_reducible refine (cmp_isNaN_int.calls a0 true _ A3.out).mono ?_); rintro e w' ⟨rfl, ⟨nd, rfl⟩⟩; refine ⟨_, rfl, ?_⟩) | ((with_reducible refine gate_callee (f := 133) rfl ?_); refine goesL_ (some 10) rfl rfl Try.func133 (by kernel_rfl) rfl #[.int .i64 a1] rfl z2 ?_; (with_reducible refine (cmp_isNaN_int.calls a1 true _ A4.out).mono ?_); rintro e w' ⟨rfl, ⟨nd, rfl⟩⟩; refine ⟨_, rfl, ?_⟩))
     go_ret
     exact ⟨z3, z4⟩
   · replace c6 := Bool.eq_false_iff.mpr c6
     subst c6
     have H1 : (some (-1)) = some r := by rw [if_neg (show ¬ (false = true) by decide)] at H; exact H
     clear H
     have H := H1
     clear H1
     obtain rfl := Option.some.inj H
     go_enter Try.func131, Try.ntmps131
     go_wp2_with (first | ((with_reducible refine gate_callee (f := 133) rfl ?_); refine goesL_ (some 8) rfl rfl Try.func133 (by kernel_rfl) rfl #[.int .i64 a0] rfl z2 ?_; (with_reducible refine (cmp_isNaN_int.calls a0 true _ A3.out).mono ?_); rintro e w' ⟨rfl, ⟨nd, rfl⟩⟩; refine ⟨_, rfl, ?_⟩) | ((with_reducible refine gate_callee (f := 133) rfl ?_); refine goesL_ (some 10) rfl rfl Try.func133 (by kernel_rfl) rfl #[.int .i64 a1] rfl z2 ?_; (with_reducible refine (cmp_isNaN_int.calls a1 false _ A4.out).mono ?_); rintro e w' ⟨rfl, ⟨nd, rfl⟩⟩; refine ⟨_, rfl, ?_⟩))
     go_ret
     exact ⟨z3, z4⟩
 · replace c5 := Bool.eq_false_iff.mpr c5
   subst c5
   have H1 : (if t444 = true then (some 1) else (if a0 < a1 then (some (-1)) else (if a0 > a1 then (some 1) else (some 0)))) = some r := by rw [if_neg (show ¬ (false = true) by decide)] at H; exact H
   clear H
   have H := H1
   clear H1
   by_cases c7 : t444 = true
   · subst c7
     have H1 : (some 1) = some r := by rw [if_pos rfl] at H; exact H
     clear H
     have H := H1
     clear H1
     obtain rfl := Option.some.inj H
     go_enter Try.func131, Try.ntmps131
     go_wp2_with (first | ((with_reducible refine gate_callee (f := 133) rfl ?_); refine goesL_ (some 8) rfl rfl Try.func133 (by kernel_rfl) rfl #[.int .i64 a0] rfl z2 ?_; (with_reducible refine (cmp_isNaN_int.calls a0 false _ A3.out).mono ?_); rintro e w' ⟨rfl, ⟨nd, rfl⟩⟩; refine ⟨_, rfl, ?_⟩) | ((with_reducible refine gate_callee (f := 133) rfl ?_); refine goesL_ (some 10) rfl rfl Try.func133 (by kernel_rfl) rfl #[.int .i64 a1] rfl z2 ?_; (with_reducible refine (cmp_isNaN_int.calls a1 true _ A4.out).mono ?_); rintro e w' ⟨rfl, ⟨nd, rfl⟩⟩; refine ⟨_, rfl, ?_⟩))
     go_ret
     exact ⟨z3, z4⟩
   · replace c7 := Bool.eq_false_iff.mpr c7
     subst c7
     have H1 : (if a0 < a1 then (some (-1)) else (if a0 > a1 then (some 1) else (some 0))) = some r := by rw [if_neg (show ¬ (false = true) by decide)] at H; exact H
     clear H
     have H := H1
     clear H1
     by_cases c8 : a0 < a1
     · rw [if_pos c8] at H
       have c8b0 : decide (a0 < a1) = true := decide_eq_true c8
       clear c8
       obtain rfl := Option.some.inj H
       go_enter Try.func131, Try.ntmps131
       go_wp2_with (first | ((with_reducible refine gate_callee (f := 133) rfl ?_); refine goesL_ (some 8) rfl rfl Try.func133 (by kernel_rfl) rfl #[.int .i64 a0] rfl z2 ?_; (with_reducible refine (cmp_isNaN_int.calls a0 false _ A3.out).mono ?_); rintro e w' ⟨rfl, ⟨nd, rfl⟩⟩; refine ⟨_, rfl, ?_⟩) | ((with_reducible refine gate_callee (f := 133) rfl ?_); refine goesL_ (some 10) rfl rfl Try.func133 (by kernel_rfl) rfl #[.int .i64 a1] rfl z2 ?_; (with_reducible refine (cmp_isNaN_int.calls a1 false _ A4.out).mono ?_); rintro e w' ⟨rfl, ⟨nd, rfl⟩⟩; refine ⟨_, rfl, ?_⟩))
       go_ret
       exact ⟨z3, z4⟩
     · rw [if_neg c8] at H
       have c8b0 : decide (a0 < a1) = false := decide_eq_false c8
       clear c8
       by_cases c9 : a0 > a1
       · rw [if_pos c9] at H
         have c9b0 : decide (a1 < a0) = true := decide_eq_true c9
         clear c9
         obtain rfl := Option.some.inj H
         go_enter Try.func131, Try.ntmps131
         go_wp2_with (first | ((with_reducible refine gate_callee (f := 133) rfl ?_); refine goesL_ (some 8) rfl rfl Try.func133 (by kernel_rfl) rfl #[.int .i64 a0] rfl z2 ?_; (with_reducible refine (cmp_isNaN_int.calls a0 false _ A3.out).mono ?_); rintro e w' ⟨rfl, ⟨nd, rfl⟩⟩; refine ⟨_, rfl, ?_⟩) | ((with_reducible refine gate_callee (f := 133) rfl ?_); refine goesL_ (some 10) rfl rfl Try.func133 (by kernel_rfl) rfl #[.int .i64 a1] rfl z2 ?_; (with_reducible refine (cmp_isNaN_int.calls a1 false _ A4.out).mono ?_); rintro e w' ⟨rfl, ⟨nd, rfl⟩⟩; refine ⟨_, rfl, ?_⟩))
         go_ret
         exact ⟨z3, z4⟩
       · rw [if_neg c9] at H
         have c9b0 : decide (a1 < a0) = false := decide_eq_false c9
         clear c9
         obtain rfl := Option.some.inj H
         go_enter Try.func131, Try.ntmps131
         go_wp2_with (first | ((with_reducible refine gate_callee (f := 133) rfl ?_); refine goesL_ (some 8) rfl rfl Try.func133 (by kernel_rfl) rfl #[.int .i64 a0] rfl z2 ?_; (with_reducible refine (cmp_isNaN_int.calls a0 false _ A3.out).mono ?_); rintro e w' ⟨rfl, ⟨nd, rfl⟩⟩; refine ⟨_, rfl, ?_⟩) | ((with_reducible refine gate_callee (f := 133) rfl ?_); refine goesL_ (some 10) rfl rfl Try.func133 (by kernel_rfl) rfl #[.int .i64 a1] rfl z2 ?_; (with_reducible refine (cmp_isNaN_int.calls a1 false _ A4.out).mono ?_); rintro e w' ⟨rfl, ⟨nd, rfl⟩⟩; refine ⟨_, rfl, ?_⟩))
         go_ret
         exact ⟨z3, z4⟩
def slices_Compare_int_int.l0 : Nat → List Int → List Int → List Int → Int → Int → Option (Int)
 | 0, _, _, _, _, _ => none
 | k + 1, x0, x1, x9, x10, x11 => if x11 < x10 then (if 0 ≤ x11 then (if x11 < (x9.length : Int) then (if x11 ≥ (x1.length : Int) then (some 1) else (if x11 < (x1.length : Int) then ((cmp_Compare_int.f (rd x9 x11) (rd x1 x11)).bind fun t447 => (if t447 = 0 then (slices_Compare_int_int.l0 k x0 x1 x9 x10 (wrap64 (x11 + 1))) else (some t447))) else (none))) else (none)) else (none)) else (if (x0.length : Int) < (x1.length : Int) then (some (-1)) else (some 0))
def slices_Compare_int_int.f (k : Nat) (l0 : List Int) (l1 : List Int) : Option (Int) := slices_Compare_int_int.l0 k l0 l1 l0 (l0.length : Int) 0
set_option maxHeartbeats 8000000 in
set_option maxRecDepth 100000 in
theorem slices_Compare_int_int.calls (k : Nat) (A0 : Option Addr) (c0 : Nat) (l0 : List Int) (A1 : Option Addr) (c1 : Nat) (l1 : List Int) (r : Int) (w : World) (hr0 : Kd.C (Kd.int .i64) w A0 l0.length l0) (hc0 : l0.length ≤ c0) (hr1 : Kd.C (Kd.int .i64) w A1 l1.length l1) (hc1 : l1.length ≤ c1) (h : slices_Compare_int_int.f k l0 l1 = some r) :
 Calls Try.prog 119 #[.slice A0 l0.length c0, .slice A1 l1.length c1] w fun e w' => e = .returned (.int .i64 r) ∧ Drawn0 w w' := by
 have HR0 := Aside0.mk hr0
 have HC0 := Aside0.mk hc0
 clear hr0 hc0
 have HR1 := Aside0.mk hr1
 have HC1 := Aside0.mk hc1
 clear hr1 hc1
 have H : (slices_Compare_int_int.l0 k l0 l1 l0 (l0.length : Int) 0) = some r := h
 clear h
 have H' := Aside0.mk H
 clear H
 go_enter Try.func119, Try.ntmps119
 go_wp2
 go_loopg [11] k (fun kq v11 w' => ∃ (x11_1 : Int), v11 = .int .i64 x11_1 ∧ Aside0 (slices_Compare_int_int.l0 kq l0 l1 l0 (l0.length : Int) x11_1 = some r) ∧ Aside0 (kq ≤ k) ∧ Drawn0 w w')
 case atStart => exact ⟨(0), z3, H', ⟨Nat.le_refl _⟩, z4⟩
 case round =>
  clear H'
  try clear c1
  try clear p2
  obtain ⟨x11_1, rfl, HA, HK1, ⟨m1, rfl⟩⟩ := hrel
  cases gk with
  | zero => exact absurd HA.out (by simp [slices_Compare_int_int.l0])
  | succ k1 =>
   have H := HA.out
   clear HA
   simp only [slices_Compare_int_int.l0] at H
   by_cases c3 : x11_1 < (l0.length : Int)
   · rw [if_pos c3] at H
     have c3b0 : decide (x11_1 < (l0.length : Int)) = true := decide_eq_true c3
     clear c3
     by_cases c4 : 0 ≤ x11_1
     · rw [if_pos c4] at H
       have c4b0 : decide (0 ≤ x11_1) = true := decide_eq_true c4
       clear c4
       by_cases c5 : x11_1 < (l0.length : Int)
       · rw [if_pos c5] at H
         have c5b0 : decide (x11_1 < (l0.length : Int)) = true := decide_eq_true c5
         clear c5
         by_cases c6 : x11_1 ≥ (l1.length : Int)
         · rw [if_pos c6] at H
           have c6b0 : decide ((l1.length : Int) ≤ x11_1) = true := decide_eq_true c6
           clear c6
           obtain rfl := Option.some.inj H
           have p445 : 0 ≤ (x11_1 : Int) := of_decide_eq_true z1
           have q445 : x11_1 < (l0.length : Int) := of_decide_eq_true z1
           obtain ⟨ad445, e445, hx445_0⟩ := Kd.at_int HR0.out x11_1 p445 q445
           cases e445
           replace p445 := eq_true p445
           replace q445 := eq_true q445
           go_wp2
           go_ret
           exact ⟨z3, z4⟩
         · rw [if_neg c6] at H
           have c6b0 : decide ((l1.length : Int) ≤ x11_1) = false := decide_eq_false c6
           clear c6
           by_cases c7 : x11_1 < (l1.length : Int)
           · rw [if_pos c7] at H
             have c7b0 : decide (x11_1 < (l1.length : Int)) = true := decide_eq_true c7
             clear c7
             replace H := Option.bind_eq_some_iff.mp H
             obtain ⟨t447, A80, H⟩ := H
             replace H : (if t447 = 0 then (slices_Compare_int_int.l0 k1 l0 l1 l0 (l0.length : Int) (wrap64 (x11_1 + 1))) else (some t447)) = some r := H
             have A8 := Aside0.mk A80
             clear A80
             by_cases c9 : t447 = 0
             · rw [if_pos c9] at H
               have c9b0 : (t447 == 0) = true := beq_iff_eq.mpr c9
               have c9b1 : (t447 != 0) = false := bne_eq_false_iff_eq.mpr c9
               clear c9
               have H' := Aside0.mk H
               clear H
               have p445 : 0 ≤ (x11_1 : Int) := of_decide_eq_true z1
               have q445 : x11_1 < (l0.length : Int) := of_decide_eq_true z1
               obtain ⟨ad445, e445, hx445_0⟩ := Kd.at_int HR0.out x11_1 p445 q445
               cases e445
               replace p445 := eq_true p445
               replace q445 := eq_true q445
               have p446 : 0 ≤ (x11_1 : Int) := of_decide_eq_true z1
               have q446 : x11_1 < (l1.length : Int) := of_decide_eq_true z1
               obtain ⟨ad446, e446, hx446_0⟩ := Kd.at_int HR1.out x11_1 p446 q446
               cases e446
               replace p446 := eq_true p446
               replace q446 := eq_true q446
               go_wp2_with (first | ((with_reducible refine gate_callee (f := 131) rfl ?_); refine goesL_ (some 26) rfl rfl Try.func131 (by kernel_rfl) rfl #[.int .i64 (rd l0 x11_1), .int .i64 (rd l1 x11_1)] rfl z2 ?_; (with_reducible refine (cmp_Compare_int.calls (rd l0 x11_1) (rd l1 x11_1) t447 _ A8.out).mono ?_); rintro e w' ⟨rfl, ⟨nd, rfl⟩⟩; refine ⟨_, rfl, ?_⟩))
               go_roundg k1
               case measure => have := HK1.out; omega
               case rel => exact ⟨(wrap64 (x11_1 + 1)), z3, H', ⟨z21⟩, z4⟩
             · rw [if_neg c9] at H
               have c9b0 : (t447 == 0) = false := beq_eq_false_iff_ne.mpr c9
               have c9b1 : (t447 != 0) = true := bne_iff_ne.mpr c9
               obtain rfl := Option.some.inj H
               have p445 : 0 ≤ (x11_1 : Int) := of_decide_eq_true z1
               have q445 : x11_1 < (l0.length : Int) := of_decide_eq_true z1
               obtain ⟨ad445, e445, hx445_0⟩ := Kd.at_int HR0.out x11_1 p445 q445
               cases e445
               replace p445 := eq_true p445
               replace q445 := eq_true q445
               have p446 : 0 ≤ (x11_1 : Int) := of_decide_eq_true z1
               have q446 : x11_1 < (l1.length : Int) := of_decide_eq_true z1
               obtain ⟨ad446, e446, hx446_0⟩ := Kd.at_int HR1.out x11_1 p446 q446
               cases e446
               replace p446 := eq_true p446
               replace q446 := eq_true q446
               go_wp2_with (first | ((with_reducible refine gate_callee (f := 131) rfl ?_); refine goesL_ (some 26) rfl rfl Try.func131 (by kernel_rfl) rfl #[.int .i64 (rd l0 x11_1), .int .i64 (rd l1 x11_1)] rfl z2 ?_; (with_reducible refine (cmp_Compare_int.calls (rd l0 x11_1) (rd l1 x11_1) t447 _ A8.out).mono ?_); rintro e w' ⟨rfl, ⟨nd, rfl⟩⟩; refine ⟨_, rfl, ?_⟩))
               go_ret
               exact ⟨z3, z4⟩
           · rw [if_neg c7] at H
             exact absurd H (by simp)
       · rw [if_neg c5] at H
         exact absurd H (by simp)
     · rw [if_neg c4] at H
       exact absurd H (by simp)
   · rw [if_neg c3] at H
     have c3b0 : decide (x11_1 < (l0.length : Int)) = false := decide_eq_false c3
     clear c3
     by_cases c10 : (l0.length : Int) < (l1.length : Int)
     · rw [if_pos c10] at H
       have c10b0 : decide ((l0.length : Int) < (l1.length : Int)) = true := decide_eq_true c10
       have c10b1 : decide (l0.length < l1.length) = true := decide_eq_true (Int.ofNat_lt.mp c10)
       clear c10
       obtain rfl := Option.some.inj H
       go_wp2
       go_ret
       exact ⟨z3, z4⟩
     · rw [if_neg c10] at H
       have c10b0 : decide ((l0.length : Int) < (l1.length : Int)) = false := decide_eq_false c10
       have c10b1 : decide (l0.length < l1.length) = false := decide_eq_false (fun h => c10 (Int.ofNat_lt.mpr h))
       clear c10
       obtain rfl := Option.some.inj H
       go_wp2
       go_ret
       exact ⟨z3, z4⟩
def impl_Chain_bestNested_1.f (k : Nat) (l0 : List Int) (l1 : List Int) : Option (Int) := (slices_Compare_int_int.f k l0 l1).bind fun t448 => (some t448)
set_option maxHeartbeats 8000000 in
set_option maxRecDepth 100000 in
theorem impl_Chain_bestNested_1.calls (k : Nat) (A0 : Option Addr) (c0 : Nat) (l0 : List Int) (A1 : Option Addr) (c1 : Nat) (l1 : List Int) (r : Int) (w : World) (hr0 : Kd.C (Kd.int .i64) w A0 l0.length l0) (hc0 : l0.length ≤ c0) (hr1 : Kd.C (Kd.int .i64) w A1 l1.length l1) (hc1 : l1.length ≤ c1) (h : impl_Chain_bestNested_1.f k l0 l1 = some r) :
 Calls Try.prog 118 #[.slice A0 l0.length c0, .slice A1 l1.length c1] w fun e w' => e = .returned (.int .i64 r) ∧ Drawn0 w w' := by
 have HR0 := Aside0.mk hr0
 have HC0 := Aside0.mk hc0
 clear hr0 hc0
 have HR1 := Aside0.mk hr1
 have HC1 := Aside0.mk hc1
 clear hr1 hc1
 have H : ((slices_Compare_int_int.f k l0 l1).bind fun t448 => (some t448)) = some r := h
 clear h
 replace H := Option.bind_eq_some_iff.mp H
 obtain ⟨t448, A30, H⟩ := H
 replace H : (some t448) = some r := H
 have A3 := Aside0.mk A30
 clear A30
 obtain rfl := Option.some.inj H
 go_enter Try.func118, Try.ntmps118
 go_wp2_with (first | ((with_reducible refine gate_callee (f := 119) rfl ?_); refine goesL_ (some 7) rfl rfl Try.func119 (by kernel_rfl) rfl #[.slice A0 l0.length c0, .slice A1 l1.length c1] rfl z2 ?_; (with_reducible refine (slices_Compare_int_int.calls k _ _ l0 _ _ l1 t448 _ ?side1 ?side2 ?side3 ?side4 A3.out).mono ?_); (case side1 => repeat (first | exact HR0.out | (with_reducible refine Kd.C_alloc ?_ _) | (with_reducible refine Kd.C_drewN ?_ _) | (with_reducible refine Kd.C_drew ?_))); (case side2 => exact HC0.out); (case side3 => repeat (first | exact HR1.out | (with_reducible refine Kd.C_alloc ?_ _) | (with_reducible refine Kd.C_drewN ?_ _) | (with_reducible refine Kd.C_drew ?_))); (case side4 => exact HC1.out); rintro e w' ⟨rfl, ⟨nd, rfl⟩⟩; refine ⟨_, rfl, ?_⟩))
 go_ret
 exact ⟨z3, z4⟩
def slices_CompareFunc_int_int_int_int.l0 : Nat → List (List Int) → List (List Int) → List (List Int) → Int → Int → Option (Int)
 | 0, _, _, _, _, _ => none
 | k + 1, x0, x1, x11, x12, x13 => if x13 < x12 then (if 0 ≤ x13 then (if x13 < (x11.length : Int) then (if x13 ≥ (x1.length : Int) then (some 1) else (if x13 < (x1.length : Int) then ((impl_Chain_bestNested_1.f k (rd_L2 x11 x13) (rd_L2 x1 x13)).bind fun t497 => (if t497 = 0 then (slices_CompareFunc_int_int_int_int.l0 k x0 x1 x11 x12 (wrap64 (x13 + 1))) else (some t497))) else (none))) else (none)) else (none)) else (if (x0.length : Int) < (x1.length : Int) then (some (-1)) else (some 0))
def slices_CompareFunc_int_int_int_int.f (k : Nat) (l0 : List (List Int)) (l1 : List (List Int)) : Option (Int) := slices_CompareFunc_int_int_int_int.l0 k l0 l1 l0 (l0.length : Int) 0
set_option maxHeartbeats 8000000 in
set_option maxRecDepth 100000 in
theorem slices_CompareFunc_int_int_int_int.calls (k : Nat) (A0 : Option Addr) (c0 : Nat) (l0 : List (List Int)) (A1 : Option Addr) (c1 : Nat) (l1 : List (List Int)) (r : Int) (w : World) (hr0 : Kd.C (Kd.slice 3 (Kd.int .i64)) w A0 l0.length l0) (hc0 : l0.length ≤ c0) (hr1 : Kd.C (Kd.slice 3 (Kd.int .i64)) w A1 l1.length l1) (hc1 : l1.length ≤ c1) (h : slices_CompareFunc_int_int_int_int.f k l0 l1 = some r) :
 Calls Try.prog 117 #[.slice A0 l0.length c0, .slice A1 l1.length c1, .func (.func 118) #[] #[]] w fun e w' => e = .returned (.int .i64 r) ∧ Drawn0 w w' := by
 have HR0 := Aside0.mk hr0
 have HC0 := Aside0.mk hc0
 clear hr0 hc0
 have HR1 := Aside0.mk hr1
 have HC1 := Aside0.mk hc1
 clear hr1 hc1
 have H : (slices_CompareFunc_int_int_int_int.l0 k l0 l1 l0 (l0.length : Int) 0) = some r := h
 clear h
 have H' := Aside0.mk H
 clear H
 go_enter Try.func117, Try.ntmps117
 go_wp2
 go_loopg [13] k (fun kq v13 w' => ∃ (x13_1 : Int), v13 = .int .i64 x13_1 ∧ Aside0 (slices_CompareFunc_int_int_int_int.l0 kq l0 l1 l0 (l0.length : Int) x13_1 = some r) ∧ Aside0 (kq ≤ k) ∧ Drawn0 w w')
 case atStart => exact ⟨(0), z3, H', ⟨Nat.le_refl _⟩, z4⟩
 case round =>
  clear H'
  try clear c1
  try clear p2
  obtain ⟨x13_1, rfl, HA, HK1, ⟨m1, rfl⟩⟩ := hrel
  cases gk with
  | zero => exact absurd HA.out (by simp [slices_CompareFunc_int_int_int_int.l0])
  | succ k1 =>
   have H := HA.out
   clear HA
   simp only [slices_CompareFunc_int_int_int_int.l0] at H
   by_cases c3 : x13_1 < (l0.length : Int)
   · rw [if_pos c3] at H
     have c3b0 : decide (x13_1 < (l0.length : Int)) = true := decide_eq_true c3
     clear c3
     by_cases c4 : 0 ≤ x13_1
     · rw [if_pos c4] at H
       have c4b0 : decide (0 ≤ x13_1) = true := decide_eq_true c4
       clear c4
       by_cases c5 : x13_1 < (l0.length : Int)
       · rw [if_pos c5] at H
         have c5b0 : decide (x13_1 < (l0.length : Int)) = true := decide_eq_true c5
         clear c5
         by_cases c6 : x13_1 ≥ (l1.length : Int)
         · rw [if_pos c6] at H
           have c6b0 : decide ((l1.length : Int) ≤ x13_1) = true := decide_eq_true c6
           clear c6
           obtain rfl := Option.some.inj H
           have p495 : 0 ≤ (x13_1 : Int) := of_decide_eq_true z1
           have q495 : x13_1 < (l0.length : Int) := of_decide_eq_true z1
           obtain ⟨ad495, A495_0, c495_0, e495, hx495_0, hl495_0, hi495_0⟩ := at_L2 HR0.out x13_1 p495 q495
           cases e495
           have HR495_0 := Aside0.mk hi495_0
           have HC495_0 := Aside0.mk hl495_0
           clear hi495_0 hl495_0
           replace p495 := eq_true p495
           replace q495 := eq_true q495
           go_wp2
           go_ret
           exact ⟨z3, z4⟩
         · rw [if_neg c6] at H
           have c6b0 : decide ((l1.length : Int) ≤ x13_1) = false := decide_eq_false c6
           clear c6
           by_cases c7 : x13_1 < (l1.length : Int)
           · rw [if_pos c7] at H
             have c7b0 : decide (x13_1 < (l1.length : Int)) = true := decide_eq_true c7
             clear c7
             replace H := Option.bind_eq_some_iff.mp H
             obtain ⟨t497, A80, H⟩ := H
             replace H : (if t497 = 0 then (slices_CompareFunc_int_int_int_int.l0 k1 l0 l1 l0 (l0.length : Int) (wrap64 (x13_1 + 1))) else (some t497)) = some r := H
             have A8 := Aside0.mk A80
             clear A80
             by_cases c9 : t497 = 0
             · rw [if_pos c9] at H
               have c9b0 : (t497 == 0) = true := beq_iff_eq.mpr c9
               have c9b1 : (t497 != 0) = false := bne_eq_false_iff_eq.mpr c9
               clear c9
               have H' := Aside0.mk H
               clear H
               have p495 : 0 ≤ (x13_1 : Int) := of_decide_eq_true z1
               have q495 : x13_1 < (l0.length : Int) := of_decide_eq_true z1
               obtain ⟨ad495, A495_0, c495_0, e495, hx495_0, hl495_0, hi495_0⟩ := at_L2 HR0.out x13_1 p495 q495
               cases e495
               have HR495_0 := Aside0.mk hi495_0
               have HC495_0 := Aside0.mk hl495_0
               clear hi495_0 hl495_0
               replace p495 := eq_true p495
               replace q495 := eq_true q495
               have p496 : 0 ≤ (x13_1 : Int) := of_decide_eq_true z1
               have q496 : x13_1 < (l1.length : Int) := of_decide_eq_true z1
               obtain ⟨ad496, A496_0, c496_0, e496, hx496_0, hl496_0, hi496_0⟩ := at_L2 HR1.out x13_1 p496 q496
               cases e496
               have HR496_0 := Aside0.mk hi496_0
               have HC496_0 := Aside0.mk hl496_0
               clear hi496_0 hl496_0
               replace p496 := eq_true p496
               replace q496 := eq_true q496
               go_wp2_with (first | (go_at_call 118; (with_reducible refine (impl_Chain_bestNested_1.calls k1 _ _ (rd_L2 l0 x13_1) _ _ (rd_L2 l1 x13_1) t497 _ ?side1 ?side2 ?side3 ?side4 A8.out).mono ?_); (case side1 => repeat (first | exact HR495_0.out | (with_reducible refine Kd.C_alloc ?_ _) | (with_reducible refine Kd.C_drewN ?_ _) | (with_reducible refine Kd.C_drew ?_))); (case side2 => exact HC495_0.out); (case side3 => repeat (first | exact HR496_0.out | (with_reducible refine Kd.C_alloc ?_ _) | (with_reducible refine Kd.C_drewN ?_ _) | (with_reducible refine Kd.C_drew ?_))); (case side4 => exact HC496_0.out); rintro e w' ⟨rfl, ⟨nd, rfl⟩⟩))
               go_roundg k1
               case measure => have := HK1.out; omega
               case rel => exact ⟨(wrap64 (x13_1 + 1)), z3, H', ⟨z21⟩, z4⟩
             · rw [if_neg c9] at H
               have c9b0 : (t497 == 0) = false := beq_eq_false_iff_ne.mpr c9
               have c9b1 : (t497 != 0) = true := bne_iff_ne.mpr c9
               obtain rfl := Option.some.inj H
               have p495 : 0 ≤ (x13_1 : Int) := of_decide_eq_true z1
               have q495 : x13_1 < (l0.length : Int) := of_decide_eq_true z1
               obtain ⟨ad495, A495_0, c495_0, e495, hx495_0, hl495_0, hi495_0⟩ := at_L2 HR0.out x13_1 p495 q495
               cases e495
               have HR495_0 := Aside0.mk hi495_0
               have HC495_0 := Aside0.mk hl495_0
               clear hi495_0 hl495_0
               replace p495 := eq_true p495
               replace q495 := eq_true q495
               have p496 : 0 ≤ (x13_1 : Int) := of_decide_eq_true z1
               have q496 : x13_1 < (l1.length : Int) := of_decide_eq_true z1
               obtain ⟨ad496, A496_0, c496_0, e496, hx496_0, hl496_0, hi496_0⟩ := at_L2 HR1.out x13_1 p496 q496
               cases e496
               have HR496_0 := Aside0.mk hi496_0
               have HC496_0 := Aside0.mk hl496_0
               clear hi496_0 hl496_0
               replace p496 := eq_true p496
               replace q496 := eq_true q496
               go_wp2_with (first | (go_at_call 118; (with_reducible refine (impl_Chain_bestNested_1.calls k1 _ _ (rd_L2 l0 x13_1) _ _ (rd_L2 l1 x13_1) t497 _ ?side1 ?side2 ?side3 ?side4 A8.out).mono ?_); (case side1 => repeat (first | exact HR495_0.out | (with_reducible refine Kd.C_alloc ?_ _) | (with_reducible refine Kd.C_drewN ?_ _) | (with_reducible refine Kd.C_drew ?_))); (case side2 => exact HC495_0.out); (case side3 => repeat (first | exact HR496_0.out | (with_reducible refine Kd.C_alloc ?_ _) | (with_reducible refine Kd.C_drewN ?_ _) | (with_reducible refine Kd.C_drew ?_))); (case side4 => exact HC496_0.out); rintro e w' ⟨rfl, ⟨nd, rfl⟩⟩))
               go_ret
               exact ⟨z3, z4⟩
           · rw [if_neg c7] at H
             exact absurd H (by simp)
       · rw [if_neg c5] at H
         exact absurd H (by simp)
     · rw [if_neg c4] at H
       exact absurd H (by simp)
   · rw [if_neg c3] at H
     have c3b0 : decide (x13_1 < (l0.length : Int)) = false := decide_eq_false c3
     clear c3
     by_cases c10 : (l0.length : Int) < (l1.length : Int)
     · rw [if_pos c10] at H
       have c10b0 : decide ((l0.length : Int) < (l1.length : Int)) = true := decide_eq_true c10
       have c10b1 : decide (l0.length < l1.length) = true := decide_eq_true (Int.ofNat_lt.mp c10)
       clear c10
       obtain rfl := Option.some.inj H
       go_wp2
       go_ret
       exact ⟨z3, z4⟩
     · rw [if_neg c10] at H
       have c10b0 : decide ((l0.length : Int) < (l1.length : Int)) = false := decide_eq_false c10
       have c10b1 : decide (l0.length < l1.length) = false := decide_eq_false (fun h => c10 (Int.ofNat_lt.mpr h))
       clear c10
       obtain rfl := Option.some.inj H
       go_wp2
       go_ret
       exact ⟨z3, z4⟩
end Go.Proofs.Ythlmmcmpllgflaa.P
