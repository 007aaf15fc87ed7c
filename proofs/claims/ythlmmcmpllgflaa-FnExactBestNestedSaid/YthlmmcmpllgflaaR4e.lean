/- The law FnExactBestNested: for every chain the program and the reference find the same nested order periods, which leave the arguments as they are and share no memory; no condition. -/
import Derived.Test.YthlmmcmpllgflaaR4d
namespace Go.Proofs.Ythlmmcmpllgflaa.P
open Go.RowKit Go.Proofs.YthlmmcmpllgflaaW.PrintWords Go.Proofs.YthlmmcmpllgflaaW.PrintLast Go.Proofs.YthlmmcmpllgflaaW.PrintMore
attribute [local go_sem] max2_int min2_int max_two min_two max_three min_three max_four min_four
set_option linter.unusedVariables false
set_option linter.unusedSimpArgs false
mutual
def impl_Chain_bestNested_inner.l0 : Nat → Int → Int → List (List Int) → Int → Int → Int → Option ((List (List Int)) × Int)
 | 0, _, _, _, _, _, _ => none
 | k + 1, x5, x9, x10, x11, x34, x35 => if x35 < x34 then ((impl_power.f k (wrap64 (x5 + 1)) x35).bind fun t501 => (if t501 = 0 then (none) else (if (wrap64 (x5 + 1)) = 0 then (none) else (impl_Chain_bestNested_inner.l1 k x5 x9 x10 x11 x35 (Int.tmod (wrap64 (Int.tdiv x9 t501)) (wrap64 (x5 + 1))) (wrap64 (x5 - (Int.tmod (wrap64 (Int.tdiv x9 t501)) (wrap64 (x5 + 1))))) x34 x35)))) else (some (x10, x11))
def impl_Chain_bestNested_inner.l1 : Nat → Int → Int → List (List Int) → Int → Int → Int → Int → Int → Int → Option ((List (List Int)) × Int)
 | 0, _, _, _, _, _, _, _, _, _ => none
 | k + 1, x5, x9, x10, x11, x12, x13, x14, x34, x35 => if x14 < x5 then (if 0 ≤ x14 then (if x14 < (x10.length : Int) then (if (rd_L2 x10 x14).length < 17592186044416 then (impl_Chain_bestNested_inner.l1 k x5 x9 (x10.set (x14 : Int).toNat ((rd_L2 x10 x14) ++ [x12])) x11 x12 x13 (wrap64 (x14 + 1)) x34 x35) else (none)) else (none)) else (none)) else (impl_Chain_bestNested_inner.l0 k x5 x9 x10 (wrap64 (x11 + x13)) x34 (wrap64 (x35 + 1)))
end
def impl_Chain_bestNested_inner.f (k : Nat) (a0 : Int) (a1 : Int) (a2 : Int) : Option ((List (List Int)) × Int) := if 0 ≤ a1 then (if (a1 : Int).toNat ≤ 11728124029610 then (impl_Chain_bestNested_inner.l0 k a1 a2 (List.replicate (a1 : Int).toNat []) 0 a0 0) else (none)) else (none)
mutual
def impl_Chain_bestNested.l0 : Nat → Int → Int → List (List Int) → Int → Int → Int → Int → List Int → List Int → List Int → Option ((List (List Int)) × Int)
 | 0, _, _, _, _, _, _, _, _, _, _ => none
 | k + 1, x4, x5, x6, x7, x8, x28, x29, x508000, x508001, x508002 => if x29 < x28 then ((impl_Chain_bestNested_inner.f k x4 x5 x29).bind fun bt509 => ((impl_Chain_nested.f k x508000 x508001 x508002 bt509.1).bind fun bt513 => (if bt513.2 = true then ((impl_Chain_cost.f k x508000 x508001 x508002 bt513.1).bind fun t517 => (if bt509.2 < x8 then (impl_Chain_bestNested.j1 k x4 x5 x6 x7 x8 bt509.1 bt509.2 t517 true x28 x29 x508000 x508001 x508002) else (if bt509.2 = x8 then ((slices_CompareFunc_int_int_int_int.f k bt509.1 x6).bind fun t518 => (impl_Chain_bestNested.j1 k x4 x5 x6 x7 x8 bt509.1 bt509.2 t517 (decide (t518 < 0)) x28 x29 x508000 x508001 x508002)) else (impl_Chain_bestNested.j1 k x4 x5 x6 x7 x8 bt509.1 bt509.2 t517 false x28 x29 x508000 x508001 x508002)))) else (impl_Chain_bestNested.l0 k x4 x5 x6 x7 x8 x28 (wrap64 (x29 + 1)) x508000 x508001 x508002)))) else (some (x6, x7))
def impl_Chain_bestNested.j1 : Nat → Int → Int → List (List Int) → Int → Int → List (List Int) → Int → Int → Bool → Int → Int → List Int → List Int → List Int → Option ((List (List Int)) × Int)
 | 0, _, _, _, _, _, _, _, _, _, _, _, _, _, _ => none
 | k + 1, x4, x5, x6, x7, x8, x10, x11, x17, x18, x28, x29, x508000, x508001, x508002 => if x17 < x7 then (impl_Chain_bestNested.j2 k x4 x5 x6 x7 x8 x10 x11 x17 x28 x29 true x508000 x508001 x508002) else (if x17 = x7 then (impl_Chain_bestNested.j2 k x4 x5 x6 x7 x8 x10 x11 x17 x28 x29 x18 x508000 x508001 x508002) else (impl_Chain_bestNested.j2 k x4 x5 x6 x7 x8 x10 x11 x17 x28 x29 false x508000 x508001 x508002))
def impl_Chain_bestNested.j2 : Nat → Int → Int → List (List Int) → Int → Int → List (List Int) → Int → Int → Int → Int → Bool → List Int → List Int → List Int → Option ((List (List Int)) × Int)
 | 0, _, _, _, _, _, _, _, _, _, _, _, _, _, _ => none
 | k + 1, x4, x5, x6, x7, x8, x10, x11, x17, x28, x29, x104, x508000, x508001, x508002 => if x104 = true then (impl_Chain_bestNested.l0 k x4 x5 x10 x17 x11 x28 (wrap64 (x29 + 1)) x508000 x508001 x508002) else (impl_Chain_bestNested.l0 k x4 x5 x6 x7 x8 x28 (wrap64 (x29 + 1)) x508000 x508001 x508002)
end
def impl_Chain_bestNested.f (k : Nat) (l0_0 : List Int) (l0_1 : List Int) (l0_2 : List Int) : Option ((List (List Int)) × Int) := (impl_power.f k (wrap64 ((l0_1.length : Int) + 1)) (l0_0.length : Int)).bind fun t508 => (impl_Chain_bestNested.l0 k (l0_0.length : Int) (l0_1.length : Int) ([] : List (List Int)) 1099511627776 0 t508 0 l0_0 l0_1 l0_2)
set_option maxHeartbeats 8000000 in
set_option maxRecDepth 100000 in
theorem impl_Chain_bestNested.calls (k : Nat) (A0_0 : Option Addr) (c0_0 : Nat) (l0_0 : List Int) (A0_1 : Option Addr) (c0_1 : Nat) (l0_1 : List Int) (A0_2 : Option Addr) (c0_2 : Nat) (l0_2 : List Int) (r1 : List (List Int)) (r2 : Int) (w : World) (hr0_0 : Kd.C (Kd.int .i64) w A0_0 l0_0.length l0_0) (hc0_0 : l0_0.length ≤ c0_0) (hr0_1 : Kd.C (Kd.int .i64) w A0_1 l0_1.length l0_1) (hc0_1 : l0_1.length ≤ c0_1) (hr0_2 : Kd.C (Kd.int .i64) w A0_2 l0_2.length l0_2) (hc0_2 : l0_2.length ≤ c0_2) (h : impl_Chain_bestNested.f k l0_0 l0_1 l0_2 = some (r1, r2)) :
 Calls Try.prog 65 #[.agg #[.slice A0_0 l0_0.length c0_0, .slice A0_1 l0_1.length c0_1, .slice A0_2 l0_2.length c0_2]] w fun e w' => ∃ v0_ : Value, e = .returned (.tuple #[v0_, .int .i64 r2]) ∧ Kd.S (Kd.slice 3 (Kd.int .i64)) 24 w' w.heap.size (fun _ => True) v0_ r1 ∧ Below w.heap.size w w' := by
 have hu26 := Try.underlying26
 have HR0_0 := Aside0.mk hr0_0
 have HC0_0 := Aside0.mk hc0_0
 clear hr0_0 hc0_0
 have HR0_1 := Aside0.mk hr0_1
 have HC0_1 := Aside0.mk hc0_1
 clear hr0_1 hc0_1
 have HR0_2 := Aside0.mk hr0_2
 have HC0_2 := Aside0.mk hc0_2
 clear hr0_2 hc0_2
 have HB := Aside0.mk (Below.refl w.heap.size w)
 have H : ((impl_power.f k (wrap64 ((l0_1.length : Int) + 1)) (l0_0.length : Int)).bind fun t508 => (impl_Chain_bestNested.l0 k (l0_0.length : Int) (l0_1.length : Int) ([] : List (List Int)) 1099511627776 0 t508 0 l0_0 l0_1 l0_2)) = some (r1, r2) := h
 clear h
 replace H := Option.bind_eq_some_iff.mp H
 obtain ⟨t508, A20, H⟩ := H
 replace H : (impl_Chain_bestNested.l0 k (l0_0.length : Int) (l0_1.length : Int) ([] : List (List Int)) 1099511627776 0 t508 0 l0_0 l0_1 l0_2) = some (r1, r2) := H
 have A2 := Aside0.mk A20
 clear A20
 have H' := Aside0.mk H
 clear H
 go_enter Try.func65, Try.ntmps65
 go_wp2_with (first | ((with_reducible refine gate_dst (N := 1) rfl ?_); refine box_event ?hg (N := 1) ?hd (cs := #[.slice A0_0 l0_0.length c0_0, .slice A0_1 l0_1.length c0_1, .slice A0_2 l0_2.length c0_2]) (t := 26) ?hr ?_; (case hd => rfl); (case hg => rfl); (case hr => first | (go_simp; done) | (go_simp; rfl)); intro gb507 hg w3 hbox hb; have BK507 := Aside0.mk (hbox); have GW507 := Aside0.mk ((z6 : w.heap.size ≤ gb507)); have GE507 := Aside0.mk ((z6 : w.heap.size ≤ gb507)); replace HB := zs0 hb; clear hb hbox hg; obtain ⟨hcz4_0, hcz4_1, hcz4_2, hfz4_0, hfz4_1, hfz4_2⟩ := zc3 BK507.out) | (go_at_call 116; (with_reducible refine (impl_power.calls k (wrap64 ((l0_1.length : Int) + 1)) (l0_0.length : Int) t508 _ A2.out).mono ?_); rintro e w' ⟨rfl, ⟨nd, rfl⟩⟩; (try first | exact ⟨rfl, _, World.drewN_drewN _ _ _⟩ | exact ⟨rfl, _, Eq.trans (World.drewN_drewN _ _ _) (congrArg (World.drewN _) (Nat.add_assoc _ _ _))⟩)))
 repeat (go_quiet (first | ((with_reducible refine gate_dst (N := 1) rfl ?_); refine box_event ?hg (N := 1) ?hd (cs := #[.slice A0_0 l0_0.length c0_0, .slice A0_1 l0_1.length c0_1, .slice A0_2 l0_2.length c0_2]) (t := 26) ?hr ?_; (case hd => rfl); (case hg => rfl); (case hr => first | (go_simp; done) | (go_simp; rfl)); intro gb507 hg w3 hbox hb; have BK507 := Aside0.mk (hbox); have GW507 := Aside0.mk ((z6 : w.heap.size ≤ gb507)); have GE507 := Aside0.mk ((z6 : w.heap.size ≤ gb507)); replace HB := zs0 hb; clear hb hbox hg; obtain ⟨hcz4_0, hcz4_1, hcz4_2, hfz4_0, hfz4_1, hfz4_2⟩ := zc3 BK507.out) | (go_at_call 116; (with_reducible refine (impl_power.calls k (wrap64 ((l0_1.length : Int) + 1)) (l0_0.length : Int) t508 _ A2.out).mono ?_); rintro e w' ⟨rfl, ⟨nd, rfl⟩⟩; (try first | exact ⟨rfl, _, World.drewN_drewN _ _ _⟩ | exact ⟨rfl, _, Eq.trans (World.drewN_drewN _ _ _) (congrArg (World.drewN _) (Nat.add_assoc _ _ _))⟩))); try go_wp2_with (first | ((with_reducible refine gate_dst (N := 1) rfl ?_); refine box_event ?hg (N := 1) ?hd (cs := #[.slice A0_0 l0_0.length c0_0, .slice A0_1 l0_1.length c0_1, .slice A0_2 l0_2.length c0_2]) (t := 26) ?hr ?_; (case hd => rfl); (case hg => rfl); (case hr => first | (go_simp; done) | (go_simp; rfl)); intro gb507 hg w3 hbox hb; have BK507 := Aside0.mk (hbox); have GW507 := Aside0.mk ((z6 : w.heap.size ≤ gb507)); have GE507 := Aside0.mk ((z6 : w.heap.size ≤ gb507)); replace HB := zs0 hb; clear hb hbox hg; obtain ⟨hcz4_0, hcz4_1, hcz4_2, hfz4_0, hfz4_1, hfz4_2⟩ := zc3 BK507.out) | (go_at_call 116; (with_reducible refine (impl_power.calls k (wrap64 ((l0_1.length : Int) + 1)) (l0_0.length : Int) t508 _ A2.out).mono ?_); rintro e w' ⟨rfl, ⟨nd, rfl⟩⟩; (try first | exact ⟨rfl, _, World.drewN_drewN _ _ _⟩ | exact ⟨rfl, _, Eq.trans (World.drewN_drewN _ _ _) (congrArg (World.drewN _) (Nat.add_assoc _ _ _))⟩))))
 go_loopg [6, 7, 8, 29] k (fun kq v6 v7 v8 v29 w' => ∃ (x6_1 : List (List Int)) (x7_1 : Int) (x8_1 : Int) (x29_1 : Int), v7 = .int .i64 x7_1 ∧ v8 = .int .i64 x8_1 ∧ v29 = .int .i64 x29_1 ∧ Aside0 (impl_Chain_bestNested.l0 kq (l0_0.length : Int) (l0_1.length : Int) x6_1 x7_1 x8_1 t508 x29_1 l0_0 l0_1 l0_2 = some (r1, r2)) ∧ Aside0 (kq ≤ k) ∧ Aside0 (Kd.S (Kd.slice 3 (Kd.int .i64)) 24 w' w.heap.size (fun _ => True) v6 x6_1) ∧ Aside0 (w'.heap[gb507]? = some (.cells #[(.slice A0_0 l0_0.length c0_0), (.slice A0_1 l0_1.length c0_1), (.slice A0_2 l0_2.length c0_2)] 26 (0, 0))) ∧ Aside0 (Below w.heap.size w w'))
 case atStart => exact ⟨(([] : List (List Int))), (1099511627776), (0), (0), z3, z3, z3, H', ⟨Nat.le_refl _⟩, ⟨z9⟩, ⟨(zB BK507.out)⟩, ⟨(zH1 GE507.out)⟩⟩
 case round =>
  clear H'
  try clear p2
  try clear hcz4_0
  try clear hcz4_1
  try clear hcz4_2
  try clear hfz4_0
  try clear hfz4_1
  try clear hfz4_2
  obtain ⟨x6_1, x7_1, x8_1, x29_1, rfl, rfl, rfl, HA, HK1, HO_6, BK507, HB⟩ := hrel
  cases gk with
  | zero => exact absurd HA.out (by simp [impl_Chain_bestNested.l0])
  | succ k1 =>
   have H := HA.out
   clear HA
   simp only [impl_Chain_bestNested.l0] at H
   by_cases c5 : x29_1 < t508
   · rw [if_pos c5] at H
     have c5b0 : decide (x29_1 < t508) = true := decide_eq_true c5
     clear c5
     replace H := Option.bind_eq_some_iff.mp H
     obtain ⟨⟨t509, t510⟩, A60, H⟩ := H
     replace H : ((impl_Chain_nested.f k1 l0_0 l0_1 l0_2 t509).bind fun bt513 => (if bt513.2 = true then ((impl_Chain_cost.f k1 l0_0 l0_1 l0_2 bt513.1).bind fun t517 => (if t510 < x8_1 then (impl_Chain_bestNested.j1 k1 (l0_0.length : Int) (l0_1.length : Int) x6_1 x7_1 x8_1 t509 t510 t517 true t508 x29_1 l0_0 l0_1 l0_2) else (if t510 = x8_1 then ((slices_CompareFunc_int_int_int_int.f k1 t509 x6_1).bind fun t518 => (impl_Chain_bestNested.j1 k1 (l0_0.length : Int) (l0_1.length : Int) x6_1 x7_1 x8_1 t509 t510 t517 (decide (t518 < 0)) t508 x29_1 l0_0 l0_1 l0_2)) else (impl_Chain_bestNested.j1 k1 (l0_0.length : Int) (l0_1.length : Int) x6_1 x7_1 x8_1 t509 t510 t517 false t508 x29_1 l0_0 l0_1 l0_2)))) else (impl_Chain_bestNested.l0 k1 (l0_0.length : Int) (l0_1.length : Int) x6_1 x7_1 x8_1 t508 (wrap64 (x29_1 + 1)) l0_0 l0_1 l0_2))) = some (r1, r2) := H
     have A6 := Aside0.mk A60
     clear A60
     have HQ_ := Aside0.mk H
     clear H
     obtain ⟨wo, rfl⟩ : ∃ wo : World, wo = wr := ⟨_, rfl⟩
     have HBo_ := HB
     clear HB
     have HB := Aside0.mk (Below.refl wo.heap.size wo)
     have hI_ : 0 ≤ (l0_1.length : Int) ∧ ((l0_1.length : Int) : Int).toNat ≤ 11728124029610 ∧ impl_Chain_bestNested_inner.l0 k1 (l0_1.length : Int) x29_1 (List.replicate ((l0_1.length : Int) : Int).toNat []) 0 (l0_0.length : Int) 0 = some (t509, t510) := by
      have h_ := A6.out
      unfold impl_Chain_bestNested_inner.f at h_
      by_cases c4 : 0 ≤ (l0_1.length : Int)
      · rw [if_pos c4] at h_
        by_cases c5 : ((l0_1.length : Int) : Int).toNat ≤ 11728124029610
        · rw [if_pos c5] at h_; exact ⟨c4, c5, h_⟩
        · rw [if_neg c5] at h_; exact absurd h_ (by simp)
      · rw [if_neg c4] at h_; exact absurd h_ (by simp)
     obtain ⟨c4, c5i, H⟩ := hI_
     have c4b0 := eq_true c4
     have c4b1 : decide (0 ≤ (l0_1.length : Int)) = true := decide_eq_true c4
     clear c4
     have c5ib0 := eq_true c5i
     have c5ib1 : decide (((l0_1.length : Int) : Int).toNat ≤ 11728124029610) = true := decide_eq_true c5i
     clear c5i
     obtain ⟨y498, hy498⟩ : ∃ y_ : List (List Int), y_ = (List.replicate ((l0_1.length : Int) : Int).toNat []) := ⟨_, rfl⟩
     replace H : (impl_Chain_bestNested_inner.l0 k1 (l0_1.length : Int) x29_1 y498 0 (l0_0.length : Int) 0) = some (t509, t510) := zY hy498
     have Ny498 := Aside0.mk hy498
     clear hy498
     have H' := Aside0.mk H
     clear H
     go_upto_block 2 with (first | ((with_reducible refine gate_dst (N := 33) rfl ?_); refine Kd.S_make (Kd.slice 3 (Kd.int .i64)) _ 24 rfl (N := 33) rfl 27 _ _ rfl (l0_1.length : Int) rfl rfl Try.underlying27 (.slice none 0 0) 24 info24 rfl (by decide) (by omega) [] (ok := fun _ => True) (okp := fun _ => True) ⟨_, rfl, Kd.R_nil _ _ _ _ _⟩ (fun _ hk => hk) trivial (of_decide_eq_true z1) (Nat.le_trans (Nat.mul_le_mul_right _ (of_decide_eq_true z1 : (l0_1.length : Int).toNat ≤ 11728124029610)) (by omega)) (Below.refl _ _) (Nat.le_refl _) ?_; intro v499 w6 ho7 hb hg_ hnew_; clear hg_ hnew_; (first | rw [← Ny498.out] at ho7 | (simp only [Int.reduceToNat] at ho7; rw [← Ny498.out] at ho7)); have HO500 := Aside0.mk (Kd.S_lower ho7 (below_size zH0)); replace HB := zs0 hb; clear hb ho7))
     (try simp only [Act.put, List.setIfInBounds_toArray, List.set_cons_zero, List.set_cons_succ])
     go_cut [11] (fun v11 wc => v11 = .int .i64 t510 ∧ Aside0 (Kd.S (Kd.slice 3 (Kd.int .i64)) 24 wc wo.heap.size (fun _ => True) v499 t509) ∧ Aside0 (Below wo.heap.size wo wc))
     case first =>
      go_wp2
      go_loopg [11, 35] k1 (fun kq v11 v35 w' => ∃ (x10_1 : List (List Int)) (x11_1 : Int) (x35_1 : Int), v11 = .int .i64 x11_1 ∧ v35 = .int .i64 x35_1 ∧ Aside0 (impl_Chain_bestNested_inner.l0 kq (l0_1.length : Int) x29_1 x10_1 x11_1 (l0_0.length : Int) x35_1 = some (t509, t510)) ∧ Aside0 (kq ≤ k1) ∧ Aside0 (Kd.S (Kd.slice 3 (Kd.int .i64)) 24 w' wo.heap.size (fun _ => True) v499 x10_1) ∧ Aside0 (Below wo.heap.size wo w'))
      case atStart => exact ⟨(y498), (0), (0), z3, z3, H', ⟨Nat.le_refl _⟩, ⟨(zS HO500.out)⟩, ⟨zH0⟩⟩
      case round =>
       clear H'
       try clear c1
       try clear p2
       try clear c4
       try clear c4b0
       try clear c4b1
       try clear c5
       try clear c5b0
       try clear c5b1
       obtain ⟨x10_1, x11_1, x35_1, rfl, rfl, HA, HKi1, HO_10, HB⟩ := hrel
       cases gk with
       | zero => exact absurd HA.out (by simp [impl_Chain_bestNested_inner.l0])
       | succ kk1 =>
        have H := HA.out
        clear HA
        simp only [impl_Chain_bestNested_inner.l0] at H
        by_cases c8 : x35_1 < (l0_0.length : Int)
        · rw [if_pos c8] at H
          have c8b0 : decide (x35_1 < (l0_0.length : Int)) = true := decide_eq_true c8
          clear c8
          replace H := Option.bind_eq_some_iff.mp H
          obtain ⟨t501, A90, H⟩ := H
          replace H : (if t501 = 0 then (none) else (if (wrap64 ((l0_1.length : Int) + 1)) = 0 then (none) else (impl_Chain_bestNested_inner.l1 kk1 (l0_1.length : Int) x29_1 x10_1 x11_1 x35_1 (Int.tmod (wrap64 (Int.tdiv x29_1 t501)) (wrap64 ((l0_1.length : Int) + 1))) (wrap64 ((l0_1.length : Int) - (Int.tmod (wrap64 (Int.tdiv x29_1 t501)) (wrap64 ((l0_1.length : Int) + 1))))) (l0_0.length : Int) x35_1))) = some (t509, t510) := H
          have A9 := Aside0.mk A90
          clear A90
          by_cases c10 : t501 = 0
          · rw [if_pos c10] at H
            exact absurd H (by simp)
          · rw [if_neg c10] at H
            have c10b0 : (t501 == 0) = false := beq_eq_false_iff_ne.mpr c10
            have c10b1 : (t501 != 0) = true := bne_iff_ne.mpr c10
            by_cases c11 : (wrap64 ((l0_1.length : Int) + 1)) = 0
            · rw [if_pos c11] at H
              exact absurd H (by simp)
            · rw [if_neg c11] at H
              have c11b0 : ((wrap64 ((l0_1.length : Int) + 1)) == 0) = false := beq_eq_false_iff_ne.mpr c11
              have c11b1 : ((wrap64 ((l0_1.length : Int) + 1)) != 0) = true := bne_iff_ne.mpr c11
              have H' := Aside0.mk H
              clear H
              go_wp2_with (first | ((with_reducible refine gate_callee (f := 116) rfl ?_); refine goesL_ (some 42) rfl rfl Try.func116 (by kernel_rfl) rfl #[.int .i64 (wrap64 ((l0_1.length : Int) + 1)), .int .i64 x35_1] rfl z2 ?_; (with_reducible refine (impl_power.calls kk1 (wrap64 ((l0_1.length : Int) + 1)) x35_1 t501 _ A9.out).mono ?_); rintro e w' ⟨rfl, ⟨nd, rfl⟩⟩; refine ⟨_, rfl, ?_⟩))
              go_loopg [14] kk1 (fun kq v14 w' => ∃ (x10_2 : List (List Int)) (x14_2 : Int), v14 = .int .i64 x14_2 ∧ Aside0 (impl_Chain_bestNested_inner.l1 kq (l0_1.length : Int) x29_1 x10_2 x11_1 x35_1 (Int.tmod (wrap64 (Int.tdiv x29_1 t501)) (wrap64 ((l0_1.length : Int) + 1))) x14_2 (l0_0.length : Int) x35_1 = some (t509, t510)) ∧ Aside0 (kq ≤ kk1) ∧ Aside0 (Kd.S (Kd.slice 3 (Kd.int .i64)) 24 w' wo.heap.size (fun _ => True) v499 x10_2) ∧ Aside0 (Below wo.heap.size wo w'))
              case atStart => exact ⟨(x10_1), (wrap64 ((l0_1.length : Int) - (Int.tmod (wrap64 (Int.tdiv x29_1 t501)) (wrap64 ((l0_1.length : Int) + 1))))), z3, H', ⟨Nat.le_refl _⟩, ⟨(zS HO_10.out)⟩, ⟨zH0⟩⟩
              case round =>
               clear H'
               try clear c1
               try clear p2
               try clear c4
               try clear c4b0
               try clear c4b1
               try clear c5
               try clear c5b0
               try clear c5b1
               try clear p6
               try clear c8
               try clear c8b0
               try clear c10
               try clear c10b0
               try clear c10b1
               try clear c11
               try clear c11b0
               try clear c11b1
               try clear p2
               obtain ⟨x10_2, x14_2, rfl, HA, HKi2, HO_10, HB⟩ := hrel
               cases gk with
               | zero => exact absurd HA.out (by simp [impl_Chain_bestNested_inner.l1])
               | succ kk2 =>
                have H := HA.out
                clear HA
                simp only [impl_Chain_bestNested_inner.l1] at H
                by_cases c12 : x14_2 < (l0_1.length : Int)
                · rw [if_pos c12] at H
                  have c12b0 : decide (x14_2 < (l0_1.length : Int)) = true := decide_eq_true c12
                  clear c12
                  by_cases c13 : 0 ≤ x14_2
                  · rw [if_pos c13] at H
                    have c13b0 : decide (0 ≤ x14_2) = true := decide_eq_true c13
                    clear c13
                    by_cases c14 : x14_2 < (x10_2.length : Int)
                    · rw [if_pos c14] at H
                      have c14b0 : decide (x14_2 < (x10_2.length : Int)) = true := decide_eq_true c14
                      clear c14
                      by_cases c15 : (rd_L2 x10_2 x14_2).length < 17592186044416
                      · rw [if_pos c15] at H
                        have LMc15 := Aside0.mk c15
                        clear c15
                        obtain ⟨y503, hy503⟩ : ∃ y_ : List Int, y_ = ((rd_L2 x10_2 x14_2) ++ [x35_1]) := ⟨_, rfl⟩
                        replace H : (impl_Chain_bestNested_inner.l1 kk2 (l0_1.length : Int) x29_1 (x10_2.set (x14_2 : Int).toNat y503) x11_1 x35_1 (Int.tmod (wrap64 (Int.tdiv x29_1 t501)) (wrap64 ((l0_1.length : Int) + 1))) (wrap64 (x14_2 + 1)) (l0_0.length : Int) x35_1) = some (t509, t510) := zY hy503
                        have Ny503 := Aside0.mk hy503
                        clear hy503
                        obtain ⟨y506, hy506⟩ : ∃ y_ : List (List Int), y_ = (x10_2.set (x14_2 : Int).toNat y503) := ⟨_, rfl⟩
                        replace H : (impl_Chain_bestNested_inner.l1 kk2 (l0_1.length : Int) x29_1 y506 x11_1 x35_1 (Int.tmod (wrap64 (Int.tdiv x29_1 t501)) (wrap64 ((l0_1.length : Int) + 1))) (wrap64 (x14_2 + 1)) (l0_0.length : Int) x35_1) = some (t509, t510) := zY hy506
                        have Ny506 := Aside0.mk hy506
                        clear hy506
                        have H' := Aside0.mk H
                        clear H
                        obtain ⟨Ao17, co17, eo17⟩ := Kd.S_slice HO_10.out
                        subst eo17
                        have p502 : 0 ≤ (x14_2 : Int) := of_decide_eq_true z1
                        have q502 : x14_2 < (x10_2.length : Int) := of_decide_eq_true z1
                        obtain ⟨ad502, A502_0, c502_0, e502, hx502_0, hl502_0, hi502_0⟩ := at_L2 (Kd.S_reads' HO_10.out).2.2 x14_2 p502 q502
                        cases e502
                        obtain ⟨ce502, hce502, hMe502, hcc502⟩ := Kd.S_get HO_10.out [] x14_2 p502 (by first | exact q502 | exact of_decide_eq_true z1 | (have e_ := (Kd.S_reads' HO_10.out).1; omega))
                        obtain ⟨ve502_0, rfl, ge502_0⟩ := hMe502
                        have hv502_0 := hcc502 0 _ rfl
                        rw [Nat.add_zero, show ((Kd.slice 3 (Kd.int .i64))).sz = 1 from rfl, Nat.mul_one] at hv502_0
                        replace hv502_0 := Option.some.inj (hv502_0.symm.trans hx502_0)
                        rw [hv502_0] at ge502_0
                        have HL502_0 := Aside0.mk (show Kd.R (Kd.int .i64) 3 _ _ _ _ (rd_L2 x10_2 x14_2) from ge502_0)
                        clear hv502_0 ge502_0
                        have HX502_0 := Aside0.mk hx502_0
                        clear hcc502 hce502
                        have HR502_0 := Aside0.mk hi502_0
                        have HC502_0 := Aside0.mk hl502_0
                        clear hi502_0 hl502_0
                        replace p502 := eq_true p502
                        replace q502 := eq_true q502
                        obtain ⟨go18, co18, eo18, gb18, gl18, cl18, HG18⟩ := Kd.S_form HO_10.out (by have h_ : (x14_2 : Int) < ((x10_2.length : Int) : Int) := of_decide_eq_true z1; have h2_ : 0 ≤ (x14_2 : Int) := (of_decide_eq_true z1); omega)
                        (first | cases eo18 | (injection eo18 with ea_ en_ ec_; (first | subst ea_ | (injection ea_ with ea_; subst ea_)); subst ec_; clear en_))
                        have GB18 := Aside0.mk gb18
                        have GG18 := Aside0.mk HG18
                        clear gb18 gl18 HG18
                        (first | simp only [add_plain] at hx502_0 | skip)
                        obtain ⟨oki18, ce18, hcl18, hM18, hcc18, _, _, hH18⟩ := Kd.S_elem HO_10.out [] (x14_2 : Int) (of_decide_eq_true z1) (by have h_ : (x14_2 : Int) < ((x10_2.length : Int) : Int) := of_decide_eq_true z1; first | exact h_ | (have e_ := (Kd.S_reads' HO_10.out).1; omega) | simpa using h_)
                        obtain ⟨ve18_0, rfl, ge18_0⟩ := hM18
                        have hv18 := hcc18 0 _ rfl
                        have hX18 := HX502_0.out
                        (try simp only [add_plain] at hX18)
                        (try simp only [Nat.add_zero] at hv18)
                        (try rw [show ((Kd.slice 3 (Kd.int .i64))).sz = 1 from rfl, Nat.mul_one] at hv18)
                        replace hv18 := Option.some.inj (hv18.symm.trans hX18)
                        subst hv18
                        clear hX18 hcc18 hcl18
                        have UU18 := Aside0.mk (show Kd.R (Kd.int .i64) 3 _ wo.heap.size oki18 (.slice A502_0 (rd_L2 x10_2 x14_2).length c502_0) (rd_L2 x10_2 x14_2) from ge18_0)
                        have HH18 := Aside0.mk hH18
                        have HN18 := Aside0.mk (Kd.S_reads' HO_10.out).1
                        clear hH18 ge18_0
                        go_wp2_with (first | ((with_reducible refine gate_builtin (b := .append) (xs := #[.tmp 60, .tmp 62]) rfl ?_); at_builtin; refine Kd.R_append (Kd.int .i64) (w0 := wo) wo.heap.size rfl (.tmp 60) (.tmp 62) 24 3 (.int .i64 0) 8 rfl Try.underlying24 info3 rfl (by decide) (by omega) (.slice A502_0 (rd_L2 x10_2 x14_2).length c502_0) (rd_L2 x10_2 x14_2) x35_1 [.int .i64 x35_1] (fun k_ => oki18 k_ ∨ ((fun _ => True)) k_ ∧ wr.heap.size ≤ k_) (fun _ => False) rfl rfl ?aP (fun _ hk => hk.elim) ?aF ?aO ?aB ?aS ?aL ?_; (case aP => exact rfl); (case aB => exact zH0); (case aF => exact (fun k_ hk => .inr ⟨trivial, hk⟩)); (case aO => exact (by (with_reducible repeat (first | apply Kd.R_alloc | apply Kd.R_drewN | apply Kd.R_drew)); exact Kd.R_mono UU18.out (fun _ hk => .inl hk))); (case aS => exact (below_size zH0)); (case aL => have := LMc15.out; omega); intro v504 w19 ho hb hg hat; rw [← Ny503.out] at ho; have HO505 := Aside0.mk (ho); replace HB := Aside0.mk (hb); replace HH18 := Aside0.mk (Kd.H_grown (Kd.H_widen (by repeat (first | exact HH18.out | refine Kd.H_alloc ?_ _ | refine Kd.H_drewN ?_ _ | refine Kd.H_drew ?_))) hg (fun k_ e_ => .inl (UU18.out.1 k_ e_))); clear HO_10 UU18 HL502_0; clear ho hb hg hat; have p16 : 0 ≤ (x14_2 : Int) := of_decide_eq_true z1; have q16 : (x14_2 : Int) < ((x10_2.length : Int) : Int) := of_decide_eq_true z1; replace p16 := eq_true p16; replace q16 := eq_true q16; obtain ⟨Ao22, co22, eo22⟩ := Kd.R_slice HO505.out; subst eo22; obtain ⟨_, _, hraw20, _, _, hcc20, _⟩ := Kd.H_raw HH18.out (of_decide_eq_true z1) (by have h_ : (x14_2 : Int) < ((x10_2.length : Int) : Int) := of_decide_eq_true z1; first | exact h_ | (have e_ := (HN18.out); omega) | simpa using h_); obtain ⟨_, hfr20⟩ := Kd.H_at HH18.out (of_decide_eq_true z1) (by have h_ : (x14_2 : Int) < ((x10_2.length : Int) : Int) := of_decide_eq_true z1; first | exact h_ | (have e_ := (HN18.out); omega) | simpa using h_); have hx20_0 := hcc20 0 _ rfl; have hf20_0 := hfr20 0; (try simp only [Nat.add_zero] at hx20_0 hf20_0); (try rw [show ((Kd.slice 3 (Kd.int .i64))).sz = 1 from rfl, Nat.mul_one] at hx20_0); (try rw [show ((Kd.slice 3 (Kd.int .i64))).sz = 1 from rfl, Nat.mul_one] at hf20_0); have HP20 := Kd.S_seg0 HH18.out (of_decide_eq_true z1) (by have h_ : (x14_2 : Int) < ((x10_2.length : Int) : Int) := of_decide_eq_true z1; first | exact h_ | (have e_ := (HN18.out); omega) | simpa using h_) (seg := [.slice Ao22 y503.length co22]) (j := 0) (show 1 ≤ 1 from by decide) (x' := y503) (Kd.M_row HO505.out) (fun _ hk => hk); (try simp only [show ((Kd.slice 3 (Kd.int .i64))).sz = 1 from rfl, Nat.mul_one, Nat.add_zero] at HP20); clear hcc20 hfr20) | ((with_reducible refine gate_store (t := 24) (p := 64) rfl ?_); refine store_event (t := 24) (p := 64) (v := ?vo_w21) (w1 := (w19.setCell ⟨go18, (x14_2 : Int).toNat, none⟩ (.slice Ao22 y503.length co22))) ?hg ?ho ?hn ?hr ?_; (case ho => rfl); (case hg => rfl); (case hn => rfl); (case hr => first | (go_simp; done) | (go_simp; rfl)); intro w21 hw; have hg : w19.grownBy w21 (some go18) := (by rw [hw]; exact HP20.2); have hp_ : Kd.S (Kd.slice 3 (Kd.int .i64)) 24 w21 wo.heap.size (fun _ => True) (.slice (some ⟨go18, 0, none⟩) x10_2.length co17) y506 := (by rw [hw, Ny506.out]; exact HP20.1); clear HP20; have HO_10 := Aside0.mk (hp_); replace HB := Aside0.mk ((by rw [hw]; exact below_set HB.out GB18.out : Below wo.heap.size wo w21)); clear HO505 HH18; clear hg hw hp_ hraw20))
                        go_roundg kk2
                        case measure => have := HKi1.out; have := HKi2.out; omega
                        case rel => exact ⟨(y506), (wrap64 (x14_2 + 1)), z3, H', ⟨(by have := HKi1.out; have := HKi2.out; omega)⟩, ⟨(zS HO_10.out)⟩, ⟨zH0⟩⟩
                      · rw [if_neg c15] at H
                        exact absurd H (by simp)
                    · rw [if_neg c14] at H
                      exact absurd H (by simp)
                  · rw [if_neg c13] at H
                    exact absurd H (by simp)
                · rw [if_neg c12] at H
                  have c12b0 : decide (x14_2 < (l0_1.length : Int)) = false := decide_eq_false c12
                  clear c12
                  have H' := Aside0.mk H
                  clear H
                  go_wp2
                  go_roundg kk2
                  case measure => have := HKi1.out; have := HKi2.out; omega
                  case rel => exact ⟨(x10_2), (wrap64 (x11_1 + (Int.tmod (wrap64 (Int.tdiv x29_1 t501)) (wrap64 ((l0_1.length : Int) + 1))))), (wrap64 (x35_1 + 1)), z3, z3, H', ⟨(by have := HKi1.out; have := HKi2.out; omega)⟩, ⟨(zS HO_10.out)⟩, ⟨zH0⟩⟩
        · rw [if_neg c8] at H
          have c8b0 : decide (x35_1 < (l0_0.length : Int)) = false := decide_eq_false c8
          clear c8
          simp only [Option.some.injEq, Prod.mk.injEq] at H
          obtain ⟨rfl, rfl⟩ := H
          go_wp2
          go_meet
          case rel => exact ⟨rfl, ⟨(zS HO_10.out)⟩, ⟨zH0⟩⟩
     obtain ⟨rfl, hS0_, hb0_⟩ := hcut
     have ho0 := hS0_.out
     have hb := hb0_.out
     clear hS0_ hb0_
     clear HB
     have HB := HBo_
     clear HBo_
     clear H'
     have HO512 := Aside0.mk (Kd.S_lower (Kd.S_new' ho0 (Kd.S_lt (zS HO_6.out))) (below_size (zH1 GE507.out)))
     replace HO_6 := zSe HO_6 (Kd.S_base ho0) hb
     replace BK507 := zb BK507 hb
     replace HB := zs1 GE507.out hb
     (try clear hb)
     (try clear hb2)
     (try clear hk)
     (try clear hi)
     (try clear ho0)
     obtain ⟨hcz12_0, hcz12_1, hcz12_2, hfz12_0, hfz12_1, hfz12_2⟩ := zc3 BK507.out
     obtain ⟨Ao13, co13, eo13⟩ := Kd.S_slice HO512.out
     subst eo13
     have H := HQ_.out
     clear HQ_
     replace H := Option.bind_eq_some_iff.mp H
     obtain ⟨⟨t513, t516⟩, A70, H⟩ := H
     replace H : (if t516 = true then ((impl_Chain_cost.f k1 l0_0 l0_1 l0_2 t513).bind fun t517 => (if t510 < x8_1 then (impl_Chain_bestNested.j1 k1 (l0_0.length : Int) (l0_1.length : Int) x6_1 x7_1 x8_1 t509 t510 t517 true t508 x29_1 l0_0 l0_1 l0_2) else (if t510 = x8_1 then ((slices_CompareFunc_int_int_int_int.f k1 t509 x6_1).bind fun t518 => (impl_Chain_bestNested.j1 k1 (l0_0.length : Int) (l0_1.length : Int) x6_1 x7_1 x8_1 t509 t510 t517 (decide (t518 < 0)) t508 x29_1 l0_0 l0_1 l0_2)) else (impl_Chain_bestNested.j1 k1 (l0_0.length : Int) (l0_1.length : Int) x6_1 x7_1 x8_1 t509 t510 t517 false t508 x29_1 l0_0 l0_1 l0_2)))) else (impl_Chain_bestNested.l0 k1 (l0_0.length : Int) (l0_1.length : Int) x6_1 x7_1 x8_1 t508 (wrap64 (x29_1 + 1)) l0_0 l0_1 l0_2)) = some (r1, r2) := H
     have A7 := Aside0.mk A70
     clear A70
     by_cases c8 : t516 = true
     · subst c8
       have H1 : ((impl_Chain_cost.f k1 l0_0 l0_1 l0_2 t513).bind fun t517 => (if t510 < x8_1 then (impl_Chain_bestNested.j1 k1 (l0_0.length : Int) (l0_1.length : Int) x6_1 x7_1 x8_1 t509 t510 t517 true t508 x29_1 l0_0 l0_1 l0_2) else (if t510 = x8_1 then ((slices_CompareFunc_int_int_int_int.f k1 t509 x6_1).bind fun t518 => (impl_Chain_bestNested.j1 k1 (l0_0.length : Int) (l0_1.length : Int) x6_1 x7_1 x8_1 t509 t510 t517 (decide (t518 < 0)) t508 x29_1 l0_0 l0_1 l0_2)) else (impl_Chain_bestNested.j1 k1 (l0_0.length : Int) (l0_1.length : Int) x6_1 x7_1 x8_1 t509 t510 t517 false t508 x29_1 l0_0 l0_1 l0_2)))) = some (r1, r2) := by rw [if_pos rfl] at H; exact H
       clear H
       have H := H1
       clear H1
       replace H := Option.bind_eq_some_iff.mp H
       obtain ⟨t517, A90, H⟩ := H
       replace H : (if t510 < x8_1 then (impl_Chain_bestNested.j1 k1 (l0_0.length : Int) (l0_1.length : Int) x6_1 x7_1 x8_1 t509 t510 t517 true t508 x29_1 l0_0 l0_1 l0_2) else (if t510 = x8_1 then ((slices_CompareFunc_int_int_int_int.f k1 t509 x6_1).bind fun t518 => (impl_Chain_bestNested.j1 k1 (l0_0.length : Int) (l0_1.length : Int) x6_1 x7_1 x8_1 t509 t510 t517 (decide (t518 < 0)) t508 x29_1 l0_0 l0_1 l0_2)) else (impl_Chain_bestNested.j1 k1 (l0_0.length : Int) (l0_1.length : Int) x6_1 x7_1 x8_1 t509 t510 t517 false t508 x29_1 l0_0 l0_1 l0_2))) = some (r1, r2) := H
       have A9 := Aside0.mk A90
       clear A90
       have HC10 := Aside0.mk H
       clear H
       go_upto_region 20 with (first | (go_at_call 60; (with_reducible refine (impl_Chain_nested.calls k1 _ _ l0_0 _ _ l0_1 _ _ l0_2 _ _ t509 t513 true _ ?side1 ?side2 ?side3 ?side4 ?side5 ?side6 ?side7 ?side8 A7.out).mono ?_); (case side1 => exact zC (Kd.C_below HR0_0.out HB.out)); (case side2 => exact HC0_0.out); (case side3 => exact zC (Kd.C_below HR0_1.out HB.out)); (case side4 => exact HC0_1.out); (case side5 => exact zC (Kd.C_below HR0_2.out HB.out)); (case side6 => exact HC0_2.out); (case side7 => exact zC (Kd.S_reads' HO512.out).2.2); (case side8 => exact (Kd.S_reads' HO512.out).2.1); rintro e w14 ⟨v514, rfl, ho0, hb⟩; have HO515 := Aside0.mk (Kd.S_lower (Kd.S_new' (Kd.S_new' ho0 (Kd.S_lt (zS HO_6.out))) (Kd.S_lt (zS HO512.out))) (below_size (zH1 GE507.out))); replace HO_6 := zSe HO_6 (Kd.S_base ho0) hb; replace HO512 := zSe HO512 (Kd.S_base ho0) hb; replace BK507 := zb BK507 hb; replace HB := zs1 GE507.out hb; (try clear hb); (try clear hb2); (try clear hk); (try clear hi); (try clear ho0); obtain ⟨hcz15_0, hcz15_1, hcz15_2, hfz15_0, hfz15_1, hfz15_2⟩ := zc3 BK507.out; obtain ⟨Ao16, co16, eo16⟩ := Kd.S_slice HO515.out; subst eo16) | (go_at_call 78; (with_reducible refine (impl_Chain_cost.calls k1 _ _ l0_0 _ _ l0_1 _ _ l0_2 _ _ t513 t517 _ ?side1 ?side2 ?side3 ?side4 ?side5 ?side6 ?side7 ?side8 A9.out).mono ?_); (case side1 => exact zC (Kd.C_below HR0_0.out HB.out)); (case side2 => exact HC0_0.out); (case side3 => exact zC (Kd.C_below HR0_1.out HB.out)); (case side4 => exact HC0_1.out); (case side5 => exact zC (Kd.C_below HR0_2.out HB.out)); (case side6 => exact HC0_2.out); (case side7 => exact zC (Kd.S_reads' HO515.out).2.2); (case side8 => exact (Kd.S_reads' HO515.out).2.1); rintro e w17 ⟨rfl, hb⟩; replace HO_6 := zSb HO_6 hb; replace HO512 := zSb HO512 hb; replace HO515 := zSb HO515 hb; replace BK507 := zb BK507 hb; replace HB := zs1 GE507.out hb; (try clear hb); (try clear hb2); (try clear hk); (try clear hi)))
       repeat (go_quiet (first | (go_at_call 60; (with_reducible refine (impl_Chain_nested.calls k1 _ _ l0_0 _ _ l0_1 _ _ l0_2 _ _ t509 t513 true _ ?side1 ?side2 ?side3 ?side4 ?side5 ?side6 ?side7 ?side8 A7.out).mono ?_); (case side1 => exact zC (Kd.C_below HR0_0.out HB.out)); (case side2 => exact HC0_0.out); (case side3 => exact zC (Kd.C_below HR0_1.out HB.out)); (case side4 => exact HC0_1.out); (case side5 => exact zC (Kd.C_below HR0_2.out HB.out)); (case side6 => exact HC0_2.out); (case side7 => exact zC (Kd.S_reads' HO512.out).2.2); (case side8 => exact (Kd.S_reads' HO512.out).2.1); rintro e w14 ⟨v514, rfl, ho0, hb⟩; have HO515 := Aside0.mk (Kd.S_lower (Kd.S_new' (Kd.S_new' ho0 (Kd.S_lt (zS HO_6.out))) (Kd.S_lt (zS HO512.out))) (below_size (zH1 GE507.out))); replace HO_6 := zSe HO_6 (Kd.S_base ho0) hb; replace HO512 := zSe HO512 (Kd.S_base ho0) hb; replace BK507 := zb BK507 hb; replace HB := zs1 GE507.out hb; (try clear hb); (try clear hb2); (try clear hk); (try clear hi); (try clear ho0); obtain ⟨hcz15_0, hcz15_1, hcz15_2, hfz15_0, hfz15_1, hfz15_2⟩ := zc3 BK507.out; obtain ⟨Ao16, co16, eo16⟩ := Kd.S_slice HO515.out; subst eo16) | (go_at_call 78; (with_reducible refine (impl_Chain_cost.calls k1 _ _ l0_0 _ _ l0_1 _ _ l0_2 _ _ t513 t517 _ ?side1 ?side2 ?side3 ?side4 ?side5 ?side6 ?side7 ?side8 A9.out).mono ?_); (case side1 => exact zC (Kd.C_below HR0_0.out HB.out)); (case side2 => exact HC0_0.out); (case side3 => exact zC (Kd.C_below HR0_1.out HB.out)); (case side4 => exact HC0_1.out); (case side5 => exact zC (Kd.C_below HR0_2.out HB.out)); (case side6 => exact HC0_2.out); (case side7 => exact zC (Kd.S_reads' HO515.out).2.2); (case side8 => exact (Kd.S_reads' HO515.out).2.1); rintro e w17 ⟨rfl, hb⟩; replace HO_6 := zSb HO_6 hb; replace HO512 := zSb HO512 hb; replace HO515 := zSb HO515 hb; replace BK507 := zb BK507 hb; replace HB := zs1 GE507.out hb; (try clear hb); (try clear hb2); (try clear hk); (try clear hi))); go_upto_region 20 with (first | (go_at_call 153; (with_reducible refine (impl_Chain_bestNested_inner.calls k1 (l0_0.length : Int) (l0_1.length : Int) x29_1 t509 t510 _ A6.out).mono ?_); rintro e w11 ⟨v499, rfl, ho0, hb⟩; have HO512 := Aside0.mk (Kd.S_lower (Kd.S_new' ho0 (Kd.S_lt (zS HO_6.out))) (below_size (zH1 GE507.out))); replace HO_6 := zSe HO_6 (Kd.S_base ho0) hb; replace BK507 := zb BK507 hb; replace HB := zs1 GE507.out hb; (try clear hb); (try clear hb2); (try clear hk); (try clear hi); (try clear ho0); obtain ⟨hcz12_0, hcz12_1, hcz12_2, hfz12_0, hfz12_1, hfz12_2⟩ := zc3 BK507.out; obtain ⟨Ao13, co13, eo13⟩ := Kd.S_slice HO512.out; subst eo13) | (go_at_call 60; (with_reducible refine (impl_Chain_nested.calls k1 _ _ l0_0 _ _ l0_1 _ _ l0_2 _ _ t509 t513 true _ ?side1 ?side2 ?side3 ?side4 ?side5 ?side6 ?side7 ?side8 A7.out).mono ?_); (case side1 => exact zC (Kd.C_below HR0_0.out HB.out)); (case side2 => exact HC0_0.out); (case side3 => exact zC (Kd.C_below HR0_1.out HB.out)); (case side4 => exact HC0_1.out); (case side5 => exact zC (Kd.C_below HR0_2.out HB.out)); (case side6 => exact HC0_2.out); (case side7 => exact zC (Kd.S_reads' HO512.out).2.2); (case side8 => exact (Kd.S_reads' HO512.out).2.1); rintro e w14 ⟨v514, rfl, ho0, hb⟩; have HO515 := Aside0.mk (Kd.S_lower (Kd.S_new' (Kd.S_new' ho0 (Kd.S_lt (zS HO_6.out))) (Kd.S_lt (zS HO512.out))) (below_size (zH1 GE507.out))); replace HO_6 := zSe HO_6 (Kd.S_base ho0) hb; replace HO512 := zSe HO512 (Kd.S_base ho0) hb; replace BK507 := zb BK507 hb; replace HB := zs1 GE507.out hb; (try clear hb); (try clear hb2); (try clear hk); (try clear hi); (try clear ho0); obtain ⟨hcz15_0, hcz15_1, hcz15_2, hfz15_0, hfz15_1, hfz15_2⟩ := zc3 BK507.out; obtain ⟨Ao16, co16, eo16⟩ := Kd.S_slice HO515.out; subst eo16) | (go_at_call 78; (with_reducible refine (impl_Chain_cost.calls k1 _ _ l0_0 _ _ l0_1 _ _ l0_2 _ _ t513 t517 _ ?side1 ?side2 ?side3 ?side4 ?side5 ?side6 ?side7 ?side8 A9.out).mono ?_); (case side1 => exact zC (Kd.C_below HR0_0.out HB.out)); (case side2 => exact HC0_0.out); (case side3 => exact zC (Kd.C_below HR0_1.out HB.out)); (case side4 => exact HC0_1.out); (case side5 => exact zC (Kd.C_below HR0_2.out HB.out)); (case side6 => exact HC0_2.out); (case side7 => exact zC (Kd.S_reads' HO515.out).2.2); (case side8 => exact (Kd.S_reads' HO515.out).2.1); rintro e w17 ⟨rfl, hb⟩; replace HO_6 := zSb HO_6 hb; replace HO512 := zSb HO512 hb; replace HO515 := zSb HO515 hb; replace BK507 := zb BK507 hb; replace HB := zs1 GE507.out hb; (try clear hb); (try clear hb2); (try clear hk); (try clear hi))))
       (try simp only [Act.put, List.setIfInBounds_toArray, List.set_cons_zero, List.set_cons_succ])
       go_cut [18] (fun v18 wc => ∃ (kq : Nat) (x18_9 : Bool), v18 = .bool x18_9 ∧ Aside0 (impl_Chain_bestNested.j1 kq (l0_0.length : Int) (l0_1.length : Int) x6_1 x7_1 x8_1 t509 t510 t517 x18_9 t508 x29_1 l0_0 l0_1 l0_2 = some (r1, r2)) ∧ Aside0 (kq ≤ k1) ∧ Aside0 (Kd.S (Kd.slice 3 (Kd.int .i64)) 24 wc w.heap.size (fun k_ => some k_ ≠ ((.slice Ao13 t509.length co13) : Value).ownBlock) u6 x6_1) ∧ Aside0 (Kd.S (Kd.slice 3 (Kd.int .i64)) 24 wc w.heap.size (fun k_ => some k_ ≠ (u6 : Value).ownBlock) (.slice Ao13 t509.length co13) t509) ∧ Aside0 (wc.heap[gb507]? = some (.cells #[(.slice A0_0 l0_0.length c0_0), (.slice A0_1 l0_1.length c0_1), (.slice A0_2 l0_2.length c0_2)] 26 (0, 0))) ∧ Aside0 (Below w.heap.size w wc))
       case first =>
        have H := HC10.out
        clear HC10
        by_cases c18 : t510 < x8_1
        · rw [if_pos c18] at H
          have c18b0 : decide (t510 < x8_1) = true := decide_eq_true c18
          clear c18
          (first | rw [c18b0] | (simp only [i64_w, i32_w]; rw [c18b0]) | skip)
          have H' := Aside0.mk H
          clear H
          go_wp2
          repeat (go_quiet (fail); try go_wp2)
          go_meet
          case rel => exact ⟨_, (true), z3, H', ⟨z36⟩, ⟨z46⟩, ⟨z45⟩, ⟨(zB BK507.out)⟩, ⟨(zH1 GE507.out)⟩⟩
        · rw [if_neg c18] at H
          have c18b0 : decide (t510 < x8_1) = false := decide_eq_false c18
          clear c18
          (first | rw [c18b0] | (simp only [i64_w, i32_w]; rw [c18b0]) | skip)
          by_cases c19 : t510 = x8_1
          · rw [if_pos c19] at H
            have c19b0 : (t510 == x8_1) = true := beq_iff_eq.mpr c19
            have c19b1 : (t510 != x8_1) = false := bne_eq_false_iff_eq.mpr c19
            clear c19
            replace H := Option.bind_eq_some_iff.mp H
            obtain ⟨t518, A200, H⟩ := H
            replace H : (impl_Chain_bestNested.j1 k1 (l0_0.length : Int) (l0_1.length : Int) x6_1 x7_1 x8_1 t509 t510 t517 (decide (t518 < 0)) t508 x29_1 l0_0 l0_1 l0_2) = some (r1, r2) := H
            have A20 := Aside0.mk A200
            clear A200
            have H' := Aside0.mk H
            clear H
            obtain ⟨Ao21, co21, eo21⟩ := Kd.S_slice HO_6.out
            subst eo21
            go_wp2_with (first | (go_at_call 117; (with_reducible refine (slices_CompareFunc_int_int_int_int.calls k1 _ _ t509 _ _ x6_1 t518 _ ?side1 ?side2 ?side3 ?side4 A20.out).mono ?_); (case side1 => exact zC (Kd.S_reads' HO512.out).2.2); (case side2 => exact (Kd.S_reads' HO512.out).2.1); (case side3 => exact zC (Kd.S_reads' HO_6.out).2.2); (case side4 => exact (Kd.S_reads' HO_6.out).2.1); rintro e w' ⟨rfl, ⟨nd, rfl⟩⟩; (try first | exact ⟨rfl, _, World.drewN_drewN _ _ _⟩ | exact ⟨rfl, _, Eq.trans (World.drewN_drewN _ _ _) (congrArg (World.drewN _) (Nat.add_assoc _ _ _))⟩)))
            repeat (go_quiet (first | (go_at_call 117; (with_reducible refine (slices_CompareFunc_int_int_int_int.calls k1 _ _ t509 _ _ x6_1 t518 _ ?side1 ?side2 ?side3 ?side4 A20.out).mono ?_); (case side1 => exact zC (Kd.S_reads' HO512.out).2.2); (case side2 => exact (Kd.S_reads' HO512.out).2.1); (case side3 => exact zC (Kd.S_reads' HO_6.out).2.2); (case side4 => exact (Kd.S_reads' HO_6.out).2.1); rintro e w' ⟨rfl, ⟨nd, rfl⟩⟩; (try first | exact ⟨rfl, _, World.drewN_drewN _ _ _⟩ | exact ⟨rfl, _, Eq.trans (World.drewN_drewN _ _ _) (congrArg (World.drewN _) (Nat.add_assoc _ _ _))⟩))); try go_wp2_with (first | (go_at_call 117; (with_reducible refine (slices_CompareFunc_int_int_int_int.calls k1 _ _ t509 _ _ x6_1 t518 _ ?side1 ?side2 ?side3 ?side4 A20.out).mono ?_); (case side1 => exact zC (Kd.S_reads' HO512.out).2.2); (case side2 => exact (Kd.S_reads' HO512.out).2.1); (case side3 => exact zC (Kd.S_reads' HO_6.out).2.2); (case side4 => exact (Kd.S_reads' HO_6.out).2.1); rintro e w' ⟨rfl, ⟨nd, rfl⟩⟩; (try first | exact ⟨rfl, _, World.drewN_drewN _ _ _⟩ | exact ⟨rfl, _, Eq.trans (World.drewN_drewN _ _ _) (congrArg (World.drewN _) (Nat.add_assoc _ _ _))⟩))))
            go_meet
            case rel => exact ⟨_, (decide (t518 < 0)), z3, H', ⟨z36⟩, ⟨z46⟩, ⟨z45⟩, ⟨(zB BK507.out)⟩, ⟨(zH1 GE507.out)⟩⟩
          · rw [if_neg c19] at H
            have c19b0 : (t510 == x8_1) = false := beq_eq_false_iff_ne.mpr c19
            have c19b1 : (t510 != x8_1) = true := bne_iff_ne.mpr c19
            have H' := Aside0.mk H
            clear H
            go_wp2
            repeat (go_quiet (fail); try go_wp2)
            go_meet
            case rel => exact ⟨_, (false), z3, H', ⟨z36⟩, ⟨z46⟩, ⟨z45⟩, ⟨(zB BK507.out)⟩, ⟨(zH1 GE507.out)⟩⟩
       case rest =>
        clear HC10
        try clear c1
        try clear p2
        try clear c5
        try clear c5b0
        try clear c6
        try clear p6
        try clear c8
        try clear c18
        try clear c18b0
        try clear c19
        try clear c19b0
        try clear c19b1
        try clear hcz12_0
        try clear hcz12_1
        try clear hcz12_2
        try clear hcz15_0
        try clear hcz15_1
        try clear hcz15_2
        try clear hcz4_0
        try clear hcz4_1
        try clear hcz4_2
        try clear hfz12_0
        try clear hfz12_1
        try clear hfz12_2
        try clear hfz15_0
        try clear hfz15_1
        try clear hfz15_2
        try clear hfz4_0
        try clear hfz4_1
        try clear hfz4_2
        try clear p2
        obtain ⟨kq, x18_9, rfl, HA, HJ9, HO_6, HO_10, BK507, HB⟩ := hcut
        cases kq with
        | zero => exact absurd HA.out (by simp [impl_Chain_bestNested.j1])
        | succ kj9 =>
         have H := HA.out
         clear HA
         simp only [impl_Chain_bestNested.j1] at H
         have HC22 := Aside0.mk H
         clear H
         go_upto_region 21 with (fail)
         repeat (go_quiet (fail); go_upto_region 21 with (fail))
         go_cut [104] (fun v104 wc => ∃ (kq : Nat) (x104_21 : Bool), v104 = .bool x104_21 ∧ Aside0 (impl_Chain_bestNested.j2 kq (l0_0.length : Int) (l0_1.length : Int) x6_1 x7_1 x8_1 t509 t510 t517 t508 x29_1 x104_21 l0_0 l0_1 l0_2 = some (r1, r2)) ∧ Aside0 (kq ≤ kj9) ∧ Aside0 (Kd.S (Kd.slice 3 (Kd.int .i64)) 24 wc w.heap.size (fun k_ => some k_ ≠ ((.slice Ao13 t509.length co13) : Value).ownBlock) u6 x6_1) ∧ Aside0 (Kd.S (Kd.slice 3 (Kd.int .i64)) 24 wc w.heap.size (fun k_ => some k_ ≠ (u6 : Value).ownBlock) (.slice Ao13 t509.length co13) t509) ∧ Aside0 (wc.heap[gb507]? = some (.cells #[(.slice A0_0 l0_0.length c0_0), (.slice A0_1 l0_1.length c0_1), (.slice A0_2 l0_2.length c0_2)] 26 (0, 0))) ∧ Aside0 (Below w.heap.size w wc))
         case first =>
          have H := HC22.out
          clear HC22
          by_cases c23 : t517 < x7_1
          · rw [if_pos c23] at H
            have c23b0 : decide (t517 < x7_1) = true := decide_eq_true c23
            clear c23
            (first | rw [c23b0] | (simp only [i64_w, i32_w]; rw [c23b0]) | skip)
            have H' := Aside0.mk H
            clear H
            go_wp2
            repeat (go_quiet (fail); try go_wp2)
            go_meet
            case rel => exact ⟨_, (true), z3, H', ⟨z52⟩, ⟨(zS HO_6.out)⟩, ⟨(zS HO_10.out)⟩, ⟨(zB BK507.out)⟩, ⟨(zH1 GE507.out)⟩⟩
          · rw [if_neg c23] at H
            have c23b0 : decide (t517 < x7_1) = false := decide_eq_false c23
            clear c23
            (first | rw [c23b0] | (simp only [i64_w, i32_w]; rw [c23b0]) | skip)
            by_cases c24 : t517 = x7_1
            · rw [if_pos c24] at H
              have c24b0 : (t517 == x7_1) = true := beq_iff_eq.mpr c24
              have c24b1 : (t517 != x7_1) = false := bne_eq_false_iff_eq.mpr c24
              clear c24
              have H' := Aside0.mk H
              clear H
              go_wp2
              repeat (go_quiet (fail); try go_wp2)
              go_meet
              case rel => exact ⟨_, (x18_9), z3, H', ⟨z52⟩, ⟨(zS HO_6.out)⟩, ⟨(zS HO_10.out)⟩, ⟨(zB BK507.out)⟩, ⟨(zH1 GE507.out)⟩⟩
            · rw [if_neg c24] at H
              have c24b0 : (t517 == x7_1) = false := beq_eq_false_iff_ne.mpr c24
              have c24b1 : (t517 != x7_1) = true := bne_iff_ne.mpr c24
              have H' := Aside0.mk H
              clear H
              go_wp2
              repeat (go_quiet (fail); try go_wp2)
              go_meet
              case rel => exact ⟨_, (false), z3, H', ⟨z52⟩, ⟨(zS HO_6.out)⟩, ⟨(zS HO_10.out)⟩, ⟨(zB BK507.out)⟩, ⟨(zH1 GE507.out)⟩⟩
         case rest =>
          clear HC22
          try clear c1
          try clear c2
          try clear p2
          try clear c5
          try clear c5b0
          try clear c6
          try clear p6
          try clear c8
          try clear c18
          try clear c18b0
          try clear c19
          try clear c19b0
          try clear c19b1
          try clear c23
          try clear c23b0
          try clear c24
          try clear c24b0
          try clear c24b1
          try clear hcz12_0
          try clear hcz12_1
          try clear hcz12_2
          try clear hcz15_0
          try clear hcz15_1
          try clear hcz15_2
          try clear hcz4_0
          try clear hcz4_1
          try clear hcz4_2
          try clear hfz12_0
          try clear hfz12_1
          try clear hfz12_2
          try clear hfz15_0
          try clear hfz15_1
          try clear hfz15_2
          try clear hfz4_0
          try clear hfz4_1
          try clear hfz4_2
          try clear p2
          try clear p6
          obtain ⟨kq, x104_21, rfl, HA, HJ21, HO_6, HO_10, BK507, HB⟩ := hcut
          cases kq with
          | zero => exact absurd HA.out (by simp [impl_Chain_bestNested.j2])
          | succ kj21 =>
           have H := HA.out
           clear HA
           simp only [impl_Chain_bestNested.j2] at H
           by_cases c25 : x104_21 = true
           · subst c25
             have H1 : (impl_Chain_bestNested.l0 kj21 (l0_0.length : Int) (l0_1.length : Int) t509 t517 t510 t508 (wrap64 (x29_1 + 1)) l0_0 l0_1 l0_2) = some (r1, r2) := by rw [if_pos rfl] at H; exact H
             clear H
             have H := H1
             clear H1
             have H' := Aside0.mk H
             clear H
             go_wp2
             repeat (go_quiet (fail); try go_wp2)
             go_roundg kj21
             case measure => have := HK1.out; have := HJ9.out; have := HJ21.out; omega
             case rel => exact ⟨(t509), (t517), (t510), (wrap64 (x29_1 + 1)), z3, z3, z3, H', ⟨(by have := HK1.out; have := HJ9.out; have := HJ21.out; omega)⟩, ⟨(by (with_reducible repeat (first | apply Kd.S_alloc | apply Kd.S_drewN | apply Kd.S_drew)); exact Kd.S_mono HO_10.out (fun _ hk => trivial))⟩, ⟨(zB BK507.out)⟩, ⟨(zH1 GE507.out)⟩⟩
           · replace c25 := Bool.eq_false_iff.mpr c25
             subst c25
             have H1 : (impl_Chain_bestNested.l0 kj21 (l0_0.length : Int) (l0_1.length : Int) x6_1 x7_1 x8_1 t508 (wrap64 (x29_1 + 1)) l0_0 l0_1 l0_2) = some (r1, r2) := by rw [if_neg (show ¬ (false = true) by decide)] at H; exact H
             clear H
             have H := H1
             clear H1
             have H' := Aside0.mk H
             clear H
             go_wp2
             repeat (go_quiet (fail); try go_wp2)
             go_roundg kj21
             case measure => have := HK1.out; have := HJ9.out; have := HJ21.out; omega
             case rel => exact ⟨(x6_1), (x7_1), (x8_1), (wrap64 (x29_1 + 1)), z3, z3, z3, H', ⟨(by have := HK1.out; have := HJ9.out; have := HJ21.out; omega)⟩, ⟨(by (with_reducible repeat (first | apply Kd.S_alloc | apply Kd.S_drewN | apply Kd.S_drew)); exact Kd.S_mono HO_6.out (fun _ hk => trivial))⟩, ⟨(zB BK507.out)⟩, ⟨(zH1 GE507.out)⟩⟩
     · replace c8 := Bool.eq_false_iff.mpr c8
       subst c8
       have H1 : (impl_Chain_bestNested.l0 k1 (l0_0.length : Int) (l0_1.length : Int) x6_1 x7_1 x8_1 t508 (wrap64 (x29_1 + 1)) l0_0 l0_1 l0_2) = some (r1, r2) := by rw [if_neg (show ¬ (false = true) by decide)] at H; exact H
       clear H
       have H := H1
       clear H1
       have H' := Aside0.mk H
       clear H
       go_wp2_with (first | (go_at_call 60; (with_reducible refine (impl_Chain_nested.calls k1 _ _ l0_0 _ _ l0_1 _ _ l0_2 _ _ t509 t513 false _ ?side1 ?side2 ?side3 ?side4 ?side5 ?side6 ?side7 ?side8 A7.out).mono ?_); (case side1 => exact zC (Kd.C_below HR0_0.out HB.out)); (case side2 => exact HC0_0.out); (case side3 => exact zC (Kd.C_below HR0_1.out HB.out)); (case side4 => exact HC0_1.out); (case side5 => exact zC (Kd.C_below HR0_2.out HB.out)); (case side6 => exact HC0_2.out); (case side7 => exact zC (Kd.S_reads' HO512.out).2.2); (case side8 => exact (Kd.S_reads' HO512.out).2.1); rintro e w29 ⟨v514, rfl, ho0, hb⟩; have HO515 := Aside0.mk (Kd.S_lower (Kd.S_new' (Kd.S_new' ho0 (Kd.S_lt (zS HO_6.out))) (Kd.S_lt (zS HO512.out))) (below_size (zH1 GE507.out))); replace HO_6 := zSe HO_6 (Kd.S_base ho0) hb; replace HO512 := zSe HO512 (Kd.S_base ho0) hb; replace BK507 := zb BK507 hb; replace HB := zs1 GE507.out hb; (try clear hb); (try clear hb2); (try clear hk); (try clear hi); (try clear ho0)))
       repeat (go_quiet (first | (go_at_call 60; (with_reducible refine (impl_Chain_nested.calls k1 _ _ l0_0 _ _ l0_1 _ _ l0_2 _ _ t509 t513 false _ ?side1 ?side2 ?side3 ?side4 ?side5 ?side6 ?side7 ?side8 A7.out).mono ?_); (case side1 => exact zC (Kd.C_below HR0_0.out HB.out)); (case side2 => exact HC0_0.out); (case side3 => exact zC (Kd.C_below HR0_1.out HB.out)); (case side4 => exact HC0_1.out); (case side5 => exact zC (Kd.C_below HR0_2.out HB.out)); (case side6 => exact HC0_2.out); (case side7 => exact zC (Kd.S_reads' HO512.out).2.2); (case side8 => exact (Kd.S_reads' HO512.out).2.1); rintro e w29 ⟨v514, rfl, ho0, hb⟩; have HO515 := Aside0.mk (Kd.S_lower (Kd.S_new' (Kd.S_new' ho0 (Kd.S_lt (zS HO_6.out))) (Kd.S_lt (zS HO512.out))) (below_size (zH1 GE507.out))); replace HO_6 := zSe HO_6 (Kd.S_base ho0) hb; replace HO512 := zSe HO512 (Kd.S_base ho0) hb; replace BK507 := zb BK507 hb; replace HB := zs1 GE507.out hb; (try clear hb); (try clear hb2); (try clear hk); (try clear hi); (try clear ho0))); try go_wp2_with (first | (go_at_call 153; (with_reducible refine (impl_Chain_bestNested_inner.calls k1 (l0_0.length : Int) (l0_1.length : Int) x29_1 t509 t510 _ A6.out).mono ?_); rintro e w26 ⟨v499, rfl, ho0, hb⟩; have HO512 := Aside0.mk (Kd.S_lower (Kd.S_new' ho0 (Kd.S_lt (zS HO_6.out))) (below_size (zH1 GE507.out))); replace HO_6 := zSe HO_6 (Kd.S_base ho0) hb; replace BK507 := zb BK507 hb; replace HB := zs1 GE507.out hb; (try clear hb); (try clear hb2); (try clear hk); (try clear hi); (try clear ho0); obtain ⟨hcz12_0, hcz12_1, hcz12_2, hfz12_0, hfz12_1, hfz12_2⟩ := zc3 BK507.out; obtain ⟨Ao13, co13, eo13⟩ := Kd.S_slice HO512.out; subst eo13) | (go_at_call 60; (with_reducible refine (impl_Chain_nested.calls k1 _ _ l0_0 _ _ l0_1 _ _ l0_2 _ _ t509 t513 false _ ?side1 ?side2 ?side3 ?side4 ?side5 ?side6 ?side7 ?side8 A7.out).mono ?_); (case side1 => exact zC (Kd.C_below HR0_0.out HB.out)); (case side2 => exact HC0_0.out); (case side3 => exact zC (Kd.C_below HR0_1.out HB.out)); (case side4 => exact HC0_1.out); (case side5 => exact zC (Kd.C_below HR0_2.out HB.out)); (case side6 => exact HC0_2.out); (case side7 => exact zC (Kd.S_reads' HO512.out).2.2); (case side8 => exact (Kd.S_reads' HO512.out).2.1); rintro e w29 ⟨v514, rfl, ho0, hb⟩; have HO515 := Aside0.mk (Kd.S_lower (Kd.S_new' (Kd.S_new' ho0 (Kd.S_lt (zS HO_6.out))) (Kd.S_lt (zS HO512.out))) (below_size (zH1 GE507.out))); replace HO_6 := zSe HO_6 (Kd.S_base ho0) hb; replace HO512 := zSe HO512 (Kd.S_base ho0) hb; replace BK507 := zb BK507 hb; replace HB := zs1 GE507.out hb; (try clear hb); (try clear hb2); (try clear hk); (try clear hi); (try clear ho0))))
       go_roundg k1
       case measure => have := HK1.out; omega
       case rel => exact ⟨(x6_1), (x7_1), (x8_1), (wrap64 (x29_1 + 1)), z3, z3, z3, H', ⟨z21⟩, ⟨(by (with_reducible repeat (first | apply Kd.S_alloc | apply Kd.S_drewN | apply Kd.S_drew)); exact Kd.S_mono HO_6.out (fun _ hk => trivial))⟩, ⟨(zB BK507.out)⟩, ⟨(zH1 GE507.out)⟩⟩
   · rw [if_neg c5] at H
     have c5b0 : decide (x29_1 < t508) = false := decide_eq_false c5
     clear c5
     simp only [Option.some.injEq, Prod.mk.injEq] at H
     obtain ⟨rfl, rfl⟩ := H
     go_wp2
     repeat (go_quiet (fail); try go_wp2)
     go_ret2
     exact ⟨_, z5, (zS HO_6.out), (zH1 GE507.out)⟩
end Go.Proofs.Ythlmmcmpllgflaa.P
namespace Go.Proofs.Ythlmmcmpllgflaa.P
open Go.RowKit Go.Proofs.YthlmmcmpllgflaaW.PrintWords Go.Proofs.YthlmmcmpllgflaaW.PrintLast Go.Proofs.YthlmmcmpllgflaaW.PrintMore ChainMath
theorem pow_small {a i : Nat} (ha : a ≤ 4) (hi : i ≤ 6) : a ^ i ≤ 4096 :=
  Nat.le_trans (Nat.pow_le_pow_left ha i) (Nat.le_trans (Nat.pow_le_pow_right (by omega) hi) (by decide))
theorem power_l0 (a n : Nat) (ha : a ≤ 4) (hn : n ≤ 6) : ∀ d i, i + d = n → Ev (fun k => impl_power.l0 k (a : Int) ((a ^ i : Nat) : Int) (n : Int) (i : Int)) ((a ^ n : Nat) : Int)
  | 0, i, h => by
    refine Ev.step (fun k => impl_power.l0.eq_2 ..) ?_
    exact Ev.neg (by omega) ((Ev.now _).to (by rw [show i = n by omega]))
  | d + 1, i, h => by
    refine Ev.step (fun k => impl_power.l0.eq_2 ..) ?_
    have h1 := pow_small (a := a) (i := i + 1) ha (by omega)
    refine Ev.pos (by omega) ?_
    have e : wrap64 (((a ^ i : Nat) : Int) * (a : Int)) = ((a ^ (i + 1) : Nat) : Int) := by
      rw [Nat.pow_succ] at h1 ⊢
      rw [← Int.natCast_mul]
      exact wr (by omega) (by omega)
    rw [e, wrS (by omega)]
    exact power_l0 a n ha hn d (i + 1) (by omega)
theorem power_ev (a n : Nat) (ha : a ≤ 4) (hn : n ≤ 6) : Ev (fun k => impl_power.f k (a : Int) (n : Int)) ((a ^ n : Nat) : Int) := by
  unfold impl_power.f
  exact power_l0 a n ha hn n 0 (by omega)
def cmpL : List Int → List Int → Int
  | [], [] => 0
  | [], _ :: _ => -1
  | _ :: _, [] => 1
  | x :: a, y :: b => if x < y then -1 else if x > y then 1 else cmpL a b
def cmpLL : List (List Int) → List (List Int) → Int
  | [], [] => 0
  | [], _ :: _ => -1
  | _ :: _, [] => 1
  | x :: a, y :: b => if cmpL x y = 0 then cmpLL a b else cmpL x y
theorem cmpCompare_eq (a b : Int) : cmp_Compare_int.f a b = some (if a < b then -1 else if a > b then 1 else 0) := by
  unfold cmp_Compare_int.f cmp_isNaN_int.f
  by_cases h : a < b
  · simp [h]
  · by_cases h2 : a > b <;> simp [h, h2]
theorem Compare_l0 (a b : List Int) (ha : a.length < 4611686018427387904) : ∀ d i, i + d = a.length → Ev (fun k => slices_Compare_int_int.l0 k a b a (a.length : Int) (i : Int)) (cmpL (a.drop i) (b.drop i))
  | 0, i, h => by
    refine Ev.step (fun k => slices_Compare_int_int.l0.eq_2 ..) ?_
    refine Ev.neg (by omega) ?_
    rw [List.drop_of_length_le (l := a) (by omega)]
    by_cases hl : a.length < b.length
    · refine Ev.pos (by omega) ((Ev.now _).to ?_)
      rw [drop_cons b 0 (by omega)]; rfl
    · refine Ev.neg (by omega) ((Ev.now _).to ?_)
      rw [List.drop_of_length_le (l := b) (by omega)]; rfl
  | d + 1, i, h => by
    refine Ev.step (fun k => slices_Compare_int_int.l0.eq_2 ..) ?_
    refine Ev.pos (by omega) (Ev.pos (by omega) (Ev.pos (by omega) ?_))
    rw [drop_cons a 0 (by omega)]
    by_cases hl : (i : Int) ≥ b.length
    · refine Ev.pos hl ((Ev.now _).to ?_)
      rw [List.drop_of_length_le (l := b) (by omega)]; rfl
    · refine Ev.neg hl (Ev.pos (by omega) (Ev.bind (Ev.const (cmpCompare_eq _ _)) ?_))
      rw [drop_cons b 0 (by omega), rd_nat, rd_nat]
      simp only [cmpL]
      by_cases h1 : a.getD i 0 < b.getD i 0
      · rw [if_pos h1, if_pos h1]; exact Ev.neg (by omega) (Ev.now _)
      · rw [if_neg h1, if_neg h1]
        by_cases h2 : a.getD i 0 > b.getD i 0
        · rw [if_pos h2, if_pos h2]; exact Ev.neg (by omega) (Ev.now _)
        · rw [if_neg h2, if_neg h2]
          refine Ev.pos rfl ?_
          rw [wrS (by omega)]; exact Compare_l0 a b ha d (i + 1) (by omega)
theorem Compare_ev (a b : List Int) (ha : a.length < 4611686018427387904) : Ev (fun k => slices_Compare_int_int.f k a b) (cmpL a b) := by
  unfold slices_Compare_int_int.f
  exact (Compare_l0 a b ha a.length 0 (by omega)).to (by simp)
theorem CompareFunc_l0 (a b : List (List Int)) (ha : a.length < 4611686018427387904) (hal : ∀ l ∈ a, l.length < 4611686018427387904) : ∀ d i, i + d = a.length → Ev (fun k => slices_CompareFunc_int_int_int_int.l0 k a b a (a.length : Int) (i : Int)) (cmpLL (a.drop i) (b.drop i))
  | 0, i, h => by
    refine Ev.step (fun k => slices_CompareFunc_int_int_int_int.l0.eq_2 ..) ?_
    refine Ev.neg (by omega) ?_
    rw [List.drop_of_length_le (l := a) (by omega)]
    by_cases hl : a.length < b.length
    · refine Ev.pos (by omega) ((Ev.now _).to ?_)
      rw [drop_cons b [] (by omega)]; rfl
    · refine Ev.neg (by omega) ((Ev.now _).to ?_)
      rw [List.drop_of_length_le (l := b) (by omega)]; rfl
  | d + 1, i, h => by
    refine Ev.step (fun k => slices_CompareFunc_int_int_int_int.l0.eq_2 ..) ?_
    refine Ev.pos (by omega) (Ev.pos (by omega) (Ev.pos (by omega) ?_))
    rw [drop_cons a [] (by omega)]
    by_cases hl : (i : Int) ≥ b.length
    · refine Ev.pos hl ((Ev.now _).to ?_)
      rw [List.drop_of_length_le (l := b) (by omega)]; rfl
    · have hm : a.getD i [] ∈ a := by rw [List.getD_eq_getElem?_getD, List.getElem?_eq_getElem (by omega)]; simp
      have hcl : Ev (fun k => impl_Chain_bestNested_1.f k (a.getD i []) (b.getD i [])) (cmpL (a.getD i []) (b.getD i [])) := by
        unfold impl_Chain_bestNested_1.f
        exact Ev.bind (Compare_ev _ _ (hal _ hm)) (Ev.now _)
      rw [rdL_nat, rdL_nat]
      refine Ev.neg hl (Ev.pos (by omega) (Ev.bind hcl ?_))
      rw [drop_cons b [] (by omega)]
      simp only [cmpLL]
      by_cases h1 : cmpL (a.getD i []) (b.getD i []) = 0
      · rw [if_pos h1]
        refine Ev.pos h1 ?_
        rw [wrS (by omega)]; exact CompareFunc_l0 a b ha hal d (i + 1) (by omega)
      · rw [if_neg h1]; exact Ev.neg h1 (Ev.now _)
theorem CompareFunc_ev (a b : List (List Int)) (ha : a.length < 4611686018427387904) (hal : ∀ l ∈ a, l.length < 4611686018427387904) : Ev (fun k => slices_CompareFunc_int_int_int_int.f k a b) (cmpLL a b) := by
  unfold slices_CompareFunc_int_int_int_int.f
  exact (CompareFunc_l0 a b ha hal a.length 0 (by omega)).to (by simp)
def dig (m code t : Nat) : Nat := code / (m + 1) ^ t % (m + 1)
theorem dig_le (m code t : Nat) : dig m code t ≤ m := by unfold dig; have := Nat.mod_lt (code / (m + 1) ^ t) (show m + 1 > 0 by omega); omega
def Qc (m code s t : Nat) : Bool := decide (m ≤ s + dig m code t)
def sumD (m code : Nat) : Nat → Int
  | 0 => 0
  | t + 1 => sumD m code t + (dig m code t : Int)
def listsTo (m code i : Nat) : List (List Int) := (List.range m).map fun s => per (Qc m code s) i
theorem per_succ (O : Nat → Bool) (n : Nat) : per O (n + 1) = per O n ++ (if O n then [(n : Int)] else []) := by
  unfold per; rw [perN_succ, List.map_append]; split <;> simp
theorem sumD_bound (m code : Nat) : ∀ t, 0 ≤ sumD m code t ∧ sumD m code t ≤ (m : Int) * (t : Int)
  | 0 => by simp [sumD]
  | t + 1 => by
    have h1 := sumD_bound m code t; have h2 := dig_le m code t
    simp only [sumD, Int.natCast_add, Int.mul_add]; simp; omega
def listsMid (m code i j : Nat) : List (List Int) := (List.range m).map fun s => if m - dig m code i ≤ s ∧ s < j then per (Qc m code s) i ++ [(i : Int)] else per (Qc m code s) i
theorem listsMid_start (m code i : Nat) : listsMid m code i (m - dig m code i) = listsTo m code i := by
  unfold listsMid listsTo
  exact List.map_congr_left fun s _ => if_neg (by omega)
theorem listsMid_end (m code i : Nat) : listsMid m code i m = listsTo m code (i + 1) := by
  unfold listsMid listsTo
  refine List.map_congr_left fun s hs => ?_
  rw [List.mem_range] at hs
  rw [per_succ]
  by_cases h : m - dig m code i ≤ s
  · rw [if_pos ⟨h, hs⟩, if_pos (by unfold Qc; simp; omega)]
  · rw [if_neg (fun e => h e.1), if_neg (by unfold Qc; simp; omega)]; simp
theorem listsMid_get (m code i j : Nat) {s : Nat} (h : s < m) : (listsMid m code i j).getD s [] = if m - dig m code i ≤ s ∧ s < j then per (Qc m code s) i ++ [(i : Int)] else per (Qc m code s) i := by
  unfold listsMid; rw [List.getD_eq_getElem?_getD, List.getElem?_map, List.getElem?_range h]; rfl
theorem listsMid_len (m code i j : Nat) : (listsMid m code i j).length = m := by simp [listsMid]
theorem ext_getDL {a b : List (List Int)} (hl : a.length = b.length) (h : ∀ t, t < a.length → a.getD t [] = b.getD t []) : a = b := by
  apply List.ext_getElem hl
  intro i h1 h2
  have := h i h1
  rw [List.getD_eq_getElem?_getD, List.getElem?_eq_getElem h1, List.getD_eq_getElem?_getD, List.getElem?_eq_getElem h2] at this
  exact this
theorem listsMid_step (m code i j : Nat) (h : m - dig m code i ≤ j) (hj : j < m) : (listsMid m code i j).set j ((listsMid m code i j).getD j [] ++ [(i : Int)]) = listsMid m code i (j + 1) := by
  refine ext_getDL (by rw [List.length_set, listsMid_len, listsMid_len]) fun s hs => ?_
  rw [List.length_set, listsMid_len] at hs
  rw [listsMid_get m code i j hj, if_neg (by omega), listsMid_get m code i (j + 1) hs]
  rw [List.getD_eq_getElem?_getD, List.getElem?_set]
  by_cases e : j = s
  · subst e; rw [if_pos rfl, if_pos (by rw [listsMid_len]; exact hj), if_pos (by omega)]; rfl
  · rw [if_neg e, ← List.getD_eq_getElem?_getD, listsMid_get m code i j hs]
    by_cases h2 : m - dig m code i ≤ s ∧ s < j
    · rw [if_pos h2, if_pos (by omega)]
    · rw [if_neg h2, if_neg (by omega)]
theorem per_len_le (O : Nat → Bool) (n : Nat) : (per O n).length ≤ n := by
  rw [per_len]
  induction n with
  | zero => exact Nat.le_refl _
  | succ n ih => simp only [cnt]; split <;> omega
theorem inner_l1 (m code n i : Nat) (hm : m ≤ 3) (hn : n ≤ 6) (hi : i < n) {R : List (List Int) × Int}
    (hR : Ev (fun k => impl_Chain_bestNested_inner.l0 k (m : Int) (code : Int) (listsTo m code (i + 1)) (sumD m code (i + 1)) (n : Int) ((i + 1 : Nat) : Int)) R) : ∀ d j, j + d = m → m - dig m code i ≤ j →
    Ev (fun k => impl_Chain_bestNested_inner.l1 k (m : Int) (code : Int) (listsMid m code i j) (sumD m code i) (i : Int) (dig m code i : Int) (j : Int) (n : Int) (i : Int)) R
  | 0, j, h, hj => by
    refine Ev.step (fun k => impl_Chain_bestNested_inner.l1.eq_2 ..) ?_
    refine Ev.neg (by omega) ?_
    have h1 := sumD_bound m code i; have h2 := dig_le m code i
    have h3 : (m : Int) * (i : Int) ≤ 3 * 6 := Int.mul_le_mul (by omega) (by omega) (by omega) (by omega)
    rw [wr (by omega) (by omega), wrS (by omega), show j = m by omega, listsMid_end]
    exact hR
  | d + 1, j, h, hj => by
    refine Ev.step (fun k => impl_Chain_bestNested_inner.l1.eq_2 ..) ?_
    refine Ev.pos (by omega) (Ev.pos (by omega) (Ev.pos (by rw [listsMid_len]; omega) ?_))
    rw [rdL_nat, Int.toNat_natCast]
    refine Ev.pos ?_ ?_
    · rw [listsMid_get m code i j (by omega)]
      have := per_len_le (Qc m code j) i
      split
      · rw [List.length_append]; simp; omega
      · omega
    · rw [listsMid_step m code i j hj (by omega), wrS (by omega)]
      exact inner_l1 m code n i hm hn hi hR d (j + 1) (by omega) (by omega)
theorem inner_l0 (m code n : Nat) (hm : m ≤ 3) (hn : n ≤ 6) (hc : code ≤ 1000000) : ∀ d i, i + d = n →
    Ev (fun k => impl_Chain_bestNested_inner.l0 k (m : Int) (code : Int) (listsTo m code i) (sumD m code i) (n : Int) (i : Int)) (listsTo m code n, sumD m code n)
  | 0, i, h => by
    refine Ev.step (fun k => impl_Chain_bestNested_inner.l0.eq_2 ..) ?_
    exact Ev.neg (by omega) ((Ev.now _).to (by rw [show i = n by omega]))
  | d + 1, i, h => by
    refine Ev.step (fun k => impl_Chain_bestNested_inner.l0.eq_2 ..) ?_
    have e1 : wrap64 ((m : Int) + 1) = ((m + 1 : Nat) : Int) := wrS (by omega)
    rw [e1]
    refine Ev.pos (by omega) (Ev.bind (power_ev (m + 1) i (by omega) (by omega)) ?_)
    have hp : 0 < (m + 1) ^ i := Nat.pow_pos (by omega)
    have e2 : Int.tmod (wrap64 (Int.tdiv (code : Int) (((m + 1) ^ i : Nat) : Int))) ((m + 1 : Nat) : Int) = (dig m code i : Int) := by
      have h1 : Int.tdiv (code : Int) (((m + 1) ^ i : Nat) : Int) = ((code / (m + 1) ^ i : Nat) : Int) := rfl
      have h2 : code / (m + 1) ^ i ≤ code := Nat.div_le_self _ _
      rw [h1]
      unfold dig
      generalize code / (m + 1) ^ i = x at *
      rw [wr (n := (x : Int)) (by omega) (by omega)]; rfl
    rw [e2]
    have h2 := dig_le m code i
    have e3 : wrap64 ((m : Int) - (dig m code i : Int)) = ((m - dig m code i : Nat) : Int) := by rw [wr (by omega) (by omega)]; omega
    rw [e3]
    refine Ev.neg (by omega) (Ev.neg (by omega) ?_)
    have h4 := inner_l1 m code n i hm hn (by omega) (inner_l0 m code n hm hn hc d (i + 1) (by omega)) (dig m code i) (m - dig m code i) (by omega) (Nat.le_refl _)
    rw [listsMid_start] at h4
    exact h4
theorem inner_ev (m code n : Nat) (hm : m ≤ 3) (hn : n ≤ 6) (hc : code ≤ 1000000) : Ev (fun k => impl_Chain_bestNested_inner.f k (n : Int) (m : Int) (code : Int)) (listsTo m code n, sumD m code n) := by
  unfold impl_Chain_bestNested_inner.f
  refine Ev.pos (by omega) (Ev.pos (by omega) ?_)
  have e : List.replicate ((m : Int)).toNat ([] : List Int) = listsTo m code 0 := by
    unfold listsTo; rw [Int.toNat_natCast]
    refine ext_getDL (by simp) fun t ht => ?_
    simp at ht
    rw [List.getD_eq_getElem?_getD, List.getElem?_replicate, if_pos ht, List.getD_eq_getElem?_getD, List.getElem?_map, List.getElem?_range ht]; rfl
  rw [e]
  exact inner_l0 m code n hm hn hc n 0 (by omega)
def Osc (m code : Nat) : List (Nat → Bool) := (List.range m).map fun s => Qc m code s
def codeCost (need setup hold : List Int) (code : Nat) : Int := planCost need setup hold ((Osc setup.length code).map (planOf need))
abbrev BnState := List (List Int) × Int × Int
def bnStep (need setup hold : List Int) (st : BnState) (code : Nat) : BnState :=
  if ∀ O ∈ Osc setup.length code, cover need O then
    (if codeCost need setup hold code < st.2.1 ∨ (codeCost need setup hold code = st.2.1 ∧ (sumD setup.length code need.length < st.2.2 ∨ (sumD setup.length code need.length = st.2.2 ∧ cmpLL (listsTo setup.length code need.length) st.1 < 0)))
     then (listsTo setup.length code need.length, codeCost need setup hold code, sumD setup.length code need.length) else st)
  else st
def bn (need setup hold : List Int) (total : Nat) : BnState := (List.range total).foldl (bnStep need setup hold) ([], 1099511627776, 0)
theorem bn_succ (need setup hold : List Int) (t : Nat) : bn need setup hold (t + 1) = bnStep need setup hold (bn need setup hold t) t := by
  unfold bn; rw [List.range_succ, List.foldl_append]; rfl
theorem Osc_len (m code : Nat) : (Osc m code).length = m := by simp [Osc]
theorem Osc_get (m code : Nat) {s : Nat} (h : s < (Osc m code).length) : (Osc m code)[s] = Qc m code s := by simp [Osc]
theorem Osc_nest {need : List Int} {m code : Nat} (hc : ∀ O ∈ Osc m code, cover need O) : NestL need (Osc m code) :=
  ⟨hc, fun s t h ho => by
    rw [Osc_get] at ho ⊢
    unfold Qc at ho ⊢; simp at ho ⊢; omega⟩
theorem bestNested_l0 (need setup hold : List Int) (hg : chainB need setup hold = true) (total : Nat) (ht : total ≤ 4096) : ∀ d i, i + d = total →
    Ev (fun k => impl_Chain_bestNested.l0 k (need.length : Int) (setup.length : Int) (bn need setup hold i).1 (bn need setup hold i).2.1 (bn need setup hold i).2.2 (total : Int) (i : Int) need setup hold) ((bn need setup hold total).1, (bn need setup hold total).2.1)
  | 0, i, h => by
    refine Ev.step (fun k => impl_Chain_bestNested.l0.eq_2 ..) ?_
    exact Ev.neg (by omega) ((Ev.now _).to (by rw [show i = total by omega]))
  | d + 1, i, h => by
    have ih := bestNested_l0 need setup hold hg total ht d (i + 1) (by omega)
    unfold chainB at hg; simp only [Bool.and_eq_true, decide_eq_true_eq] at hg
    obtain ⟨g1, g2, g3, g4, g5, g6, g7⟩ := hg
    unfold inB at g3; simp at g3
    have hn : need.length ≤ 6 := by omega
    have hm : setup.length ≤ 3 := by omega
    refine Ev.step (fun k => impl_Chain_bestNested.l0.eq_2 ..) ?_
    refine Ev.pos (by omega) (Ev.bind (inner_ev setup.length i need.length hm hn (by omega)) ?_)
    have el : listsTo setup.length i need.length = (Osc setup.length i).map fun O => per O need.length := by unfold listsTo Osc; rw [List.map_map]; rfl
    have hnest := nested_ev need setup hold (Osc setup.length i) (by omega) (fun x hx => by have := inB_mem g2 hx; omega) (by rw [Osc_len]; omega)
    rw [← el] at hnest
    refine Ev.bind hnest ?_
    rw [bn_succ] at ih
    unfold bnStep at ih
    by_cases hc : ∀ O ∈ Osc setup.length i, cover need O
    · have e : nestedOf need (Osc setup.length i) = ((Osc setup.length i).map (planOf need), true) := by unfold nestedOf; rw [if_pos hc]
      rw [e]
      obtain ⟨rows, hr⟩ := nested_rows need hn g2 (Osc setup.length i) (Osc_nest hc)
      have ok := planOk_of need _ rows g2 hr
      have hcost := cost_ev (setup := setup) (hold := hold) hr ok hn (by rw [List.length_map, Osc_len]; exact hm) (fun x hx => inB_mem g5 hx) (fun x hx => inB_mem g6 hx) (by rw [List.length_map, Osc_len]) (by omega)
      refine Ev.pos rfl (Ev.bind hcost ?_)
      rw [if_pos hc] at ih
      generalize hst : bn need setup hold i = st at *
      obtain ⟨B, L, Ln⟩ := st
      have ec : planCost need setup hold ((Osc setup.length i).map (planOf need)) = codeCost need setup hold i := rfl
      rw [ec]
      generalize codeCost need setup hold i = c at *
      have hj2 : ∀ b : Bool, (b = true ↔ (c < L ∨ (c = L ∧ (sumD setup.length i need.length < Ln ∨ (sumD setup.length i need.length = Ln ∧ cmpLL (listsTo setup.length i need.length) B < 0))))) →
          Ev (fun k => impl_Chain_bestNested.j2 k (need.length : Int) (setup.length : Int) B L Ln (listsTo setup.length i need.length) (sumD setup.length i need.length) c (total : Int) (i : Int) b need setup hold) ((bn need setup hold total).1, (bn need setup hold total).2.1) := by
        intro b hb
        refine Ev.step (fun k => impl_Chain_bestNested.j2.eq_2 ..) ?_
        rw [wrS (by omega)]
        cases b with
        | true => rw [if_pos (hb.1 rfl)] at ih; exact Ev.pos rfl ih
        | false => rw [if_neg (fun e => by have := hb.2 e; simp at this)] at ih; exact Ev.neg (by simp) ih
      have hj1 : ∀ b : Bool, (b = true ↔ (sumD setup.length i need.length < Ln ∨ (sumD setup.length i need.length = Ln ∧ cmpLL (listsTo setup.length i need.length) B < 0))) →
          Ev (fun k => impl_Chain_bestNested.j1 k (need.length : Int) (setup.length : Int) B L Ln (listsTo setup.length i need.length) (sumD setup.length i need.length) c b (total : Int) (i : Int) need setup hold) ((bn need setup hold total).1, (bn need setup hold total).2.1) := by
        intro b hb
        refine Ev.step (fun k => impl_Chain_bestNested.j1.eq_2 ..) ?_
        by_cases h1 : c < L
        · exact Ev.pos h1 (hj2 true (by simp [h1]))
        · refine Ev.neg h1 ?_
          by_cases h2 : c = L
          · refine Ev.pos h2 (hj2 b ?_)
            rw [hb]; simp [h2]
          · exact Ev.neg h2 (hj2 false (by simp [h1, h2]))
      by_cases h1 : sumD setup.length i need.length < Ln
      · exact Ev.pos h1 (hj1 true (by simp [h1]))
      · refine Ev.neg h1 ?_
        by_cases h2 : sumD setup.length i need.length = Ln
        · refine Ev.pos h2 (Ev.bind (CompareFunc_ev _ _ (by simp [listsTo]; omega) ?_) (hj1 _ ?_))
          · intro l hl
            unfold listsTo at hl
            obtain ⟨s, _, rfl⟩ := List.mem_map.1 hl
            have := per_len_le (Qc setup.length i s) need.length; omega
          · simp [h2]
        · exact Ev.neg h2 (hj1 false (by simp [h1, h2]))
    · have e : nestedOf need (Osc setup.length i) = ([], false) := by unfold nestedOf; rw [if_neg hc]
      rw [e]
      rw [if_neg hc] at ih
      refine Ev.neg (by simp) ?_
      rw [wrS (by omega)]; exact ih
theorem bestNested_ev (need setup hold : List Int) (hg : chainB need setup hold = true) :
    Ev (fun k => impl_Chain_bestNested.f k need setup hold) ((bn need setup hold ((setup.length + 1) ^ need.length)).1, (bn need setup hold ((setup.length + 1) ^ need.length)).2.1) := by
  have hg' := hg
  unfold chainB at hg'; simp only [Bool.and_eq_true, decide_eq_true_eq] at hg'
  obtain ⟨g1, g2, g3, g4, g5, g6, g7⟩ := hg'
  unfold inB at g3; simp at g3
  unfold impl_Chain_bestNested.f
  have e1 : wrap64 ((setup.length : Int) + 1) = ((setup.length + 1 : Nat) : Int) := wrS (by omega)
  rw [e1]
  refine Ev.bind (power_ev (setup.length + 1) need.length (by omega) (by omega)) ?_
  exact bestNested_l0 need setup hold hg _ (pow_small (by omega) (by omega)) ((setup.length + 1) ^ need.length) 0 (Nat.zero_add _)
end Go.Proofs.Ythlmmcmpllgflaa.P
namespace Go.Proofs.Ythlmmcmpllgflaa.P
open Go.RowKit Go.Proofs.YthlmmcmpllgflaaW.PrintWords Go.Proofs.YthlmmcmpllgflaaW.PrintLast Go.Proofs.YthlmmcmpllgflaaW.PrintMore
attribute [local go_sem] max2_int min2_int max_two min_two max_three min_three max_four min_four
set_option linter.unusedVariables false
set_option linter.unusedSimpArgs false








def spec_l2Bits.l0 : Nat → Int → Int → List Int → Int → Option (List Int)
 | 0, _, _, _, _ => none
 | k + 1, x0, x1, x5, x6 => if x6 < x0 then (if 0 ≤ x6 then (if (Go.bits .and .i64 (shr .i64 x1 x6) 1) = 1 then (if x5.length < 17592186044416 then (spec_l2Bits.l0 k x0 x1 (x5 ++ [x6]) (wrap64 (x6 + 1))) else (none)) else (spec_l2Bits.l0 k x0 x1 x5 (wrap64 (x6 + 1)))) else (none)) else (some x5)
def spec_l2Bits.f (k : Nat) (a0 : Int) (a1 : Int) : Option (List Int) := spec_l2Bits.l0 k a0 a1 (([] : List Int)) 0
set_option maxHeartbeats 8000000 in
set_option maxRecDepth 100000 in
theorem spec_l2Bits.calls (k : Nat) (a0 : Int) (a1 : Int) (r : List Int) (w : World) (h : spec_l2Bits.f k a0 a1 = some r) :
 Calls Try.prog 95 #[.int .i64 a0, .int .i64 a1] w fun e w' => ∃ v0_ : Value, e = .returned (v0_) ∧ Kd.R (Kd.int .i64) 3 w' w.heap.size (fun _ => True) v0_ r ∧ Below w.heap.size w w' := by
 have HB := Aside0.mk (Below.refl w.heap.size w)
 have H : (spec_l2Bits.l0 k a0 a1 (([] : List Int)) 0) = some r := h
 clear h
 obtain ⟨y205, hy205⟩ : ∃ y_ : List Int, y_ = (([] : List Int)) := ⟨_, rfl⟩
 replace H : (spec_l2Bits.l0 k a0 a1 y205 0) = some r := zY hy205
 have Ny205 := Aside0.mk hy205
 clear hy205
 have H' := Aside0.mk H
 clear H
 go_enter Try.func95, Try.ntmps95
 go_wp2_with (first | ((with_reducible refine gate_dst (N := 7) rfl ?_); refine Kd.R_lit (Kd.int .i64) _ 3 ?hg (N := 7) ?hd (xs := ([] : List Int)) (inner := []) (ok := fun _ => True) (okp := fun _ => True) ?hr ?hp (fun _ hk => hk) trivial (Below.refl _ _) (Nat.le_refl _) (by simp) ?_; (case hd => rfl); (case hg => rfl); (case hr => first | (go_simp; done) | (go_simp; rfl)); (case hp => exact (Reps.none _ _)); intro v206 w3 ho4 hb hg_ hnew_; clear hg_ hnew_; (first | rw [← Ny205.out] at ho4 | (simp only [Int.reduceToNat] at ho4; rw [← Ny205.out] at ho4)); have HO207 := Aside0.mk (Kd.R_lower ho4 (below_size zH0)); replace HB := zs0 hb; clear hb ho4))
 go_loopg [5, 6] k (fun kq v5 v6 w' => ∃ (x5_1 : List Int) (x6_1 : Int), v6 = .int .i64 x6_1 ∧ Aside0 (spec_l2Bits.l0 kq a0 a1 x5_1 x6_1 = some r) ∧ Aside0 (kq ≤ k) ∧ Aside0 (Kd.R (Kd.int .i64) 3 w' w.heap.size (fun _ => True) v5 x5_1) ∧ Aside0 (Below w.heap.size w w'))
 case atStart => exact ⟨(y205), (0), z3, H', ⟨Nat.le_refl _⟩, ⟨(zR HO207.out)⟩, ⟨zH0⟩⟩
 case round =>
  clear H'
  try clear p2
  obtain ⟨x5_1, x6_1, rfl, HA, HK1, HO_5, HB⟩ := hrel
  cases gk with
  | zero => exact absurd HA.out (by simp [spec_l2Bits.l0])
  | succ k1 =>
   have H := HA.out
   clear HA
   simp only [spec_l2Bits.l0] at H
   by_cases c5 : x6_1 < a0
   · rw [if_pos c5] at H
     have c5b0 : decide (x6_1 < a0) = true := decide_eq_true c5
     clear c5
     by_cases c6 : 0 ≤ x6_1
     · rw [if_pos c6] at H
       have c6b0 := eq_true c6
       have c6b1 : decide (0 ≤ x6_1) = true := decide_eq_true c6
       clear c6
       obtain ⟨ji7, hji7⟩ : ∃ j_ : Int, (shr .i64 a1 x6_1) = j_ := ⟨_, rfl⟩
       replace H : (if (Go.bits .and .i64 (ji7) 1) = 1 then (if x5_1.length < 17592186044416 then (spec_l2Bits.l0 k1 a0 a1 (x5_1 ++ [x6_1]) (wrap64 (x6_1 + 1))) else (none)) else (spec_l2Bits.l0 k1 a0 a1 x5_1 (wrap64 (x6_1 + 1)))) = some r := by first | (rw [hji7] at H; exact H) | (simp only [hji7] at H ⊢; exact H)
       have hji7_ : (a1 / 2 ^ min x6_1.toNat 64) = ji7 := hji7
       have hji7z : x6_1 ≤ 64 → (a1 / 2 ^ x6_1.toNat) = ji7 := shr_small hji7
       by_cases c8 : (Go.bits .and .i64 (ji7) 1) = 1
       · rw [if_pos c8] at H
         have c8b0 : ((Go.bits .and .i64 (ji7) 1) == 1) = true := beq_iff_eq.mpr c8
         have c8b1 : ((Go.bits .and .i64 (ji7) 1) != 1) = false := bne_eq_false_iff_eq.mpr c8
         clear c8
         by_cases c9 : x5_1.length < 17592186044416
         · rw [if_pos c9] at H
           have LMc9 := Aside0.mk c9
           clear c9
           obtain ⟨y208, hy208⟩ : ∃ y_ : List Int, y_ = (x5_1 ++ [x6_1]) := ⟨_, rfl⟩
           replace H : (spec_l2Bits.l0 k1 a0 a1 y208 (wrap64 (x6_1 + 1))) = some r := zY hy208
           have Ny208 := Aside0.mk hy208
           clear hy208
           have H' := Aside0.mk H
           clear H
           go_wp2_with (first | ((with_reducible refine gate_builtin (b := .append) (xs := #[.tmp 18, .tmp 20]) rfl ?_); at_builtin; refine Kd.R_append (Kd.int .i64) (w0 := w) w.heap.size rfl (.tmp 18) (.tmp 20) 24 3 (.int .i64 0) 8 rfl Try.underlying24 info3 rfl (by decide) (by omega) u5 x5_1 x6_1 [.int .i64 x6_1] (fun _ => True) (fun _ => False) rfl rfl ?aP (fun _ hk => hk.elim) ?aF ?aO ?aB ?aS ?aL ?_; (case aP => exact rfl); (case aB => exact zH0); (case aF => exact (fun _ _ => trivial)); (case aO => exact (zR HO_5.out)); (case aS => exact (below_size zH0)); (case aL => have := LMc9.out; omega); intro v209 w10 ho hb hg hat; rw [← Ny208.out] at ho; have HO210 := Aside0.mk (ho); replace HB := Aside0.mk (hb); clear HO_5; clear ho hb hg hat))
           go_roundg k1
           case measure => have := HK1.out; omega
           case rel => exact ⟨(y208), (wrap64 (x6_1 + 1)), z3, H', ⟨z21⟩, ⟨(zR HO210.out)⟩, ⟨zH0⟩⟩
         · rw [if_neg c9] at H
           exact absurd H (by simp)
       · rw [if_neg c8] at H
         have c8b0 : ((Go.bits .and .i64 (ji7) 1) == 1) = false := beq_eq_false_iff_ne.mpr c8
         have c8b1 : ((Go.bits .and .i64 (ji7) 1) != 1) = true := bne_iff_ne.mpr c8
         have H' := Aside0.mk H
         clear H
         go_wp2
         go_roundg k1
         case measure => have := HK1.out; omega
         case rel => exact ⟨(x5_1), (wrap64 (x6_1 + 1)), z3, H', ⟨z21⟩, ⟨(zR HO_5.out)⟩, ⟨zH0⟩⟩
     · rw [if_neg c6] at H
       exact absurd H (by simp)
   · rw [if_neg c5] at H
     have c5b0 : decide (x6_1 < a0) = false := decide_eq_false c5
     clear c5
     obtain rfl := Option.some.inj H
     go_wp2
     go_ret
     exact ⟨_, z5, (zR HO_5.out), zH0⟩
end Go.Proofs.Ythlmmcmpllgflaa.P
namespace Go.Proofs.Ythlmmcmpllgflaa.P
open Go.RowKit Go.Proofs.YthlmmcmpllgflaaW.PrintWords Go.Proofs.YthlmmcmpllgflaaW.PrintLast Go.Proofs.YthlmmcmpllgflaaW.PrintMore ChainMath
def Ob (code : Nat) (i : Nat) : Bool := decide ((Go.bits .and .i64 (shr .i64 (code : Int) (i : Int)) 1) = 1)
theorem cnt_le_self (O : Nat → Bool) : ∀ i, cnt O i ≤ i
  | 0 => Nat.le_refl _
  | i + 1 => by have := cnt_le_self O i; simp only [cnt]; split <;> omega
theorem l2Bits_l0 (n code : Nat) (hn : n ≤ 8) : ∀ d i, i + d = n → Ev (fun k => spec_l2Bits.l0 k (n : Int) (code : Int) (per (Ob code) i) (i : Int)) (per (Ob code) n)
  | 0, i, h => by
    refine Ev.step (fun k => spec_l2Bits.l0.eq_2 ..) ?_
    exact Ev.neg (by omega) ((Ev.now _).to (by rw [show i = n by omega]))
  | d + 1, i, h => by
    have ih := l2Bits_l0 n code hn d (i + 1) (by omega)
    refine Ev.step (fun k => spec_l2Bits.l0.eq_2 ..) ?_
    refine Ev.pos (by omega) (Ev.pos (by omega) ?_)
    rw [wrS (by omega)]
    rw [show per (Ob code) (i + 1) = per (Ob code) i ++ (if Ob code i then [(i : Int)] else []) by unfold per; rw [perN_succ, List.map_append]; split <;> simp] at ih
    by_cases hb : (Go.bits .and .i64 (shr .i64 (code : Int) (i : Int)) 1) = 1
    · have e : Ob code i = true := by unfold Ob; rw [decide_eq_true hb]
      rw [e, if_pos rfl] at ih
      refine Ev.pos hb (Ev.pos ?_ ih)
      rw [per_len]
      have := cnt_le_self (Ob code) i
      omega
    · have e : Ob code i = false := by unfold Ob; rw [decide_eq_false hb]
      rw [e] at ih
      simp only [Bool.false_eq_true, if_false, List.append_nil] at ih
      exact Ev.neg hb ih
theorem l2Bits_ev (n code : Nat) (hn : n ≤ 8) : Ev (fun k => spec_l2Bits.f k (n : Int) (code : Int)) (per (Ob code) n) := by
  unfold spec_l2Bits.f
  exact l2Bits_l0 n code hn n 0 (by omega)
theorem first_order (O : Nat → Bool) {n : Nat} (h : 0 < cnt O n) : (per O n).getD 0 0 = (nxt O n 0 : Int) ∧ nxt O n 0 < n := by
  have h3 := cnt_nxt O n (i := 0)
  have h4 : nxt O n 0 < n := by
    have := nxt_le O (n := n) (t := 0) (by omega)
    rcases Nat.eq_or_lt_of_le this with e | e
    · rw [e] at h3; simp [cnt] at h3; omega
    · exact e
  have h5 := per_get O h4 (nxt_in O h4)
  rw [h3] at h5; exact ⟨h5, h4⟩
theorem no_order (O : Nat → Bool) {n : Nat} (h : cnt O n = 0) : nxt O n 0 = n := by
  have h1 := nxt_le O (n := n) (t := 0) (by omega)
  rcases Nat.eq_or_lt_of_le h1 with e | e
  · exact e
  · have h5 := nxt_in O e
    have := cnt_mono O (show nxt O n 0 + 1 ≤ n from e)
    simp only [cnt, h5, if_true] at this; omega
theorem lsum_part (l : List Int) {a b : Nat} (h : a ≤ b) : lsum ((l.take b).drop a) = dsum l b - dsum l a := by
  have e : (l.take b).take a ++ (l.take b).drop a = l.take b := List.take_append_drop _ _
  have h2 : lsum ((l.take b).take a) + lsum ((l.take b).drop a) = lsum (l.take b) := by rw [← lsum_append, e]
  rw [List.take_take, Nat.min_eq_left h] at h2
  unfold dsum; omega
theorem l2Sum_part (l : List Int) (hl : l.length ≤ 1000) (hn : ∀ x ∈ l, 0 ≤ x ∧ x ≤ 1000000) {a b : Nat} (h : a ≤ b) (hb : b ≤ l.length) : Ev (fun k => spec_l2Sum.f k ((l.take b).drop a)) (dsum l b - dsum l a) := by
  refine (l2Sum_ev _ ?_ ?_).to (lsum_part l h)
  · rw [List.length_drop, List.length_take]; omega
  · intro x hx; have := hn x (List.mem_of_mem_take (List.mem_of_mem_drop hx)); omega
def ahead (need : List Int) (O : Nat → Bool) (i : Nat) : List Int := (List.range need.length).map fun t => if O t = true ∧ t < i then dsum need (nxt O need.length (t + 1)) - dsum need t else 0
theorem ahead_len (need : List Int) (O : Nat → Bool) (i : Nat) : (ahead need O i).length = need.length := by unfold ahead; simp
theorem ahead_get (need : List Int) (O : Nat → Bool) (i : Nat) {t : Nat} (h : t < need.length) : (ahead need O i).getD t 0 = if O t = true ∧ t < i then dsum need (nxt O need.length (t + 1)) - dsum need t else 0 := by
  unfold ahead; rw [List.getD_eq_getElem?_getD, List.getElem?_map, List.getElem?_range h]; rfl
theorem ahead_n (need : List Int) (O : Nat → Bool) : ahead need O need.length = planOf need O := by
  refine ext_getD (by rw [ahead_len, planOf_len]) fun t ht => ?_
  rw [ahead_len] at ht
  rw [ahead_get need O _ ht, planOf_get need O ht]
  by_cases h : O t = true
  · rw [if_pos ⟨h, ht⟩, if_pos h]
  · rw [if_neg (fun e => h e.1), if_neg h]
theorem ahead_skip (need : List Int) (O : Nat → Bool) {i : Nat} (ho : O i = false) : ahead need O (i + 1) = ahead need O i := by
  refine ext_getD (by rw [ahead_len, ahead_len]) fun t ht => ?_
  rw [ahead_len] at ht
  rw [ahead_get need O _ ht, ahead_get need O _ ht]
  by_cases h : O t = true ∧ t < i
  · rw [if_pos h, if_pos ⟨h.1, (by omega)⟩]
  · rw [if_neg h, if_neg (fun e => h ⟨e.1, by
      rcases Nat.eq_or_lt_of_le (Nat.le_of_lt_succ e.2) with e2 | e2
      · rw [e2, ho] at e; simp at e
      · exact e2⟩)]
theorem ahead_set (need : List Int) (O : Nat → Bool) {i : Nat} (h : i < need.length) (ho : O i = true) : (ahead need O i).set i (dsum need (nxt O need.length (i + 1)) - dsum need i) = ahead need O (i + 1) := by
  refine ext_getD (by rw [List.length_set, ahead_len, ahead_len]) fun t ht => ?_
  rw [List.length_set, ahead_len] at ht
  rw [getD_set _ _ _ _ (by rw [ahead_len]; exact h), ahead_get need O _ ht, ahead_get need O _ ht]
  by_cases e : t = i
  · subst e; rw [if_pos rfl, if_pos ⟨ho, (by omega)⟩]
  · rw [if_neg e]
    by_cases h2 : O t = true ∧ t < i
    · rw [if_pos h2, if_pos ⟨h2.1, (by omega)⟩]
    · rw [if_neg h2, if_neg (fun e2 => h2 ⟨e2.1, (by have := e2.2; omega)⟩)]
theorem next_order (O : Nat → Bool) {n i : Nat} (hi : i < n) (ho : O i = true) :
    if cnt O i + 1 < cnt O n then (per O n).getD (cnt O i + 1) 0 = (nxt O n (i + 1) : Int) else nxt O n (i + 1) = n := by
  have h1 : cnt O (i + 1) = cnt O i + 1 := by simp [cnt, ho]
  have h2 := cnt_nxt O n (i := i + 1)
  have h3 := nxt_le O (n := n) (t := i + 1) (by omega)
  split
  · rename_i hc
    rcases Nat.eq_or_lt_of_le h3 with e | e
    · rw [e] at h2; omega
    · have := per_get O e (nxt_in O e); rw [h2, h1] at this; exact this
  · rename_i hc
    rcases Nat.eq_or_lt_of_le h3 with e | e
    · exact e
    · have h5 := nxt_in O e
      have := cnt_mono O (show nxt O n (i + 1) + 1 ≤ n from e)
      simp only [cnt, h5, if_true] at this; omega
structure Lots (need setup unit hold : List Int) : Prop where
  n : need.length ≤ 8
  ls : setup.length = need.length
  lu : unit.length = need.length
  lh : hold.length = need.length
  need : ∀ x ∈ need, 0 ≤ x ∧ x ≤ 20
  setup : ∀ x ∈ setup, 0 ≤ x ∧ x ≤ 99
  unit : ∀ x ∈ unit, 0 ≤ x ∧ x ≤ 9
  hold : ∀ x ∈ hold, 0 ≤ x ∧ x ≤ 9
structure PlanIs (need plan : List Int) : Prop where
  len : plan.length = need.length
  amt : ∀ x ∈ plan, 0 ≤ x ∧ x ≤ 160
  over : ∀ t, t ≤ need.length → dsum need t ≤ dsum plan t
section
variable {need setup unit hold plan : List Int} (L : Lots need setup unit hold) (P : PlanIs need plan)
include L P
end
theorem shl_pow {n : Nat} (h : n ≤ 8) : shl .i64 1 (n : Int) = ((2 ^ n : Nat) : Int) := by
  have : ∀ m : Fin 9, shl .i64 1 ((m : Nat) : Int) = ((2 ^ (m : Nat) : Nat) : Int) := by decide
  exact this ⟨n, (by omega)⟩
theorem pow2_le {n : Nat} (h : n ≤ 8) : 2 ^ n ≤ 256 := Nat.le_trans (Nat.pow_le_pow_right (by omega) h) (by decide)
section
variable {need setup unit hold : List Int} (L : Lots need setup unit hold)
include L
theorem Lots.big : ∀ x ∈ need, 0 ≤ x ∧ x ≤ 1000000 := fun x hx => by have := L.need x hx; omega
end
end Go.Proofs.Ythlmmcmpllgflaa.P
namespace Go.Proofs.Ythlmmcmpllgflaa.P
open Go.RowKit Go.Proofs.YthlmmcmpllgflaaW.PrintWords Go.Proofs.YthlmmcmpllgflaaW.PrintLast Go.Proofs.YthlmmcmpllgflaaW.PrintMore
attribute [local go_sem] max2_int min2_int max_two min_two max_three min_three max_four min_four
set_option linter.unusedVariables false
set_option linter.unusedSimpArgs false

end Go.Proofs.Ythlmmcmpllgflaa.P
namespace Go.Proofs.Ythlmmcmpllgflaa.P
open Go.RowKit Go.Proofs.YthlmmcmpllgflaaW.PrintWords Go.Proofs.YthlmmcmpllgflaaW.PrintLast Go.Proofs.YthlmmcmpllgflaaW.PrintMore ChainMath
structure Small (need setup hold : List Int) : Prop where
  n : need.length ≤ 6
  m : setup.length ≤ 3
  m0 : 0 < setup.length
  h : hold.length = setup.length
  ris : risB hold = true
  need : ∀ x ∈ need, 0 ≤ x ∧ x ≤ 20
  setup : ∀ x ∈ setup, 0 ≤ x ∧ x ≤ 99
  hold : ∀ x ∈ hold, 0 ≤ x ∧ x ≤ 9
theorem small_of {need setup hold : List Int} (hg : chainB need setup hold = true) : Small need setup hold := by
  unfold chainB at hg; simp only [Bool.and_eq_true, decide_eq_true_eq] at hg
  obtain ⟨g1, g2, g3, g4, g5, g6, g7⟩ := hg
  unfold inB at g3; simp at g3
  exact ⟨(by omega), (by omega), (by omega), (by omega), g7, fun x hx => inB_mem g2 hx, fun x hx => inB_mem g5 hx, fun x hx => inB_mem g6 hx⟩
section
variable {need setup hold : List Int} (S : Small need setup hold)
include S
theorem Small.D : ∀ s t, s ≤ t → t ≤ need.length → dsum need s ≤ dsum need t := dsum_mono need (fun x hx => (S.need x hx).1)
theorem Small.su {s : Nat} (h : s < setup.length) : 0 ≤ fn setup s ∧ fn setup s ≤ 99 := S.setup _ (getD_mem setup h)
theorem Small.ho {s : Nat} (h : s < setup.length) : 0 ≤ fn hold s ∧ fn hold s ≤ 9 := S.hold _ (getD_mem hold (by rw [S.h]; exact h))
theorem Small.ho0 : ∀ s, s < setup.length → 0 ≤ fn hold s := fun _ h => (S.ho h).1
end
def g7 (need setup hold : List Int) (a b : Nat) : Int := give setup.length (dsum need) (fn setup) (fn hold) (need.length + setup.length) 0 a a b
section
variable {need setup hold : List Int}
variable (S : Small need setup hold)
include S
end
theorem nxtF_congr {O P : Nat → Bool} : ∀ f t, (∀ u, t ≤ u → u < t + f → O u = P u) → nxtF O f t = nxtF P f t
  | 0, _, _ => rfl
  | f + 1, t, h => by
    unfold nxtF; rw [h t (Nat.le_refl _) (by omega), nxtF_congr f (t + 1) (fun u h1 h2 => h u (by omega) (by omega))]
theorem nxt_congr {O P : Nat → Bool} {n t : Nat} (h : ∀ u, u < n → O u = P u) : nxt O n t = nxt P n t := by
  unfold nxt
  rcases Nat.lt_or_ge t n with h1 | h1
  · exact nxtF_congr _ _ fun u _ h2 => h u (by omega)
  · rw [show n - t = 0 by omega]; rfl
def codeOf (B : Nat) (q : Nat → Nat) : Nat → Nat
  | 0 => 0
  | t + 1 => codeOf B q t + q t * B ^ t
theorem codeOf_lt (B : Nat) (q : Nat → Nat) (hB : 0 < B) (hq : ∀ t, q t < B) : ∀ t, codeOf B q t < B ^ t
  | 0 => by simp [codeOf]
  | t + 1 => by
    have ih := codeOf_lt B q hB hq t
    have h2 := Nat.mul_le_mul_right (B ^ t) (Nat.le_pred_of_lt (hq t))
    simp only [codeOf, Nat.pow_succ]
    have h3 : (B - 1) * B ^ t + B ^ t = B ^ t * B := by
      rw [← Nat.succ_mul, Nat.mul_comm]; congr 1; omega
    have h4 : Nat.pred B = B - 1 := rfl
    rw [h4] at h2
    omega
theorem codeOf_dig (B : Nat) (q : Nat → Nat) (hB : 0 < B) (hq : ∀ t, q t < B) : ∀ n t, t < n → codeOf B q n / B ^ t % B = q t
  | 0, t, h => by omega
  | n + 1, t, h => by
    have hp : 0 < B ^ t := Nat.pow_pos hB
    simp only [codeOf]
    rcases Nat.eq_or_lt_of_le (Nat.le_of_lt_succ h) with e | e
    · subst e
      rw [Nat.add_mul_div_right _ _ hp, Nat.div_eq_of_lt (codeOf_lt B q hB hq t), Nat.zero_add, Nat.mod_eq_of_lt (hq t)]
    · obtain ⟨j, rfl⟩ : ∃ j, n = t + (j + 1) := ⟨n - t - 1, (by omega)⟩
      have h2 : q (t + (j + 1)) * B ^ (t + (j + 1)) = (q (t + (j + 1)) * B ^ j * B) * B ^ t := by
        rw [Nat.pow_add, Nat.pow_succ]; ac_rfl
      rw [h2, Nat.add_mul_div_right _ _ hp, Nat.add_mul_mod_self_right]
      exact codeOf_dig B q hB hq (t + (j + 1)) t e
theorem cnt_none {P : Nat → Bool} : ∀ m, (∀ s, s < m → P s = false) → cnt P m = 0
  | 0, _ => rfl
  | m + 1, h => by simp only [cnt]; rw [cnt_none m (fun s hs => h s (by omega)), h m (by omega)]; simp
theorem cnt_self {P : Nat → Bool} : ∀ m, cnt P m ≤ m
  | 0 => Nat.le_refl _
  | m + 1 => by have := cnt_self (P := P) m; simp only [cnt]; split <;> omega
theorem up_iff {P : Nat → Bool} : ∀ m, (∀ s, s + 1 < m → P s = true → P (s + 1) = true) → ∀ s, s < m → (P s = true ↔ m ≤ s + cnt P m)
  | 0, _, s, h => by omega
  | m + 1, hu, s, h => by
    have ih := up_iff m (fun s hs => hu s (by omega))
    simp only [cnt]
    have hup : ∀ d s, s + d = m → P s = true → P m = true := by
      intro d
      induction d with
      | zero => intro s e h; rw [← e]; exact h
      | succ d ihd => intro s e h; exact ihd (s + 1) (by omega) (hu s (by omega) h)
    rcases Bool.eq_false_or_eq_true (P m) with e | e
    · rw [e]; simp only [if_true]
      rcases Nat.eq_or_lt_of_le (Nat.le_of_lt_succ h) with e2 | e2
      · subst e2; simp [e]
      · rw [ih s e2]; omega
    · rw [e]
      have hall : ∀ s, s < m → P s = false := by
        intro s hs
        rcases Bool.eq_false_or_eq_true (P s) with e2 | e2
        · have := hup (m - s) s (by omega) e2; rw [e] at this; simp at this
        · exact e2
      rw [cnt_none m hall]
      rcases Nat.eq_or_lt_of_le (Nat.le_of_lt_succ h) with e2 | e2
      · subst e2; simp [e]
      · rw [hall s e2]; simp; omega
section
variable {need setup hold : List Int} (S : Small need setup hold)
include S
theorem Small.need20 : need.all (inB 0 20) = true := by
  rw [List.all_eq_true]; intro x hx; have := S.need x hx; unfold inB; simpa using this
end
end Go.Proofs.Ythlmmcmpllgflaa.P
namespace Go.Proofs.Ythlmmcmpllgflaa.P
open Go.RowKit Go.Proofs.YthlmmcmpllgflaaW.PrintWords Go.Proofs.YthlmmcmpllgflaaW.PrintLast Go.Proofs.YthlmmcmpllgflaaW.PrintMore
attribute [local go_sem] max2_int min2_int max_two min_two max_three min_three max_four min_four
set_option linter.unusedVariables false
set_option linter.unusedSimpArgs false
def laws_eqIntSS.l0 : Nat → List (List Int) → List (List Int) → Int → Option (Bool)
 | 0, _, _, _ => none
 | k + 1, x0, x1, x5 => if x5 < (x0.length : Int) then (if 0 ≤ x5 then (if x5 < (x1.length : Int) then ((laws_eqIntS.f k (rd_L2 x0 x5) (rd_L2 x1 x5)).bind fun t1322 => (if t1322 = true then (laws_eqIntSS.l0 k x0 x1 (wrap64 (x5 + 1))) else (some false))) else (none)) else (none)) else (some true)
def laws_eqIntSS.f (k : Nat) (l0 : List (List Int)) (l1 : List (List Int)) : Option (Bool) := if (l0.length : Int) = (l1.length : Int) then (laws_eqIntSS.l0 k l0 l1 0) else (some false)
set_option maxHeartbeats 8000000 in
set_option maxRecDepth 100000 in
theorem laws_eqIntSS.calls (k : Nat) (A0 : Option Addr) (c0 : Nat) (l0 : List (List Int)) (A1 : Option Addr) (c1 : Nat) (l1 : List (List Int)) (r : Bool) (w : World) (hr0 : Kd.C (Kd.slice 3 (Kd.int .i64)) w A0 l0.length l0) (hc0 : l0.length ≤ c0) (hr1 : Kd.C (Kd.slice 3 (Kd.int .i64)) w A1 l1.length l1) (hc1 : l1.length ≤ c1) (h : laws_eqIntSS.f k l0 l1 = some r) :
 Calls Try.prog 25 #[.slice A0 l0.length c0, .slice A1 l1.length c1] w fun e w' => e = .returned (.bool r) ∧ Drawn0 w w' := by
 have HR0 := Aside0.mk hr0
 have HC0 := Aside0.mk hc0
 clear hr0 hc0
 have HR1 := Aside0.mk hr1
 have HC1 := Aside0.mk hc1
 clear hr1 hc1
 have H : (if (l0.length : Int) = (l1.length : Int) then (laws_eqIntSS.l0 k l0 l1 0) else (some false)) = some r := h
 clear h
 by_cases c3 : (l0.length : Int) = (l1.length : Int)
 · rw [if_pos c3] at H
   have c3b0 : ((l0.length : Int) == (l1.length : Int)) = true := beq_iff_eq.mpr c3
   have c3b1 : ((l0.length : Int) != (l1.length : Int)) = false := bne_eq_false_iff_eq.mpr c3
   have c3b2 : (l0.length == l1.length) = true := by first | simpa using c3 | (simp at c3 ⊢; omega)
   clear c3
   have H' := Aside0.mk H
   clear H
   go_enter Try.func25, Try.ntmps25
   go_wp2
   repeat (go_quiet (fail); try go_wp2)
   go_loopg [5] k (fun kq v5 w' => ∃ (x5_1 : Int), v5 = .int .i64 x5_1 ∧ Aside0 (laws_eqIntSS.l0 kq l0 l1 x5_1 = some r) ∧ Aside0 (kq ≤ k) ∧ Drawn0 w w')
   case atStart => exact ⟨(0), z3, H', ⟨Nat.le_refl _⟩, z4⟩
   case round =>
    clear H'
    try clear c1
    try clear c2
    try clear p2
    try clear c3
    try clear c3b0
    try clear c3b1
    try clear c3b2
    obtain ⟨x5_1, rfl, HA, HK1, ⟨m1, rfl⟩⟩ := hrel
    cases gk with
    | zero => exact absurd HA.out (by simp [laws_eqIntSS.l0])
    | succ k1 =>
     have H := HA.out
     clear HA
     simp only [laws_eqIntSS.l0] at H
     by_cases c4 : x5_1 < (l0.length : Int)
     · rw [if_pos c4] at H
       have c4b0 : decide (x5_1 < (l0.length : Int)) = true := decide_eq_true c4
       clear c4
       by_cases c5 : 0 ≤ x5_1
       · rw [if_pos c5] at H
         have c5b0 : decide (0 ≤ x5_1) = true := decide_eq_true c5
         clear c5
         by_cases c6 : x5_1 < (l1.length : Int)
         · rw [if_pos c6] at H
           have c6b0 : decide (x5_1 < (l1.length : Int)) = true := decide_eq_true c6
           clear c6
           replace H := Option.bind_eq_some_iff.mp H
           obtain ⟨t1322, A70, H⟩ := H
           replace H : (if t1322 = true then (laws_eqIntSS.l0 k1 l0 l1 (wrap64 (x5_1 + 1))) else (some false)) = some r := H
           have A7 := Aside0.mk A70
           clear A70
           by_cases c8 : t1322 = true
           · subst c8
             have H1 : (laws_eqIntSS.l0 k1 l0 l1 (wrap64 (x5_1 + 1))) = some r := by rw [if_pos rfl] at H; exact H
             clear H
             have H := H1
             clear H1
             have H' := Aside0.mk H
             clear H
             have p1320 : 0 ≤ (x5_1 : Int) := of_decide_eq_true z1
             have q1320 : x5_1 < (l0.length : Int) := of_decide_eq_true z1
             obtain ⟨ad1320, A1320_0, c1320_0, e1320, hx1320_0, hl1320_0, hi1320_0⟩ := at_L2 HR0.out x5_1 p1320 q1320
             cases e1320
             have HR1320_0 := Aside0.mk hi1320_0
             have HC1320_0 := Aside0.mk hl1320_0
             clear hi1320_0 hl1320_0
             replace p1320 := eq_true p1320
             replace q1320 := eq_true q1320
             have p1321 : 0 ≤ (x5_1 : Int) := of_decide_eq_true z1
             have q1321 : x5_1 < (l1.length : Int) := of_decide_eq_true z1
             obtain ⟨ad1321, A1321_0, c1321_0, e1321, hx1321_0, hl1321_0, hi1321_0⟩ := at_L2 HR1.out x5_1 p1321 q1321
             cases e1321
             have HR1321_0 := Aside0.mk hi1321_0
             have HC1321_0 := Aside0.mk hl1321_0
             clear hi1321_0 hl1321_0
             replace p1321 := eq_true p1321
             replace q1321 := eq_true q1321
             go_wp2_with (first | (go_at_call 81; (with_reducible refine (laws_eqIntS.calls k1 _ _ (rd_L2 l0 x5_1) _ _ (rd_L2 l1 x5_1) true _ ?side1 ?side2 ?side3 ?side4 A7.out).mono ?_); (case side1 => repeat (first | exact HR1320_0.out | (with_reducible refine Kd.C_alloc ?_ _) | (with_reducible refine Kd.C_drewN ?_ _) | (with_reducible refine Kd.C_drew ?_))); (case side2 => exact HC1320_0.out); (case side3 => repeat (first | exact HR1321_0.out | (with_reducible refine Kd.C_alloc ?_ _) | (with_reducible refine Kd.C_drewN ?_ _) | (with_reducible refine Kd.C_drew ?_))); (case side4 => exact HC1321_0.out); rintro e w' ⟨rfl, ⟨nd, rfl⟩⟩; (try first | exact ⟨rfl, _, World.drewN_drewN _ _ _⟩ | exact ⟨rfl, _, Eq.trans (World.drewN_drewN _ _ _) (congrArg (World.drewN _) (Nat.add_assoc _ _ _))⟩)))
             repeat (go_quiet (first | (go_at_call 81; (with_reducible refine (laws_eqIntS.calls k1 _ _ (rd_L2 l0 x5_1) _ _ (rd_L2 l1 x5_1) true _ ?side1 ?side2 ?side3 ?side4 A7.out).mono ?_); (case side1 => repeat (first | exact HR1320_0.out | (with_reducible refine Kd.C_alloc ?_ _) | (with_reducible refine Kd.C_drewN ?_ _) | (with_reducible refine Kd.C_drew ?_))); (case side2 => exact HC1320_0.out); (case side3 => repeat (first | exact HR1321_0.out | (with_reducible refine Kd.C_alloc ?_ _) | (with_reducible refine Kd.C_drewN ?_ _) | (with_reducible refine Kd.C_drew ?_))); (case side4 => exact HC1321_0.out); rintro e w' ⟨rfl, ⟨nd, rfl⟩⟩; (try first | exact ⟨rfl, _, World.drewN_drewN _ _ _⟩ | exact ⟨rfl, _, Eq.trans (World.drewN_drewN _ _ _) (congrArg (World.drewN _) (Nat.add_assoc _ _ _))⟩))); try go_wp2_with (first | (go_at_call 81; (with_reducible refine (laws_eqIntS.calls k1 _ _ (rd_L2 l0 x5_1) _ _ (rd_L2 l1 x5_1) true _ ?side1 ?side2 ?side3 ?side4 A7.out).mono ?_); (case side1 => repeat (first | exact HR1320_0.out | (with_reducible refine Kd.C_alloc ?_ _) | (with_reducible refine Kd.C_drewN ?_ _) | (with_reducible refine Kd.C_drew ?_))); (case side2 => exact HC1320_0.out); (case side3 => repeat (first | exact HR1321_0.out | (with_reducible refine Kd.C_alloc ?_ _) | (with_reducible refine Kd.C_drewN ?_ _) | (with_reducible refine Kd.C_drew ?_))); (case side4 => exact HC1321_0.out); rintro e w' ⟨rfl, ⟨nd, rfl⟩⟩; (try first | exact ⟨rfl, _, World.drewN_drewN _ _ _⟩ | exact ⟨rfl, _, Eq.trans (World.drewN_drewN _ _ _) (congrArg (World.drewN _) (Nat.add_assoc _ _ _))⟩))))
             go_roundg k1
             case measure => have := HK1.out; omega
             case rel => exact ⟨(wrap64 (x5_1 + 1)), z3, H', ⟨z21⟩, z4⟩
           · replace c8 := Bool.eq_false_iff.mpr c8
             subst c8
             have H1 : (some false) = some r := by rw [if_neg (show ¬ (false = true) by decide)] at H; exact H
             clear H
             have H := H1
             clear H1
             obtain rfl := Option.some.inj H
             have p1320 : 0 ≤ (x5_1 : Int) := of_decide_eq_true z1
             have q1320 : x5_1 < (l0.length : Int) := of_decide_eq_true z1
             obtain ⟨ad1320, A1320_0, c1320_0, e1320, hx1320_0, hl1320_0, hi1320_0⟩ := at_L2 HR0.out x5_1 p1320 q1320
             cases e1320
             have HR1320_0 := Aside0.mk hi1320_0
             have HC1320_0 := Aside0.mk hl1320_0
             clear hi1320_0 hl1320_0
             replace p1320 := eq_true p1320
             replace q1320 := eq_true q1320
             have p1321 : 0 ≤ (x5_1 : Int) := of_decide_eq_true z1
             have q1321 : x5_1 < (l1.length : Int) := of_decide_eq_true z1
             obtain ⟨ad1321, A1321_0, c1321_0, e1321, hx1321_0, hl1321_0, hi1321_0⟩ := at_L2 HR1.out x5_1 p1321 q1321
             cases e1321
             have HR1321_0 := Aside0.mk hi1321_0
             have HC1321_0 := Aside0.mk hl1321_0
             clear hi1321_0 hl1321_0
             replace p1321 := eq_true p1321
             replace q1321 := eq_true q1321
             go_wp2_with (first | (go_at_call 81; (with_reducible refine (laws_eqIntS.calls k1 _ _ (rd_L2 l0 x5_1) _ _ (rd_L2 l1 x5_1) false _ ?side1 ?side2 ?side3 ?side4 A7.out).mono ?_); (case side1 => repeat (first | exact HR1320_0.out | (with_reducible refine Kd.C_alloc ?_ _) | (with_reducible refine Kd.C_drewN ?_ _) | (with_reducible refine Kd.C_drew ?_))); (case side2 => exact HC1320_0.out); (case side3 => repeat (first | exact HR1321_0.out | (with_reducible refine Kd.C_alloc ?_ _) | (with_reducible refine Kd.C_drewN ?_ _) | (with_reducible refine Kd.C_drew ?_))); (case side4 => exact HC1321_0.out); rintro e w' ⟨rfl, ⟨nd, rfl⟩⟩; (try first | exact ⟨rfl, _, World.drewN_drewN _ _ _⟩ | exact ⟨rfl, _, Eq.trans (World.drewN_drewN _ _ _) (congrArg (World.drewN _) (Nat.add_assoc _ _ _))⟩)))
             repeat (go_quiet (first | (go_at_call 81; (with_reducible refine (laws_eqIntS.calls k1 _ _ (rd_L2 l0 x5_1) _ _ (rd_L2 l1 x5_1) false _ ?side1 ?side2 ?side3 ?side4 A7.out).mono ?_); (case side1 => repeat (first | exact HR1320_0.out | (with_reducible refine Kd.C_alloc ?_ _) | (with_reducible refine Kd.C_drewN ?_ _) | (with_reducible refine Kd.C_drew ?_))); (case side2 => exact HC1320_0.out); (case side3 => repeat (first | exact HR1321_0.out | (with_reducible refine Kd.C_alloc ?_ _) | (with_reducible refine Kd.C_drewN ?_ _) | (with_reducible refine Kd.C_drew ?_))); (case side4 => exact HC1321_0.out); rintro e w' ⟨rfl, ⟨nd, rfl⟩⟩; (try first | exact ⟨rfl, _, World.drewN_drewN _ _ _⟩ | exact ⟨rfl, _, Eq.trans (World.drewN_drewN _ _ _) (congrArg (World.drewN _) (Nat.add_assoc _ _ _))⟩))); try go_wp2_with (first | (go_at_call 81; (with_reducible refine (laws_eqIntS.calls k1 _ _ (rd_L2 l0 x5_1) _ _ (rd_L2 l1 x5_1) false _ ?side1 ?side2 ?side3 ?side4 A7.out).mono ?_); (case side1 => repeat (first | exact HR1320_0.out | (with_reducible refine Kd.C_alloc ?_ _) | (with_reducible refine Kd.C_drewN ?_ _) | (with_reducible refine Kd.C_drew ?_))); (case side2 => exact HC1320_0.out); (case side3 => repeat (first | exact HR1321_0.out | (with_reducible refine Kd.C_alloc ?_ _) | (with_reducible refine Kd.C_drewN ?_ _) | (with_reducible refine Kd.C_drew ?_))); (case side4 => exact HC1321_0.out); rintro e w' ⟨rfl, ⟨nd, rfl⟩⟩; (try first | exact ⟨rfl, _, World.drewN_drewN _ _ _⟩ | exact ⟨rfl, _, Eq.trans (World.drewN_drewN _ _ _) (congrArg (World.drewN _) (Nat.add_assoc _ _ _))⟩))))
             go_ret
             exact ⟨z3, z4⟩
         · rw [if_neg c6] at H
           exact absurd H (by simp)
       · rw [if_neg c5] at H
         exact absurd H (by simp)
     · rw [if_neg c4] at H
       have c4b0 : decide (x5_1 < (l0.length : Int)) = false := decide_eq_false c4
       clear c4
       obtain rfl := Option.some.inj H
       go_wp2
       repeat (go_quiet (fail); try go_wp2)
       go_ret
       exact ⟨z3, z4⟩
 · rw [if_neg c3] at H
   have c3b0 : ((l0.length : Int) == (l1.length : Int)) = false := beq_eq_false_iff_ne.mpr c3
   have c3b1 : ((l0.length : Int) != (l1.length : Int)) = true := bne_iff_ne.mpr c3
   have c3b2 : (l0.length == l1.length) = false := by first | simpa using c3 | (simp at c3 ⊢; omega)
   obtain rfl := Option.some.inj H
   go_enter Try.func25, Try.ntmps25
   go_wp2
   repeat (go_quiet (fail); try go_wp2)
   go_ret
   exact ⟨z3, z4⟩
def laws_markIntS.l0 : Nat → List Int → Int → Int → Option (Int × List Int)
 | 0, _, _, _ => none
 | k + 1, x0, x1, x5 => if x5 < (x0.length : Int) then (if 0 ≤ x5 then (laws_markIntS.l0 k (x0.set (x5 : Int).toNat x1) (wrap64 (x1 + 1)) (wrap64 (x5 + 1))) else (none)) else (some (x1, x0))
def laws_markIntS.f (k : Nat) (l0 : List Int) (a1 : Int) : Option (Int × List Int) := laws_markIntS.l0 k l0 a1 0
set_option maxHeartbeats 8000000 in
set_option maxRecDepth 100000 in
theorem laws_markIntS.calls (k : Nat) (P0_ : Nat → Prop) (u9000_ : Value) (l0 : List Int) (a1 : Int) (r1 : Int) (r2 : List Int) (w0 w : World) (hB : Below w0.heap.size w0 w) (ho0 : Kd.R (Kd.int .i64) 3 w w0.heap.size P0_ u9000_ l0) (h : laws_markIntS.f k l0 a1 = some (r1, r2)) :
 Calls Try.prog 82 #[u9000_, .int .i64 a1] w fun e w' => e = .returned (.int .i64 r1) ∧ Kd.R (Kd.int .i64) 3 w' w0.heap.size (fun k_ => (P0_ k_ ∨ w.heap.size ≤ k_)) u9000_ r2 ∧ Below w0.heap.size w0 w' ∧ Kept w w' (fun k_ => P0_ k_) := by
 have HO0 := Aside0.mk (show Kd.R (Kd.int .i64) 3 w w0.heap.size (fun k_ => (P0_ k_ ∨ w.heap.size ≤ k_)) u9000_ l0 from Kd.R_mono ho0 (fun k_ hk => (.inl hk)))
 have HK := Aside0.mk (Kept.refl w (fun k_ => P0_ k_))
 have HW0 := Aside0.mk hB.size
 have HB := Aside0.mk hB
 clear hB
 have H : (laws_markIntS.l0 k l0 a1 0) = some (r1, r2) := h
 clear h
 have H' := Aside0.mk H
 clear H
 go_enter Try.func82, Try.ntmps82
 go_wp2
 go_loopg [1, 5] k (fun kq v1 v5 w' => ∃ (x0_1 : List Int) (x1_1 : Int) (x5_1 : Int), v1 = .int .i64 x1_1 ∧ v5 = .int .i64 x5_1 ∧ Aside0 (laws_markIntS.l0 kq x0_1 x1_1 x5_1 = some (r1, r2)) ∧ Aside0 (kq ≤ k) ∧ Aside0 (Kd.R (Kd.int .i64) 3 w' w0.heap.size (fun k_ => (P0_ k_ ∨ w.heap.size ≤ k_)) u9000_ x0_1) ∧ Aside0 (Kept w w' (fun k_ => P0_ k_)) ∧ Aside0 (Below w0.heap.size w0 w'))
 case atStart => exact ⟨(l0), (a1), (0), z3, z3, H', ⟨Nat.le_refl _⟩, ⟨(zR HO0.out)⟩, ⟨z12⟩, ⟨zH0⟩⟩
 case round =>
  clear H'
  try clear p2
  obtain ⟨x0_1, x1_1, x5_1, rfl, rfl, HA, HK1, HO_0, HK, HB⟩ := hrel
  cases gk with
  | zero => exact absurd HA.out (by simp [laws_markIntS.l0])
  | succ k1 =>
   have H := HA.out
   clear HA
   simp only [laws_markIntS.l0] at H
   by_cases c3 : x5_1 < (x0_1.length : Int)
   · rw [if_pos c3] at H
     have c3b0 : decide (x5_1 < (x0_1.length : Int)) = true := decide_eq_true c3
     clear c3
     by_cases c4 : 0 ≤ x5_1
     · rw [if_pos c4] at H
       have c4b0 : decide (0 ≤ x5_1) = true := decide_eq_true c4
       clear c4
       obtain ⟨y1323, hy1323⟩ : ∃ y_ : List Int, y_ = (x0_1.set (x5_1 : Int).toNat x1_1) := ⟨_, rfl⟩
       replace H : (laws_markIntS.l0 k1 y1323 (wrap64 (x1_1 + 1)) (wrap64 (x5_1 + 1))) = some (r1, r2) := zY hy1323
       have Ny1323 := Aside0.mk hy1323
       clear hy1323
       have H' := Aside0.mk H
       clear H
       obtain ⟨Ao6, co6, eo6⟩ := Kd.R_slice HO_0.out
       subst eo6
       have p5 : 0 ≤ (x5_1 : Int) := of_decide_eq_true z1
       have q5 : (x5_1 : Int) < ((x0_1.length : Int) : Int) := of_decide_eq_true z1
       obtain ⟨go5, co5, eo5, gb5, gl5, cl5, HG5⟩ := Kd.R_form HO_0.out (by omega)
       (first | cases eo5 | (injection eo5 with ea_ en_ ec_; (first | subst ea_ | (injection ea_ with ea_; subst ea_)); subst ec_; clear en_))
       have GB5 := Aside0.mk gb5
       have GG5 := Aside0.mk HG5
       clear gb5 gl5 HG5
       have HMgo5 := Aside0.mk (show (P0_ go5 ∨ w.heap.size ≤ go5) from (HO_0.out.1 _ rfl))
       obtain ⟨hx5_0, hf5_0⟩ := Kd.R_celln 0 HO_0.out (x5_1 : Int) p5 q5
       replace p5 := eq_true p5
       replace q5 := eq_true q5
       have HP7 := Kd.R_putg HO_0.out (x5_1 : Int) x1_1
       go_wp2_with (first | ((with_reducible refine gate_store (t := 3) (p := 15) rfl ?_); refine store_event (t := 3) (p := 15) (v := ?vo_w8) (w1 := (wr.setCell ⟨go5, (x5_1 : Int).toNat, none⟩ (.int .i64 x1_1))) ?hg ?ho ?hn ?hr ?_; (case ho => rfl); (case hg => rfl); (case hn => rfl); (case hr => first | (go_simp; done) | (go_simp; rfl)); intro w8 hw; have hg : wr.grownBy w8 (some go5) := (by rw [hw]; exact HP7.2); have hp_ : Kd.R (Kd.int .i64) 3 w8 w0.heap.size (fun k_ => (P0_ k_ ∨ w.heap.size ≤ k_)) (.slice (some ⟨go5, 0, none⟩) x0_1.length co6) y1323 := (by rw [hw, Ny1323.out]; exact HP7.1); clear HP7; replace HB := Aside0.mk ((by rw [hw]; exact below_set (HB.out) GB5.out : Below w0.heap.size w0 w8)); replace HK := Aside0.mk (Kept.of_grown (S := (fun k_ => P0_ k_)) hg z12 (fun k_ e_ => (HO_0.out.1 k_ e_))); replace HO_0 := Aside0.mk (hp_); clear hg hw hp_))
       go_roundg k1
       case measure => have := HK1.out; omega
       case rel => exact ⟨(y1323), (wrap64 (x1_1 + 1)), (wrap64 (x5_1 + 1)), z3, z3, H', ⟨z21⟩, ⟨(zR HO_0.out)⟩, ⟨z12⟩, ⟨zH0⟩⟩
     · rw [if_neg c4] at H
       exact absurd H (by simp)
   · rw [if_neg c3] at H
     have c3b0 : decide (x5_1 < (x0_1.length : Int)) = false := decide_eq_false c3
     clear c3
     simp only [Option.some.injEq, Prod.mk.injEq] at H
     obtain ⟨rfl, rfl⟩ := H
     obtain ⟨Ao9, co9, eo9⟩ := Kd.R_slice HO_0.out
     subst eo9
     go_wp2
     go_ret
     exact ⟨z5, (zR HO_0.out), zH0, z12⟩
def laws_markChain.f (k : Nat) (l0_0 : List Int) (l0_1 : List Int) (l0_2 : List Int) (a1 : Int) : Option (Int × List Int × List Int × List Int) := (laws_markIntS.f k l0_0 a1).bind fun bt1325 => ((laws_markIntS.f k l0_1 bt1325.1).bind fun bt1327 => ((laws_markIntS.f k l0_2 bt1327.1).bind fun bt1329 => (some (bt1329.1, bt1325.2, bt1327.2, bt1329.2))))
set_option maxHeartbeats 8000000 in
set_option maxRecDepth 100000 in
theorem laws_markChain.calls (k : Nat) (P0_0_ : Nat → Prop) (u9000_ : Value) (l0_0 : List Int) (P0_1_ : Nat → Prop) (u9001_ : Value) (l0_1 : List Int) (P0_2_ : Nat → Prop) (u9002_ : Value) (l0_2 : List Int) (a1 : Int) (r1 : Int) (r2 : List Int) (r3 : List Int) (r4 : List Int) (w0 w : World) (hB : Below w0.heap.size w0 w) (ho0_0 : Kd.R (Kd.int .i64) 3 w w0.heap.size P0_0_ u9000_ l0_0) (hp0_0_0_1 : ∀ k_, P0_0_ k_ → ¬ P0_1_ k_) (hp0_0_0_2 : ∀ k_, P0_0_ k_ → ¬ P0_2_ k_) (ho0_1 : Kd.R (Kd.int .i64) 3 w w0.heap.size P0_1_ u9001_ l0_1) (hp0_1_0_0 : ∀ k_, P0_1_ k_ → ¬ P0_0_ k_) (hp0_1_0_2 : ∀ k_, P0_1_ k_ → ¬ P0_2_ k_) (ho0_2 : Kd.R (Kd.int .i64) 3 w w0.heap.size P0_2_ u9002_ l0_2) (hp0_2_0_0 : ∀ k_, P0_2_ k_ → ¬ P0_0_ k_) (hp0_2_0_1 : ∀ k_, P0_2_ k_ → ¬ P0_1_ k_) (h : laws_markChain.f k l0_0 l0_1 l0_2 a1 = some (r1, r2, r3, r4)) :
 Calls Try.prog 26 #[.agg #[u9000_, u9001_, u9002_], .int .i64 a1] w fun e w' => e = .returned (.int .i64 r1) ∧ Kd.R (Kd.int .i64) 3 w' w0.heap.size (fun k_ => ((P0_0_ k_ ∨ P0_1_ k_ ∨ P0_2_ k_) ∨ w.heap.size ≤ k_)) u9000_ r2 ∧ Kd.R (Kd.int .i64) 3 w' w0.heap.size (fun k_ => ((P0_0_ k_ ∨ P0_1_ k_ ∨ P0_2_ k_) ∨ w.heap.size ≤ k_)) u9001_ r3 ∧ Kd.R (Kd.int .i64) 3 w' w0.heap.size (fun k_ => ((P0_0_ k_ ∨ P0_1_ k_ ∨ P0_2_ k_) ∨ w.heap.size ≤ k_)) u9002_ r4 ∧ Below w0.heap.size w0 w' ∧ Kept w w' (fun k_ => P0_0_ k_ ∨ P0_1_ k_ ∨ P0_2_ k_) := by
 have hu26 := Try.underlying26
 have HO0_0 := Aside0.mk (show Kd.R (Kd.int .i64) 3 w w0.heap.size (fun k_ => ((P0_0_ k_ ∨ P0_1_ k_ ∨ P0_2_ k_) ∨ w.heap.size ≤ k_) ∧ some k_ ≠ (u9001_ : Value).ownBlock ∧ some k_ ≠ (u9002_ : Value).ownBlock) u9000_ l0_0 from Kd.R_mono ho0_0 (fun k_ hk => ⟨(.inl (.inl hk)), fun e_ => hp0_0_0_1 k_ hk (ho0_1.1 k_ e_.symm), fun e_ => hp0_0_0_2 k_ hk (ho0_2.1 k_ e_.symm)⟩))
 have HO0_1 := Aside0.mk (show Kd.R (Kd.int .i64) 3 w w0.heap.size (fun k_ => ((P0_0_ k_ ∨ P0_1_ k_ ∨ P0_2_ k_) ∨ w.heap.size ≤ k_) ∧ some k_ ≠ (u9000_ : Value).ownBlock ∧ some k_ ≠ (u9002_ : Value).ownBlock) u9001_ l0_1 from Kd.R_mono ho0_1 (fun k_ hk => ⟨(.inl (.inr (.inl hk))), fun e_ => hp0_1_0_0 k_ hk (ho0_0.1 k_ e_.symm), fun e_ => hp0_1_0_2 k_ hk (ho0_2.1 k_ e_.symm)⟩))
 have HO0_2 := Aside0.mk (show Kd.R (Kd.int .i64) 3 w w0.heap.size (fun k_ => ((P0_0_ k_ ∨ P0_1_ k_ ∨ P0_2_ k_) ∨ w.heap.size ≤ k_) ∧ some k_ ≠ (u9000_ : Value).ownBlock ∧ some k_ ≠ (u9001_ : Value).ownBlock) u9002_ l0_2 from Kd.R_mono ho0_2 (fun k_ hk => ⟨(.inl (.inr (.inr hk))), fun e_ => hp0_2_0_0 k_ hk (ho0_0.1 k_ e_.symm), fun e_ => hp0_2_0_1 k_ hk (ho0_1.1 k_ e_.symm)⟩))
 have HK := Aside0.mk (Kept.refl w (fun k_ => P0_0_ k_ ∨ P0_1_ k_ ∨ P0_2_ k_))
 have HW0 := Aside0.mk hB.size
 have HB := Aside0.mk hB
 clear hB
 have H : ((laws_markIntS.f k l0_0 a1).bind fun bt1325 => ((laws_markIntS.f k l0_1 bt1325.1).bind fun bt1327 => ((laws_markIntS.f k l0_2 bt1327.1).bind fun bt1329 => (some (bt1329.1, bt1325.2, bt1327.2, bt1329.2))))) = some (r1, r2, r3, r4) := h
 clear h
 replace H := Option.bind_eq_some_iff.mp H
 obtain ⟨⟨t1325, t1326⟩, A30, H⟩ := H
 replace H : ((laws_markIntS.f k l0_1 t1325).bind fun bt1327 => ((laws_markIntS.f k l0_2 bt1327.1).bind fun bt1329 => (some (bt1329.1, t1326, bt1327.2, bt1329.2)))) = some (r1, r2, r3, r4) := H
 have A3 := Aside0.mk A30
 clear A30
 replace H := Option.bind_eq_some_iff.mp H
 obtain ⟨⟨t1327, t1328⟩, A40, H⟩ := H
 replace H : ((laws_markIntS.f k l0_2 t1327).bind fun bt1329 => (some (bt1329.1, t1326, t1328, bt1329.2))) = some (r1, r2, r3, r4) := H
 have A4 := Aside0.mk A40
 clear A40
 replace H := Option.bind_eq_some_iff.mp H
 obtain ⟨⟨t1329, t1330⟩, A50, H⟩ := H
 replace H : (some (t1329, t1326, t1328, t1330)) = some (r1, r2, r3, r4) := H
 have A5 := Aside0.mk A50
 clear A50
 simp only [Option.some.injEq, Prod.mk.injEq] at H
 obtain ⟨rfl, rfl, rfl, rfl⟩ := H
 obtain ⟨Ao6, co6, eo6⟩ := Kd.R_slice HO0_0.out
 subst eo6
 obtain ⟨Ao7, co7, eo7⟩ := Kd.R_slice HO0_1.out
 subst eo7
 obtain ⟨Ao8, co8, eo8⟩ := Kd.R_slice HO0_2.out
 subst eo8
 go_enter Try.func26, Try.ntmps26
 go_wp2_with (first | ((with_reducible refine gate_dst (N := 2) rfl ?_); refine box_event ?hg (N := 2) ?hd (cs := #[.slice Ao6 l0_0.length co6, .slice Ao7 l0_1.length co7, .slice Ao8 l0_2.length co8]) (t := 26) ?hr ?_; (case hd => rfl); (case hg => rfl); (case hr => first | (go_simp; done) | (go_simp; rfl)); intro gb1324 hg w9 hbox hb; have BK1324 := Aside0.mk (hbox); have GW1324 := Aside0.mk ((by rw [hg]; exact (by first | exact HK.out.1 | exact (show Kept w _ (fun k_ => P0_0_ k_ ∨ P0_1_ k_ ∨ P0_2_ k_) from by repeat (first | (with_reducible first | exact HK.out | apply Kept.alloc | apply Kept.drewN | apply Kept.drew) | exact HK.out)).1) : w.heap.size ≤ gb1324)); have GE1324 := Aside0.mk ((z6 : w0.heap.size ≤ gb1324)); replace HO0_0 := zRb HO0_0 hb; replace HO0_1 := zRb HO0_1 hb; replace HO0_2 := zRb HO0_2 hb; replace HK := Aside0.mk (Kept.below (S := (fun k_ => P0_0_ k_ ∨ P0_1_ k_ ∨ P0_2_ k_)) z12 hb); replace HB := zs0 hb; clear hb hbox hg; obtain ⟨hcz10_0, hcz10_1, hcz10_2, hfz10_0, hfz10_1, hfz10_2⟩ := zc3 BK1324.out) | ((with_reducible refine gate_callee (f := 82) rfl ?_); refine goesL_ (some 8) rfl rfl Try.func82 (by kernel_rfl) rfl #[.slice Ao6 l0_0.length co6, .int .i64 a1] rfl z2 ?_; (with_reducible refine (laws_markIntS.calls k (fun k_ => some k_ = (.slice Ao6 l0_0.length co6 : Value).ownBlock) (.slice Ao6 l0_0.length co6) l0_0 a1 t1325 t1326 w0 _ ?side1 ?side2 A3.out).mono ?_); (case side1 => repeat (first | (with_reducible first | exact HB.out | apply below_alloc | apply pw_below_drewN | apply below_drew1 | refine below_set ?_ GE1324.out) | exact HB.out)); (case side2 => exact Kd.R_tight rfl HO0_0.out); rintro e w11 ⟨rfl, hy0, hb, hkp⟩; refine ⟨_, rfl, ?_⟩; replace HO0_1 := Aside0.mk (Kd.R_mono (ok' := fun k_ => ((P0_0_ k_ ∨ P0_1_ k_ ∨ P0_2_ k_) ∨ w.heap.size ≤ k_) ∧ some k_ ≠ (.slice Ao6 l0_0.length co6 : Value).ownBlock ∧ some k_ ≠ (.slice Ao8 l0_2.length co8 : Value).ownBlock) (Kd.R_keptB (HO0_1.out) hkp (fun k_ hk_ hs_ => (hk_.2.1) hs_)) (fun k_ hk_ => ⟨hk_.1.1, hk_.1.2.1, hk_.1.2.2⟩)); replace HO0_2 := Aside0.mk (Kd.R_mono (ok' := fun k_ => ((P0_0_ k_ ∨ P0_1_ k_ ∨ P0_2_ k_) ∨ w.heap.size ≤ k_) ∧ some k_ ≠ (.slice Ao6 l0_0.length co6 : Value).ownBlock ∧ some k_ ≠ (.slice Ao7 l0_1.length co7 : Value).ownBlock) (Kd.R_keptB (HO0_2.out) hkp (fun k_ hk_ hs_ => (hk_.2.1) hs_)) (fun k_ hk_ => ⟨hk_.1.1, hk_.1.2.1, hk_.1.2.2⟩)); replace BK1324 := Aside0.mk (blk_kept (zB BK1324.out) hkp (fun hs_ => (fun e_ => (Kd.R_ne HO0_0.out BK1324.out (by decide)) e_) hs_)); replace HK := Aside0.mk (Kept.then_ (S := (fun k_ => P0_0_ k_ ∨ P0_1_ k_ ∨ P0_2_ k_)) z29 hkp (fun k_ hs_ => (fun e_ => (HO0_0.out.1 k_ e_.symm).1) hs_)); replace HO0_0 := Aside0.mk (Kd.R_reok rfl hy0 (fun k_ e_ => HO0_0.out.1 k_ e_)); replace HB := Aside0.mk (hb); (try clear hb); (try clear hkp); (try clear hy0); obtain ⟨hcz12_0, hcz12_1, hcz12_2, hfz12_0, hfz12_1, hfz12_2⟩ := zc3 BK1324.out) | ((with_reducible refine gate_callee (f := 82) rfl ?_); refine goesL_ (some 12) rfl rfl Try.func82 (by kernel_rfl) rfl #[.slice Ao7 l0_1.length co7, .int .i64 t1325] rfl z2 ?_; (with_reducible refine (laws_markIntS.calls k (fun k_ => some k_ = (.slice Ao7 l0_1.length co7 : Value).ownBlock) (.slice Ao7 l0_1.length co7) l0_1 t1325 t1327 t1328 w0 _ ?side1 ?side2 A4.out).mono ?_); (case side1 => repeat (first | (with_reducible first | exact HB.out | apply below_alloc | apply pw_below_drewN | apply below_drew1 | refine below_set ?_ GE1324.out) | exact HB.out)); (case side2 => exact Kd.R_tight rfl HO0_1.out); rintro e w13 ⟨rfl, hy0, hb, hkp⟩; refine ⟨_, rfl, ?_⟩; replace HO0_0 := Aside0.mk (Kd.R_mono (ok' := fun k_ => ((P0_0_ k_ ∨ P0_1_ k_ ∨ P0_2_ k_) ∨ w.heap.size ≤ k_) ∧ some k_ ≠ (.slice Ao7 l0_1.length co7 : Value).ownBlock ∧ some k_ ≠ (.slice Ao8 l0_2.length co8 : Value).ownBlock) (Kd.R_keptB (HO0_0.out) hkp (fun k_ hk_ hs_ => (hk_.2.1) hs_)) (fun k_ hk_ => ⟨hk_.1.1, hk_.1.2.1, hk_.1.2.2⟩)); replace HO0_2 := Aside0.mk (Kd.R_mono (ok' := fun k_ => ((P0_0_ k_ ∨ P0_1_ k_ ∨ P0_2_ k_) ∨ w.heap.size ≤ k_) ∧ some k_ ≠ (.slice Ao6 l0_0.length co6 : Value).ownBlock ∧ some k_ ≠ (.slice Ao7 l0_1.length co7 : Value).ownBlock) (Kd.R_keptB (HO0_2.out) hkp (fun k_ hk_ hs_ => (hk_.2.2) hs_)) (fun k_ hk_ => ⟨hk_.1.1, hk_.1.2.1, hk_.1.2.2⟩)); replace BK1324 := Aside0.mk (blk_kept (zB BK1324.out) hkp (fun hs_ => (fun e_ => (Kd.R_ne HO0_1.out BK1324.out (by decide)) e_) hs_)); replace HK := Aside0.mk (Kept.then_ (S := (fun k_ => P0_0_ k_ ∨ P0_1_ k_ ∨ P0_2_ k_)) z29 hkp (fun k_ hs_ => (fun e_ => (HO0_1.out.1 k_ e_.symm).1) hs_)); replace HO0_1 := Aside0.mk (Kd.R_reok rfl hy0 (fun k_ e_ => HO0_1.out.1 k_ e_)); replace HB := Aside0.mk (hb); (try clear hb); (try clear hkp); (try clear hy0); obtain ⟨hcz14_0, hcz14_1, hcz14_2, hfz14_0, hfz14_1, hfz14_2⟩ := zc3 BK1324.out) | ((with_reducible refine gate_callee (f := 82) rfl ?_); refine goesL_ (some 16) rfl rfl Try.func82 (by kernel_rfl) rfl #[.slice Ao8 l0_2.length co8, .int .i64 t1327] rfl z2 ?_; (with_reducible refine (laws_markIntS.calls k (fun k_ => some k_ = (.slice Ao8 l0_2.length co8 : Value).ownBlock) (.slice Ao8 l0_2.length co8) l0_2 t1327 t1329 t1330 w0 _ ?side1 ?side2 A5.out).mono ?_); (case side1 => repeat (first | (with_reducible first | exact HB.out | apply below_alloc | apply pw_below_drewN | apply below_drew1 | refine below_set ?_ GE1324.out) | exact HB.out)); (case side2 => exact Kd.R_tight rfl HO0_2.out); rintro e w15 ⟨rfl, hy0, hb, hkp⟩; refine ⟨_, rfl, ?_⟩; replace HO0_0 := Aside0.mk (Kd.R_mono (ok' := fun k_ => ((P0_0_ k_ ∨ P0_1_ k_ ∨ P0_2_ k_) ∨ w.heap.size ≤ k_) ∧ some k_ ≠ (.slice Ao7 l0_1.length co7 : Value).ownBlock ∧ some k_ ≠ (.slice Ao8 l0_2.length co8 : Value).ownBlock) (Kd.R_keptB (HO0_0.out) hkp (fun k_ hk_ hs_ => (hk_.2.2) hs_)) (fun k_ hk_ => ⟨hk_.1.1, hk_.1.2.1, hk_.1.2.2⟩)); replace HO0_1 := Aside0.mk (Kd.R_mono (ok' := fun k_ => ((P0_0_ k_ ∨ P0_1_ k_ ∨ P0_2_ k_) ∨ w.heap.size ≤ k_) ∧ some k_ ≠ (.slice Ao6 l0_0.length co6 : Value).ownBlock ∧ some k_ ≠ (.slice Ao8 l0_2.length co8 : Value).ownBlock) (Kd.R_keptB (HO0_1.out) hkp (fun k_ hk_ hs_ => (hk_.2.2) hs_)) (fun k_ hk_ => ⟨hk_.1.1, hk_.1.2.1, hk_.1.2.2⟩)); replace BK1324 := Aside0.mk (blk_kept (zB BK1324.out) hkp (fun hs_ => (fun e_ => (Kd.R_ne HO0_2.out BK1324.out (by decide)) e_) hs_)); replace HK := Aside0.mk (Kept.then_ (S := (fun k_ => P0_0_ k_ ∨ P0_1_ k_ ∨ P0_2_ k_)) z29 hkp (fun k_ hs_ => (fun e_ => (HO0_2.out.1 k_ e_.symm).1) hs_)); replace HO0_2 := Aside0.mk (Kd.R_reok rfl hy0 (fun k_ e_ => HO0_2.out.1 k_ e_)); replace HB := Aside0.mk (hb); (try clear hb); (try clear hkp); (try clear hy0)))
 go_ret
 exact ⟨z5, (by (with_reducible repeat (first | apply Kd.R_alloc | apply Kd.R_drewN | apply Kd.R_drew)); exact Kd.R_mono HO0_0.out (fun _ hk => hk.1)), (by (with_reducible repeat (first | apply Kd.R_alloc | apply Kd.R_drewN | apply Kd.R_drew)); exact Kd.R_mono HO0_1.out (fun _ hk => hk.1)), (by (with_reducible repeat (first | apply Kd.R_alloc | apply Kd.R_drewN | apply Kd.R_drew)); exact Kd.R_mono HO0_2.out (fun _ hk => hk.1)), (zH1 GE1324.out), z29⟩
def laws_markIntSS.l0 : Nat → List (List Int) → Int → Int → Option (Int × List (List Int))
 | 0, _, _, _ => none
 | k + 1, x0, x1, x5 => if x5 < (x0.length : Int) then (if 0 ≤ x5 then ((laws_markIntS.f k (rd_L2 x0 x5) x1).bind fun bt => (laws_markIntSS.l0 k (x0.set (x5 : Int).toNat bt.2) bt.1 (wrap64 (x5 + 1)))) else (none)) else (some (x1, x0))
def laws_markIntSS.f (k : Nat) (l0 : List (List Int)) (a1 : Int) : Option (Int × List (List Int)) := laws_markIntSS.l0 k l0 a1 0
set_option maxHeartbeats 8000000 in
set_option maxRecDepth 100000 in
theorem laws_markIntSS.calls (k : Nat) (P0_ : Nat → Prop) (u9000_ : Value) (l0 : List (List Int)) (a1 : Int) (r1 : Int) (r2 : List (List Int)) (w0 w : World) (hB : Below w0.heap.size w0 w) (ho0 : Kd.S (Kd.slice 3 (Kd.int .i64)) 24 w w0.heap.size P0_ u9000_ l0) (h : laws_markIntSS.f k l0 a1 = some (r1, r2)) :
 Calls Try.prog 27 #[u9000_, .int .i64 a1] w fun e w' => e = .returned (.int .i64 r1) ∧ Kd.S (Kd.slice 3 (Kd.int .i64)) 24 w' w0.heap.size (fun k_ => (P0_ k_ ∨ w.heap.size ≤ k_)) u9000_ r2 ∧ Below w0.heap.size w0 w' ∧ Kept w w' (fun k_ => P0_ k_) := by
 have HO0 := Aside0.mk (show Kd.S (Kd.slice 3 (Kd.int .i64)) 24 w w0.heap.size (fun k_ => (P0_ k_ ∨ w.heap.size ≤ k_)) u9000_ l0 from Kd.S_mono ho0 (fun k_ hk => (.inl hk)))
 have HK := Aside0.mk (Kept.refl w (fun k_ => P0_ k_))
 have HB := Aside0.mk hB
 clear hB
 have H : (laws_markIntSS.l0 k l0 a1 0) = some (r1, r2) := h
 clear h
 have H' := Aside0.mk H
 clear H
 go_enter Try.func27, Try.ntmps27
 go_wp2
 go_loopg [1, 5] k (fun kq v1 v5 w' => ∃ (x0_1 : List (List Int)) (x1_1 : Int) (x5_1 : Int), v1 = .int .i64 x1_1 ∧ v5 = .int .i64 x5_1 ∧ Aside0 (laws_markIntSS.l0 kq x0_1 x1_1 x5_1 = some (r1, r2)) ∧ Aside0 (kq ≤ k) ∧ Aside0 (Kd.S (Kd.slice 3 (Kd.int .i64)) 24 w' w0.heap.size (fun k_ => (P0_ k_ ∨ w.heap.size ≤ k_)) u9000_ x0_1) ∧ Aside0 (Kept w w' (fun k_ => P0_ k_)) ∧ Aside0 (Below w0.heap.size w0 w'))
 case atStart => exact ⟨(l0), (a1), (0), rfl, rfl, H', ⟨Nat.le_refl _⟩, ⟨(zS HO0.out)⟩, ⟨z12⟩, ⟨zH0⟩⟩
 case round =>
  clear H'
  try clear p2
  obtain ⟨x0_1, x1_1, x5_1, rfl, rfl, HA, HK1, HO_0, HK, HB⟩ := hrel
  cases gk with
  | zero => exact absurd HA.out (by simp [laws_markIntSS.l0])
  | succ k1 =>
   have H := HA.out
   clear HA
   simp only [laws_markIntSS.l0] at H
   obtain ⟨Ao6, co6, eo6⟩ := Kd.S_slice HO_0.out
   subst eo6
   by_cases c3 : x5_1 < (x0_1.length : Int)
   · rw [if_pos c3] at H
     have c3b0 : decide (x5_1 < (x0_1.length : Int)) = true := decide_eq_true c3
     by_cases c4 : 0 ≤ x5_1
     · rw [if_pos c4] at H
       replace H := Option.bind_eq_some_iff.mp H
       obtain ⟨⟨t1, t2⟩, A50, H⟩ := H
       replace H : (laws_markIntSS.l0 k1 (x0_1.set (x5_1 : Int).toNat t2) t1 (wrap64 (x5_1 + 1))) = some (r1, r2) := H
       have A5 := Aside0.mk A50
       clear A50
       have H' := Aside0.mk H
       clear H
       obtain ⟨go5, co5, eo5, gb5, gl5, cl5, HG5⟩ := Kd.S_form HO_0.out (by omega)
       (first | cases eo5 | (injection eo5 with ea_ en_ ec_; (first | subst ea_ | (injection ea_ with ea_; subst ea_)); subst ec_; clear en_))
       clear gb5 gl5 HG5
       obtain ⟨oki, ce, hcl, hM, hcc, hfr, hoki, hH⟩ := Kd.S_elem HO_0.out [] x5_1 c4 c3
       obtain ⟨ve, rfl, hE⟩ := hM
       obtain ⟨Ae, cae, rfl⟩ := Kd.R_slice hE
       have hx5 : wr.cell? ⟨go5, (x5_1 : Int).toNat, none⟩ = some (.slice Ae (rd_L2 x0_1 x5_1).length cae) := by have := hcc 0 _ rfl; simpa [Kd.slice, rd_L2] using this
       have hf5 : wr.frozen? ⟨go5, (x5_1 : Int).toNat, none⟩ = false := by have := hfr 0; simpa [Kd.slice] using this
       have HE := Aside0.mk hE
       have HH := Aside0.mk hH
       have HI := Aside0.mk hoki
       clear hE hH hoki hcc hfr hcl
       replace c4 := eq_true c4
       replace c3 := eq_true c3
       go_wp2_with (first | ((with_reducible refine gate_callee (f := 82) rfl ?_); refine goesL_ (some 17) rfl rfl Try.func82 (by kernel_rfl) rfl #[.slice Ae (rd_L2 x0_1 x5_1).length cae, .int .i64 x1_1] rfl (by (try simp only [List.map_toArray, List.map_cons, List.map_nil]); first | done | rfl) ?_; (with_reducible refine (laws_markIntS.calls k1 (fun k_ => oki k_) (.slice Ae (rd_L2 x0_1 x5_1).length cae) (rd_L2 x0_1 x5_1) x1_1 t1 t2 w0 _ ?side1 ?side2 A5.out).mono ?_); (case side1 => repeat (first | (with_reducible first | exact HB.out | apply below_alloc | apply pw_below_drewN | apply below_drew1) | exact HB.out)); (case side2 => (with_reducible repeat (first | apply Kd.R_alloc | apply Kd.R_drewN | apply Kd.R_drew)); exact HE.out); rintro e w11 ⟨rfl, hy0, hb, hkp⟩; refine ⟨_, rfl, ?_⟩; have h2_ := Kd.H_kept HH.out hkp (fun k_ _ hn => hn); have h3_ := Kd.R_reok (ok := oki) rfl hy0 (fun k_ e_ => HE.out.1 k_ e_); have n0_ := Aside0.mk (Kd.H_back h2_ (x' := t2) (okp := oki) ⟨_, rfl, h3_⟩ (fun _ hk => hk)); clear h2_ h3_; have n1_ := Aside0.mk (Kept.then_ (S := (fun k_ => P0_ k_)) z12 hkp (fun k_ hs_ => (HI.out k_ hs_).1)); have n2_ := Aside0.mk hb; clear HO_0; clear HK; clear HB; clear HH; clear HE; have HO_0 := n0_; have HK := n1_; have HB := n2_; clear n0_ n1_ n2_; (try clear hb); (try clear hkp); (try clear hy0); (try clear hx5); (try clear hf5)))
       go_roundg k1
       case measure => have := HK1.out; omega
       case rel => exact ⟨_, t1, (wrap64 (x5_1 + 1)), rfl, z3, H', ⟨z21⟩, ⟨(zS HO_0.out)⟩, ⟨z12⟩, ⟨zH0⟩⟩
     · rw [if_neg c4] at H
       exact absurd H (by simp)
   · rw [if_neg c3] at H
     have c3b0 : decide (x5_1 < (x0_1.length : Int)) = false := decide_eq_false c3
     clear c3
     simp only [Option.some.injEq, Prod.mk.injEq] at H
     obtain ⟨rfl, rfl⟩ := H
     go_wp2
     go_ret
     exact ⟨z3, (zS HO_0.out), zH0, z12⟩
def laws_heldIntS.l0 : Nat → List Int → Int → Int → Option (Int)
 | 0, _, _, _ => none
 | k + 1, x0, x1, x5 => if x5 < (x0.length : Int) then (if 0 ≤ x5 then (if (rd x0 x5) = x1 then (laws_heldIntS.l0 k x0 (wrap64 (x1 + 1)) (wrap64 (x5 + 1))) else (some (-1))) else (none)) else (some x1)
def laws_heldIntS.f (k : Nat) (l0 : List Int) (a1 : Int) : Option (Int) := laws_heldIntS.l0 k l0 a1 0
set_option maxHeartbeats 8000000 in
set_option maxRecDepth 100000 in
theorem laws_heldIntS.calls (k : Nat) (A0 : Option Addr) (c0 : Nat) (l0 : List Int) (a1 : Int) (r : Int) (w : World) (hr0 : Kd.C (Kd.int .i64) w A0 l0.length l0) (hc0 : l0.length ≤ c0) (h : laws_heldIntS.f k l0 a1 = some r) :
 Calls Try.prog 83 #[.slice A0 l0.length c0, .int .i64 a1] w fun e w' => e = .returned (.int .i64 r) ∧ Drawn0 w w' := by
 have HR0 := Aside0.mk hr0
 have HC0 := Aside0.mk hc0
 clear hr0 hc0
 have H : (laws_heldIntS.l0 k l0 a1 0) = some r := h
 clear h
 have H' := Aside0.mk H
 clear H
 go_enter Try.func83, Try.ntmps83
 go_wp2
 go_loopg [1, 5] k (fun kq v1 v5 w' => ∃ (x1_1 : Int) (x5_1 : Int), v1 = .int .i64 x1_1 ∧ v5 = .int .i64 x5_1 ∧ Aside0 (laws_heldIntS.l0 kq l0 x1_1 x5_1 = some r) ∧ Aside0 (kq ≤ k) ∧ Drawn0 w w')
 case atStart => exact ⟨(a1), (0), z3, z3, H', ⟨Nat.le_refl _⟩, z4⟩
 case round =>
  clear H'
  try clear p2
  obtain ⟨x1_1, x5_1, rfl, rfl, HA, HK1, ⟨m1, rfl⟩⟩ := hrel
  cases gk with
  | zero => exact absurd HA.out (by simp [laws_heldIntS.l0])
  | succ k1 =>
   have H := HA.out
   clear HA
   simp only [laws_heldIntS.l0] at H
   by_cases c3 : x5_1 < (l0.length : Int)
   · rw [if_pos c3] at H
     have c3b0 : decide (x5_1 < (l0.length : Int)) = true := decide_eq_true c3
     clear c3
     by_cases c4 : 0 ≤ x5_1
     · rw [if_pos c4] at H
       have c4b0 : decide (0 ≤ x5_1) = true := decide_eq_true c4
       clear c4
       by_cases c5 : (rd l0 x5_1) = x1_1
       · rw [if_pos c5] at H
         have c5b0 : ((rd l0 x5_1) == x1_1) = true := beq_iff_eq.mpr c5
         have c5b1 : ((rd l0 x5_1) != x1_1) = false := bne_eq_false_iff_eq.mpr c5
         clear c5
         have H' := Aside0.mk H
         clear H
         have p1731 : 0 ≤ (x5_1 : Int) := of_decide_eq_true z1
         have q1731 : x5_1 < (l0.length : Int) := of_decide_eq_true z1
         obtain ⟨ad1731, e1731, hx1731_0⟩ := Kd.at_int HR0.out x5_1 p1731 q1731
         cases e1731
         replace p1731 := eq_true p1731
         replace q1731 := eq_true q1731
         go_wp2
         go_roundg k1
         case measure => have := HK1.out; omega
         case rel => exact ⟨(wrap64 (x1_1 + 1)), (wrap64 (x5_1 + 1)), z3, z3, H', ⟨z21⟩, z4⟩
       · rw [if_neg c5] at H
         have c5b0 : ((rd l0 x5_1) == x1_1) = false := beq_eq_false_iff_ne.mpr c5
         have c5b1 : ((rd l0 x5_1) != x1_1) = true := bne_iff_ne.mpr c5
         obtain rfl := Option.some.inj H
         have p1731 : 0 ≤ (x5_1 : Int) := of_decide_eq_true z1
         have q1731 : x5_1 < (l0.length : Int) := of_decide_eq_true z1
         obtain ⟨ad1731, e1731, hx1731_0⟩ := Kd.at_int HR0.out x5_1 p1731 q1731
         cases e1731
         replace p1731 := eq_true p1731
         replace q1731 := eq_true q1731
         go_wp2
         go_ret
         exact ⟨z3, z4⟩
     · rw [if_neg c4] at H
       exact absurd H (by simp)
   · rw [if_neg c3] at H
     have c3b0 : decide (x5_1 < (l0.length : Int)) = false := decide_eq_false c3
     clear c3
     obtain rfl := Option.some.inj H
     go_wp2
     go_ret
     exact ⟨z3, z4⟩
def laws_heldIntSS.l0 : Nat → List (List Int) → Int → Int → Option (Int)
 | 0, _, _, _ => none
 | k + 1, x0, x1, x5 => if x5 < (x0.length : Int) then (if 0 ≤ x5 then ((laws_heldIntS.f k (rd_L2 x0 x5) x1).bind fun t1733 => (if t1733 < 0 then (some (-1)) else (laws_heldIntSS.l0 k x0 t1733 (wrap64 (x5 + 1))))) else (none)) else (some x1)
def laws_heldIntSS.f (k : Nat) (l0 : List (List Int)) (a1 : Int) : Option (Int) := laws_heldIntSS.l0 k l0 a1 0
set_option maxHeartbeats 8000000 in
set_option maxRecDepth 100000 in
theorem laws_heldIntSS.calls (k : Nat) (A0 : Option Addr) (c0 : Nat) (l0 : List (List Int)) (a1 : Int) (r : Int) (w : World) (hr0 : Kd.C (Kd.slice 3 (Kd.int .i64)) w A0 l0.length l0) (hc0 : l0.length ≤ c0) (h : laws_heldIntSS.f k l0 a1 = some r) :
 Calls Try.prog 28 #[.slice A0 l0.length c0, .int .i64 a1] w fun e w' => e = .returned (.int .i64 r) ∧ Drawn0 w w' := by
 have HR0 := Aside0.mk hr0
 have HC0 := Aside0.mk hc0
 clear hr0 hc0
 have H : (laws_heldIntSS.l0 k l0 a1 0) = some r := h
 clear h
 have H' := Aside0.mk H
 clear H
 go_enter Try.func28, Try.ntmps28
 go_wp2
 go_loopg [1, 5] k (fun kq v1 v5 w' => ∃ (x1_1 : Int) (x5_1 : Int), v1 = .int .i64 x1_1 ∧ v5 = .int .i64 x5_1 ∧ Aside0 (laws_heldIntSS.l0 kq l0 x1_1 x5_1 = some r) ∧ Aside0 (kq ≤ k) ∧ Drawn0 w w')
 case atStart => exact ⟨(a1), (0), z3, z3, H', ⟨Nat.le_refl _⟩, z4⟩
 case round =>
  clear H'
  try clear c2
  try clear p2
  obtain ⟨x1_1, x5_1, rfl, rfl, HA, HK1, ⟨m1, rfl⟩⟩ := hrel
  cases gk with
  | zero => exact absurd HA.out (by simp [laws_heldIntSS.l0])
  | succ k1 =>
   have H := HA.out
   clear HA
   simp only [laws_heldIntSS.l0] at H
   by_cases c3 : x5_1 < (l0.length : Int)
   · rw [if_pos c3] at H
     have c3b0 : decide (x5_1 < (l0.length : Int)) = true := decide_eq_true c3
     clear c3
     by_cases c4 : 0 ≤ x5_1
     · rw [if_pos c4] at H
       have c4b0 : decide (0 ≤ x5_1) = true := decide_eq_true c4
       clear c4
       replace H := Option.bind_eq_some_iff.mp H
       obtain ⟨t1733, A50, H⟩ := H
       replace H : (if t1733 < 0 then (some (-1)) else (laws_heldIntSS.l0 k1 l0 t1733 (wrap64 (x5_1 + 1)))) = some r := H
       have A5 := Aside0.mk A50
       clear A50
       by_cases c6 : t1733 < 0
       · rw [if_pos c6] at H
         have c6b0 : decide (t1733 < 0) = true := decide_eq_true c6
         clear c6
         obtain rfl := Option.some.inj H
         have p1732 : 0 ≤ (x5_1 : Int) := of_decide_eq_true z1
         have q1732 : x5_1 < (l0.length : Int) := of_decide_eq_true z1
         obtain ⟨ad1732, A1732_0, c1732_0, e1732, hx1732_0, hl1732_0, hi1732_0⟩ := at_L2 HR0.out x5_1 p1732 q1732
         cases e1732
         have HR1732_0 := Aside0.mk hi1732_0
         have HC1732_0 := Aside0.mk hl1732_0
         clear hi1732_0 hl1732_0
         replace p1732 := eq_true p1732
         replace q1732 := eq_true q1732
         go_wp2_with (first | ((with_reducible refine gate_callee (f := 83) rfl ?_); refine goesL_ (some 17) rfl rfl Try.func83 (by kernel_rfl) rfl #[.slice A1732_0 (rd_L2 l0 x5_1).length c1732_0, .int .i64 x1_1] rfl z2 ?_; (with_reducible refine (laws_heldIntS.calls k1 _ _ (rd_L2 l0 x5_1) x1_1 t1733 _ ?side1 ?side2 A5.out).mono ?_); (case side1 => repeat (first | exact HR1732_0.out | (with_reducible refine Kd.C_alloc ?_ _) | (with_reducible refine Kd.C_drewN ?_ _) | (with_reducible refine Kd.C_drew ?_))); (case side2 => exact HC1732_0.out); rintro e w' ⟨rfl, ⟨nd, rfl⟩⟩; refine ⟨_, rfl, ?_⟩))
         go_ret
         exact ⟨z3, z4⟩
       · rw [if_neg c6] at H
         have c6b0 : decide (t1733 < 0) = false := decide_eq_false c6
         clear c6
         have H' := Aside0.mk H
         clear H
         have p1732 : 0 ≤ (x5_1 : Int) := of_decide_eq_true z1
         have q1732 : x5_1 < (l0.length : Int) := of_decide_eq_true z1
         obtain ⟨ad1732, A1732_0, c1732_0, e1732, hx1732_0, hl1732_0, hi1732_0⟩ := at_L2 HR0.out x5_1 p1732 q1732
         cases e1732
         have HR1732_0 := Aside0.mk hi1732_0
         have HC1732_0 := Aside0.mk hl1732_0
         clear hi1732_0 hl1732_0
         replace p1732 := eq_true p1732
         replace q1732 := eq_true q1732
         go_wp2_with (first | ((with_reducible refine gate_callee (f := 83) rfl ?_); refine goesL_ (some 17) rfl rfl Try.func83 (by kernel_rfl) rfl #[.slice A1732_0 (rd_L2 l0 x5_1).length c1732_0, .int .i64 x1_1] rfl z2 ?_; (with_reducible refine (laws_heldIntS.calls k1 _ _ (rd_L2 l0 x5_1) x1_1 t1733 _ ?side1 ?side2 A5.out).mono ?_); (case side1 => repeat (first | exact HR1732_0.out | (with_reducible refine Kd.C_alloc ?_ _) | (with_reducible refine Kd.C_drewN ?_ _) | (with_reducible refine Kd.C_drew ?_))); (case side2 => exact HC1732_0.out); rintro e w' ⟨rfl, ⟨nd, rfl⟩⟩; refine ⟨_, rfl, ?_⟩))
         go_roundg k1
         case measure => have := HK1.out; omega
         case rel => exact ⟨(t1733), (wrap64 (x5_1 + 1)), z3, z3, H', ⟨z21⟩, z4⟩
     · rw [if_neg c4] at H
       exact absurd H (by simp)
   · rw [if_neg c3] at H
     have c3b0 : decide (x5_1 < (l0.length : Int)) = false := decide_eq_false c3
     clear c3
     obtain rfl := Option.some.inj H
     go_wp2
     go_ret
     exact ⟨z3, z4⟩
end Go.Proofs.Ythlmmcmpllgflaa.P
namespace Go.Proofs.Ythlmmcmpllgflaa.P
open Go.RowKit Go.Proofs.YthlmmcmpllgflaaW.PrintWords Go.Proofs.YthlmmcmpllgflaaW.PrintLast Go.Proofs.YthlmmcmpllgflaaW.PrintMore
def seqL (a : Int) (n : Nat) : List Int := (List.range n).map fun i : Nat => a + (i : Int)
theorem seqL_len (a : Int) (n : Nat) : (seqL a n).length = n := by simp [seqL]
theorem seqL_get (a : Int) {n i : Nat} (h : i < n) : (seqL a n).getD i 0 = a + (i : Int) := by
  unfold seqL; rw [List.getD_eq_getElem?_getD, List.getElem?_map, List.getElem?_range h]; rfl
theorem markIntS_l0 (l : List Int) (a : Int) (ha : 0 ≤ a ∧ a ≤ 1000000000000) (hl : l.length ≤ 1000000000) : ∀ d i, i + d = l.length →
    Ev (fun k => laws_markIntS.l0 k (seqL a i ++ l.drop i) (a + (i : Int)) (i : Int)) (a + (l.length : Int), seqL a l.length)
  | 0, i, h => by
    refine Ev.step (fun k => laws_markIntS.l0.eq_2 ..) ?_
    have hi : i = l.length := by omega
    subst hi
    refine Ev.neg (by simp [seqL_len]) ((Ev.now _).to (by simp))
  | d + 1, i, h => by
    refine Ev.step (fun k => laws_markIntS.l0.eq_2 ..) ?_
    refine Ev.pos (by simp [seqL_len]; omega) (Ev.pos (by omega) ?_)
    have ih := markIntS_l0 l a ha hl d (i + 1) (by omega)
    rw [Int.toNat_natCast, wrS (by omega), wr (by omega) (by omega)]
    have e : (seqL a i ++ l.drop i).set i (a + (i : Int)) = seqL a (i + 1) ++ l.drop (i + 1) := by
      rw [List.set_append_right _ _ (by rw [seqL_len]; exact Nat.le_refl _), seqL_len, Nat.sub_self, drop_cons l 0 (by omega), List.set_cons_zero]
      unfold seqL; rw [List.range_succ, List.map_append, List.append_assoc]; rfl
    rw [e, show a + (i : Int) + 1 = a + ((i + 1 : Nat) : Int) by omega]; exact ih
theorem markIntS_ev (l : List Int) (a : Int) (ha : 0 ≤ a ∧ a ≤ 1000000000000) (hl : l.length ≤ 1000000000) : Ev (fun k => laws_markIntS.f k l a) (a + (l.length : Int), seqL a l.length) := by
  unfold laws_markIntS.f
  exact (markIntS_l0 l a ha hl l.length 0 (by omega)).to rfl |> (fun h => by simpa [seqL] using h)
theorem markChain_ev (a b c : List Int) (ha : a.length ≤ 1048576) (hb : b.length ≤ 1048576) (hc : c.length ≤ 1048576) :
    ∃ x, Ev (fun k => laws_markChain.f k a b c 1) x ∧ 0 ≤ x.1 := by
  unfold laws_markChain.f
  refine ⟨_, Ev.bind (markIntS_ev a 1 (by omega) (by omega)) (Ev.bind (markIntS_ev b _ (by dsimp only; omega) (by omega)) (Ev.bind (markIntS_ev c _ (by dsimp only; omega) (by omega)) (Ev.now _))), ?_⟩
  dsimp only; omega
theorem heldIntS_l0 (a : Int) (n : Nat) (ha : 0 ≤ a ∧ a ≤ 1000000000000) (hl : n ≤ 1000000000) : ∀ d i, i + d = n →
    Ev (fun k => laws_heldIntS.l0 k (seqL a n) (a + (i : Int)) (i : Int)) (a + (n : Int))
  | 0, i, h => by
    refine Ev.step (fun k => laws_heldIntS.l0.eq_2 ..) ?_
    exact Ev.neg (by rw [seqL_len]; omega) ((Ev.now _).to (by rw [show i = n by omega]))
  | d + 1, i, h => by
    refine Ev.step (fun k => laws_heldIntS.l0.eq_2 ..) ?_
    have ih := heldIntS_l0 a n ha hl d (i + 1) (by omega)
    refine Ev.pos (by rw [seqL_len]; omega) (Ev.pos (by omega) ?_)
    rw [rd_nat, seqL_get a (by omega), wrS (by omega), wr (by omega) (by omega)]
    rw [show a + ((i + 1 : Nat) : Int) = a + (i : Int) + 1 by omega] at ih
    exact Ev.pos rfl ih
theorem heldIntS_ev (a : Int) (n : Nat) (ha : 0 ≤ a ∧ a ≤ 1000000000000) (hl : n ≤ 1000000000) : Ev (fun k => laws_heldIntS.f k (seqL a n) a) (a + (n : Int)) := by
  unfold laws_heldIntS.f
  have := heldIntS_l0 a n ha hl n 0 (by omega)
  simpa using this
def marked : List (List Int) → Int → List (List Int)
  | [], _ => []
  | r :: rs, a => seqL a r.length :: marked rs (a + (r.length : Int))
def mtot : List (List Int) → Int
  | [] => 0
  | r :: rs => (r.length : Int) + mtot rs
theorem mtot_bound : ∀ (rs : List (List Int)), (∀ r ∈ rs, r.length ≤ 1000) → 0 ≤ mtot rs ∧ mtot rs ≤ 1000 * (rs.length : Int)
  | [], _ => by simp [mtot]
  | r :: rs, h => by
    have h1 := mtot_bound rs (fun x hx => h x (by simp [hx])); have h2 := h r (by simp)
    simp only [mtot, List.length_cons]; omega
theorem rdL_app (D : List (List Int)) (r : List Int) (R : List (List Int)) : rd_L2 (D ++ r :: R) ((D.length : Nat) : Int) = r := by
  rw [rdL_nat]; simp [List.getD_eq_getElem?_getD]
theorem markIntSS_l0 (R : List (List Int)) : ∀ (D : List (List Int)) (a : Int), (∀ r ∈ R, r.length ≤ 1000) → R.length ≤ 1000 → D.length + R.length ≤ 1000 → 0 ≤ a → a ≤ 100000000 - 1000 * (R.length : Int) →
    Ev (fun k => laws_markIntSS.l0 k (D ++ R) a (D.length : Int)) (a + mtot R, D ++ marked R a) := by
  induction R with
  | nil =>
    intro D a _ _ _ _ _
    refine Ev.step (fun k => laws_markIntSS.l0.eq_2 ..) ?_
    exact Ev.neg (by simp) ((Ev.now _).to (by simp [mtot, marked]))
  | cons r R ih0 =>
    intro D a h h1 h2 h3 h4
    have hr := h r (by simp)
    simp only [List.length_cons] at h1 h2 h4
    have ih := ih0 (D ++ [seqL a r.length]) (a + (r.length : Int)) (fun x hx => h x (by simp [hx])) (by omega) (by simp; omega) (by omega) (by omega)
    refine Ev.step (fun k => laws_markIntSS.l0.eq_2 ..) ?_
    refine Ev.pos (by simp; omega) (Ev.pos (by omega) ?_)
    rw [rdL_app]
    refine Ev.bind (markIntS_ev r a (by omega) (by omega)) ?_
    dsimp only
    rw [Int.toNat_natCast, List.set_append_right _ _ (Nat.le_refl _), Nat.sub_self, List.set_cons_zero, wrS (by omega)]
    rw [List.length_append, List.append_assoc] at ih
    refine ih.to ?_
    simp only [mtot, marked, List.append_assoc, List.singleton_append]
    rw [Int.add_assoc]
theorem markIntSS_ev (R : List (List Int)) (h : ∀ r ∈ R, r.length ≤ 1000) (h1 : R.length ≤ 1000) : Ev (fun k => laws_markIntSS.f k R 1) (1 + mtot R, marked R 1) := by
  unfold laws_markIntSS.f
  exact markIntSS_l0 R [] 1 h h1 (by simpa using h1) (by omega) (by omega)
theorem heldIntSS_l0 (R : List (List Int)) : ∀ (D : List (List Int)) (a : Int), (∀ r ∈ R, r.length ≤ 1000) → R.length ≤ 1000 → D.length + R.length ≤ 1000 → 0 ≤ a → a ≤ 100000000 - 1000 * (R.length : Int) →
    Ev (fun k => laws_heldIntSS.l0 k (D ++ marked R a) a (D.length : Int)) (a + mtot R) := by
  induction R with
  | nil =>
    intro D a _ _ _ _ _
    refine Ev.step (fun k => laws_heldIntSS.l0.eq_2 ..) ?_
    exact Ev.neg (by simp [marked]) ((Ev.now _).to (by simp [mtot]))
  | cons r R ih0 =>
    intro D a h h1 h2 h3 h4
    have hr := h r (by simp)
    simp only [List.length_cons] at h1 h2 h4
    have ih := ih0 (D ++ [seqL a r.length]) (a + (r.length : Int)) (fun x hx => h x (by simp [hx])) (by omega) (by simp; omega) (by omega) (by omega)
    refine Ev.step (fun k => laws_heldIntSS.l0.eq_2 ..) ?_
    simp only [marked]
    refine Ev.pos (by simp; omega) (Ev.pos (by omega) ?_)
    rw [rdL_app]
    refine Ev.bind (heldIntS_ev a r.length (by omega) (by omega)) (Ev.neg (by omega) ?_)
    rw [wrS (by omega)]
    rw [List.length_append, List.append_assoc] at ih
    refine ih.to ?_
    simp only [mtot]; omega
theorem heldIntSS_ev (R : List (List Int)) (h : ∀ r ∈ R, r.length ≤ 1000) (h1 : R.length ≤ 1000) : Ev (fun k => laws_heldIntSS.f k (marked R 1) 1) (1 + mtot R) := by
  unfold laws_heldIntSS.f
  exact heldIntSS_l0 R [] 1 h h1 (by simpa using h1) (by omega) (by omega)
theorem eqIntSS_l0 (R : List (List Int)) (h : ∀ r ∈ R, r.length ≤ 1000) (h1 : R.length ≤ 1000) : ∀ d i, i + d = R.length → Ev (fun k => laws_eqIntSS.l0 k R R (i : Int)) true
  | 0, i, hi => by
    refine Ev.step (fun k => laws_eqIntSS.l0.eq_2 ..) ?_
    exact Ev.neg (by omega) (Ev.now _)
  | d + 1, i, hi => by
    refine Ev.step (fun k => laws_eqIntSS.l0.eq_2 ..) ?_
    have hm : R.getD i [] ∈ R := by rw [List.getD_eq_getElem?_getD, List.getElem?_eq_getElem (by omega)]; simp
    refine Ev.pos (by omega) (Ev.pos (by omega) (Ev.pos (by omega) ?_))
    rw [rdL_nat]
    have hr := h _ hm
    refine Ev.bind ((eqIntS_ev (R.getD i []) (R.getD i []) (by omega)).to (by simp)) (Ev.pos rfl ?_)
    rw [wrS (by omega)]; exact eqIntSS_l0 R h h1 d (i + 1) (by omega)
theorem eqIntSS_self (R : List (List Int)) (h : ∀ r ∈ R, r.length ≤ 1000) (h1 : R.length ≤ 1000) : Ev (fun k => laws_eqIntSS.f k R R) true := by
  unfold laws_eqIntSS.f
  exact Ev.pos rfl (eqIntSS_l0 R h h1 R.length 0 (by omega))
end Go.Proofs.Ythlmmcmpllgflaa.P
namespace Go.Proofs.Ythlmmcmpllgflaa.P
open Go.RowKit Go.Proofs.YthlmmcmpllgflaaW.PrintWords Go.Proofs.YthlmmcmpllgflaaW.PrintLast Go.Proofs.YthlmmcmpllgflaaW.PrintMore ChainMath
theorem cmpL_eq : ∀ a b, cmpL a b = 0 → a = b
  | [], [], _ => rfl
  | [], _ :: _, h => by simp [cmpL] at h
  | _ :: _, [], h => by simp [cmpL] at h
  | x :: a, y :: b, h => by
    simp only [cmpL] at h
    split at h
    · omega
    · split at h
      · omega
      · rw [cmpL_eq a b h, show x = y by omega]
theorem cmpL_self : ∀ a, cmpL a a = 0
  | [] => rfl
  | x :: a => by simp only [cmpL]; rw [if_neg (by omega), if_neg (by omega)]; exact cmpL_self a
theorem cmpL_swap : ∀ a b, cmpL a b > 0 → cmpL b a < 0
  | [], [], h => by simp [cmpL] at h
  | [], _ :: _, h => by simp [cmpL] at h
  | _ :: _, [], _ => by simp [cmpL]
  | x :: a, y :: b, h => by
    simp only [cmpL] at h ⊢
    by_cases h1 : x < y
    · rw [if_pos h1] at h; omega
    · rw [if_neg h1] at h
      by_cases h2 : x > y
      · rw [if_pos (show y < x from h2)]; omega
      · rw [if_neg h2] at h
        rw [if_neg (by omega), if_neg (by omega)]; exact cmpL_swap a b h
theorem cmpL_trans : ∀ a b c, cmpL a b < 0 → cmpL b c < 0 → cmpL a c < 0
  | [], [], _, h, _ => by simp [cmpL] at h
  | [], _ :: _, [], _, h => by simp [cmpL] at h
  | [], _ :: _, _ :: _, _, _ => by simp [cmpL]
  | _ :: _, [], _, h, _ => by simp [cmpL] at h
  | _ :: _, _ :: _, [], _, h => by simp [cmpL] at h
  | x :: a, y :: b, z :: c, h, h2 => by
    simp only [cmpL] at h h2 ⊢
    by_cases h3 : x < z
    · rw [if_pos h3]; omega
    · rw [if_neg h3]
      by_cases h4 : x < y
      · by_cases h5 : y < z
        · omega
        · rw [if_neg h5, if_pos (by omega)] at h2; omega
      · rw [if_neg h4] at h
        by_cases h6 : x > y
        · rw [if_pos h6] at h; omega
        · rw [if_neg h6] at h
          have e : x = y := by omega
          rw [← e, if_neg h3] at h2
          by_cases h7 : x > z
          · rw [if_pos h7] at h2; omega
          · rw [if_neg h7] at h2 ⊢; exact cmpL_trans a b c h h2
theorem cmpLL_eq : ∀ a b, cmpLL a b = 0 → a = b
  | [], [], _ => rfl
  | [], _ :: _, h => by simp [cmpLL] at h
  | _ :: _, [], h => by simp [cmpLL] at h
  | x :: a, y :: b, h => by
    simp only [cmpLL] at h
    by_cases e : cmpL x y = 0
    · rw [if_pos e] at h; rw [cmpL_eq x y e, cmpLL_eq a b h]
    · rw [if_neg e] at h; exact absurd h e
theorem cmpLL_self : ∀ a, cmpLL a a = 0
  | [] => rfl
  | x :: a => by simp only [cmpLL]; rw [if_pos (cmpL_self x)]; exact cmpLL_self a
theorem cmpLL_swap : ∀ a b, cmpLL a b > 0 → cmpLL b a < 0
  | [], [], h => by simp [cmpLL] at h
  | [], _ :: _, h => by simp [cmpLL] at h
  | _ :: _, [], _ => by simp [cmpLL]
  | x :: a, y :: b, h => by
    simp only [cmpLL] at h ⊢
    by_cases e : cmpL x y = 0
    · rw [if_pos e] at h
      have e2 := cmpL_eq x y e; subst e2
      rw [if_pos e]; exact cmpLL_swap a b h
    · rw [if_neg e] at h
      have := cmpL_swap x y h
      rw [if_neg (by omega)]; exact this
theorem cmpLL_trans : ∀ a b c, cmpLL a b < 0 → cmpLL b c < 0 → cmpLL a c < 0
  | [], [], _, h, _ => by simp [cmpLL] at h
  | [], _ :: _, [], _, h => by simp [cmpLL] at h
  | [], _ :: _, _ :: _, _, _ => by simp [cmpLL]
  | _ :: _, [], _, h, _ => by simp [cmpLL] at h
  | _ :: _, _ :: _, [], _, h => by simp [cmpLL] at h
  | x :: a, y :: b, z :: c, h, h2 => by
    simp only [cmpLL] at h h2 ⊢
    by_cases e : cmpL x y = 0
    · rw [if_pos e] at h
      have e1 := cmpL_eq x y e; subst e1
      by_cases e2 : cmpL x z = 0
      · rw [if_pos e2] at h2 ⊢; exact cmpLL_trans a b c h h2
      · rw [if_neg e2] at h2 ⊢; exact h2
    · rw [if_neg e] at h
      by_cases e2 : cmpL y z = 0
      · have e3 := cmpL_eq y z e2; subst e3
        rw [if_neg e]; exact h
      · rw [if_neg e2] at h2
        have := cmpL_trans x y z h h2
        rw [if_neg (by omega)]; exact this
abbrev PairT := List (List Int) × Int
def lessP (p q : PairT) : Prop := p.2 < q.2 ∨ (p.2 = q.2 ∧ (mtot p.1 < mtot q.1 ∨ (mtot p.1 = mtot q.1 ∧ cmpLL p.1 q.1 < 0)))
instance (p q : PairT) : Decidable (lessP p q) := by unfold lessP; infer_instance
theorem lessP_self (p : PairT) : ¬ lessP p p := by
  unfold lessP; rw [cmpLL_self]; omega
theorem lessP_trans {a b c : PairT} (h : lessP a b) (h2 : lessP b c) : lessP a c := by
  unfold lessP at *
  rcases h with h | ⟨h, h'⟩
  · rcases h2 with h2 | ⟨h2, _⟩
    · exact .inl (by omega)
    · exact .inl (by omega)
  · rcases h2 with h2 | ⟨h2, h2'⟩
    · exact .inl (by omega)
    · refine .inr ⟨(by omega), ?_⟩
      rcases h' with h' | ⟨h', h''⟩
      · rcases h2' with h2' | ⟨h2', _⟩ <;> exact .inl (by omega)
      · rcases h2' with h2' | ⟨h2', h2''⟩
        · exact .inl (by omega)
        · exact .inr ⟨(by omega), cmpLL_trans _ _ _ h'' h2''⟩
theorem lessP_total {a b : PairT} (h : ¬ lessP a b) (h2 : ¬ lessP b a) : a = b := by
  unfold lessP at h h2
  have e1 : a.2 = b.2 := by omega
  have e2 : mtot a.1 = mtot b.1 := by omega
  have e3 : cmpLL a.1 b.1 = 0 := by
    have h3 : ¬ cmpLL a.1 b.1 < 0 := fun e => h (.inr ⟨e1, .inr ⟨e2, e⟩⟩)
    have h4 : ¬ cmpLL b.1 a.1 < 0 := fun e => h2 (.inr ⟨e1.symm, .inr ⟨e2.symm, e⟩⟩)
    have h5 : ¬ cmpLL a.1 b.1 > 0 := fun e => h4 (cmpLL_swap _ _ e)
    omega
  exact Prod.ext (cmpLL_eq _ _ e3) e1
def stepP (o : Option PairT) (p : PairT) : Option PairT := match o with
  | none => some p
  | some q => if lessP p q then some p else some q
def foldP (l : List PairT) (o : Option PairT) : Option PairT := l.foldl stepP o
theorem foldP_append (a b : List PairT) (o : Option PairT) : foldP (a ++ b) o = foldP b (foldP a o) := by unfold foldP; rw [List.foldl_append]
theorem foldP_some : ∀ (l : List PairT) (q : PairT), ∃ r, foldP l (some q) = some r ∧ (r = q ∨ r ∈ l) ∧ ¬ lessP q r ∧ ∀ p ∈ l, ¬ lessP p r
  | [], q => ⟨q, rfl, .inl rfl, lessP_self q, fun p hp => by simp at hp⟩
  | x :: l, q => by
    have e : foldP (x :: l) (some q) = foldP l (if lessP x q then some x else some q) := rfl
    rw [e]
    by_cases h : lessP x q
    · rw [if_pos h]
      obtain ⟨r, h1, h2, h3, h4⟩ := foldP_some l x
      refine ⟨r, h1, .inr ?_, fun e => h3 (lessP_trans h e), fun p hp => ?_⟩
      · rcases h2 with e | e
        · rw [e]; simp
        · exact List.mem_cons_of_mem _ e
      · rcases List.mem_cons.1 hp with e | e
        · rw [e]; exact h3
        · exact h4 p e
    · rw [if_neg h]
      obtain ⟨r, h1, h2, h3, h4⟩ := foldP_some l q
      refine ⟨r, h1, ?_, h3, fun p hp => ?_⟩
      · rcases h2 with e | e
        · exact .inl e
        · exact .inr (List.mem_cons_of_mem _ e)
      · rcases List.mem_cons.1 hp with e | e
        · rw [e]
          intro hr
          rcases Classical.em (r = q) with e2 | e2
          · rw [e2] at hr; exact h hr
          · exact e2 (lessP_total (fun e3 => h (lessP_trans hr e3)) h3)
        · exact h4 p e
theorem foldP_spec (l : List PairT) : (foldP l none = none ∧ l = []) ∨ ∃ r, foldP l none = some r ∧ r ∈ l ∧ ∀ p ∈ l, ¬ lessP p r := by
  cases l with
  | nil => exact .inl ⟨rfl, rfl⟩
  | cons x l =>
    right
    obtain ⟨r, h1, h2, h3, h4⟩ := foldP_some l x
    refine ⟨r, h1, ?_, fun p hp => ?_⟩
    · rcases h2 with e | e
      · rw [e]; simp
      · exact List.mem_cons_of_mem _ e
    · rcases List.mem_cons.1 hp with e | e
      · rw [e]; exact h3
      · exact h4 p e
theorem foldP_same {l l' : List PairT} (h : ∀ p, p ∈ l ↔ p ∈ l') : foldP l none = foldP l' none := by
  rcases foldP_spec l with ⟨h1, h2⟩ | ⟨r, h1, h2, h3⟩
  · rcases foldP_spec l' with ⟨g1, _⟩ | ⟨r', _, g2, _⟩
    · rw [h1, g1]
    · have := (h r').2 g2; rw [h2] at this; simp at this
  · rcases foldP_spec l' with ⟨_, g2⟩ | ⟨r', g1, g2, g3⟩
    · have := (h r).1 h2; rw [g2] at this; simp at this
    · rw [h1, g1, lessP_total (g3 r ((h r).1 h2)) (h3 r' ((h r').2 g2))]
theorem per_congr {O P : Nat → Bool} {n : Nat} (h : ∀ u, u < n → O u = P u) : per O n = per P n := by
  unfold per perN
  congr 1
  exact List.filter_congr fun x hx => h x (List.mem_range.1 hx)
theorem cover_congr {need : List Int} {O P : Nat → Bool} (h : ∀ u, u < need.length → O u = P u) : cover need O ↔ cover need P := by
  unfold cover; rw [nxt_congr h]
theorem planOf_congr {need : List Int} {O P : Nat → Bool} (h : ∀ u, u < need.length → O u = P u) : planOf need O = planOf need P := by
  unfold planOf
  refine List.map_congr_left fun t ht => ?_
  rw [nxt_congr h, h t (List.mem_range.1 ht)]
def Obn (n code : Nat) (t : Nat) : Bool := decide (t < n) && Ob code t
theorem Obn_lt {n code t : Nat} (h : t < n) : Obn n code t = Ob code t := by unfold Obn; rw [decide_eq_true h, Bool.true_and]
theorem Ob_bit : ∀ code : Fin 256, ∀ t : Fin 8, Ob code t = decide ((code : Nat) / 2 ^ (t : Nat) % 2 = 1) := by decide +kernel
theorem Ob_all (n : Nat) (hn : n ≤ 8) (O : Nat → Bool) : ∃ code, code < 2 ^ n ∧ ∀ t, t < n → Ob code t = O t := by
  have hq : ∀ t, (fun t => if O t = true then 1 else 0) t < 2 := fun t => by dsimp only; split <;> omega
  have hlt := codeOf_lt 2 (fun t => if O t = true then 1 else 0) (by omega) hq n
  refine ⟨codeOf 2 (fun t => if O t = true then 1 else 0) n, hlt, fun t ht => ?_⟩
  have h2 := codeOf_dig 2 (fun t => if O t = true then 1 else 0) (by omega) hq n t ht
  have h3 := Nat.pow_le_pow_right (n := 2) (by omega) hn
  have h4 := Ob_bit ⟨codeOf 2 (fun t => if O t = true then 1 else 0) n, (by omega)⟩ ⟨t, (by omega)⟩
  dsimp only at h4
  rw [h4, h2]
  cases O t <;> simp
def Nest (Os : List (Nat → Bool)) : Prop := ∀ s t (h : s + 1 < Os.length), Os[s] t = true → Os[s + 1] t = true
theorem Nest_cons {P O : Nat → Bool} {r : List (Nat → Bool)} (h : ∀ t, P t = true → O t = true) (hn : Nest (O :: r)) : Nest (P :: O :: r) := by
  intro s t hs ho
  cases s with
  | zero => exact h t ho
  | succ s => exact hn s t (by simpa using hs) ho
theorem Nest_one (P : Nat → Bool) : Nest [P] := fun s t hs => by simp at hs
def famP (need setup hold : List Int) (Os : List (Nat → Bool)) : PairT := (Os.map fun O => per O need.length, planCost need setup hold (Os.map (planOf need)))
def okB (n code : Nat) : List (Nat → Bool) → Bool
  | [] => true
  | O :: _ => (per (Ob code) n).all fun x => (per O n).any fun y => decide (y = x)
theorem mem_per {O : Nat → Bool} {n : Nat} {x : Int} : x ∈ per O n ↔ ∃ t, t < n ∧ O t = true ∧ x = (t : Int) := by
  unfold per perN
  rw [List.mem_map]
  constructor
  · rintro ⟨t, ht, rfl⟩; rw [List.mem_filter, List.mem_range] at ht; exact ⟨t, ht.1, ht.2, rfl⟩
  · rintro ⟨t, h1, h2, rfl⟩; exact ⟨t, (by rw [List.mem_filter, List.mem_range]; exact ⟨h1, h2⟩), rfl⟩
theorem sub_iff {O P : Nat → Bool} {n : Nat} : ((per O n).all fun x => (per P n).any fun y => decide (y = x)) = true ↔ ∀ t, t < n → O t = true → P t = true := by
  rw [List.all_eq_true]
  constructor
  · intro h t h1 h2
    have := h (t : Int) (mem_per.2 ⟨t, h1, h2, rfl⟩)
    rw [List.any_eq_true] at this
    obtain ⟨y, h3, h4⟩ := this
    obtain ⟨u, h5, h6, rfl⟩ := mem_per.1 h3
    have h7 : u = t := by have := of_decide_eq_true h4; omega
    rw [← h7]; exact h6
  · intro h x hx
    obtain ⟨t, h1, h2, rfl⟩ := mem_per.1 hx
    rw [List.any_eq_true]
    exact ⟨(t : Int), mem_per.2 ⟨t, h1, h t h1 h2, rfl⟩, (by simp)⟩
theorem okB_nest {n code : Nat} {Os : List (Nat → Bool)} (h : okB n code Os = true) (hn : Nest Os) : Nest (Obn n code :: Os) := by
  cases Os with
  | nil => exact Nest_one _
  | cons O r =>
    refine Nest_cons (fun t ht => ?_) hn
    unfold Obn at ht
    rw [Bool.and_eq_true, decide_eq_true_eq] at ht
    exact sub_iff.1 h t ht.1 ht.2
def enum (need setup hold : List Int) : Nat → List (Nat → Bool) → List PairT
  | 0, Os => if ∀ O ∈ Os, cover need O then [famP need setup hold Os] else []
  | d + 1, Os => (List.range (2 ^ need.length)).flatMap fun code => if okB need.length code Os = true then enum need setup hold d (Obn need.length code :: Os) else []
theorem enum_is {need setup hold : List Int} : ∀ (d : Nat) (Os : List (Nat → Bool)) (p : PairT), Nest Os → p ∈ enum need setup hold d Os →
    ∃ Cs : List (Nat → Bool), Cs.length = d ∧ Nest (Cs ++ Os) ∧ (∀ O ∈ Cs ++ Os, cover need O) ∧ p = famP need setup hold (Cs ++ Os)
  | 0, Os, p, hn, h => by
    simp only [enum] at h
    split at h
    · rename_i hc
      rw [List.mem_singleton] at h
      exact ⟨[], rfl, hn, hc, h⟩
    · simp at h
  | d + 1, Os, p, hn, h => by
    simp only [enum] at h
    rw [List.mem_flatMap] at h
    obtain ⟨code, _, h⟩ := h
    split at h
    · rename_i hok
      obtain ⟨Cs, h1, h2, h3, h4⟩ := enum_is d (Obn need.length code :: Os) p (okB_nest hok hn) h
      refine ⟨Cs ++ [Obn need.length code], (by simp [h1]), ?_, ?_, ?_⟩
      · rw [List.append_assoc]; exact h2
      · rw [List.append_assoc]; exact h3
      · rw [List.append_assoc]; exact h4
    · simp at h
def Ocs (n : Nat) (f : Nat → Nat) (s : Nat) : Nat → Bool := Obn n (f s)
theorem enum_has {need setup hold : List Int} (f : Nat → Nat) (m : Nat) (hf : ∀ s, s < m → f s < 2 ^ need.length) (hsub : ∀ s t, s + 1 < m → t < need.length → Ob (f s) t = true → Ob (f (s + 1)) t = true)
    (hc : ∀ s, s < m → cover need (Ocs need.length f s)) : ∀ d e, d + e = m → famP need setup hold ((List.range m).map (Ocs need.length f)) ∈ enum need setup hold d ((List.range' d e).map (Ocs need.length f))
  | 0, e, h => by
    simp only [enum]
    have he : e = m := by omega
    subst he
    rw [if_pos, List.mem_singleton, List.range_eq_range']
    intro O hO
    obtain ⟨s, hs, rfl⟩ := List.mem_map.1 hO
    rw [List.mem_range'_1] at hs
    exact hc s (by omega)
  | d + 1, e, h => by
    simp only [enum]
    rw [List.mem_flatMap]
    refine ⟨f d, List.mem_range.2 (hf d (by omega)), ?_⟩
    have ih := enum_has f m hf hsub hc d (e + 1) (by omega) (setup := setup) (hold := hold)
    rw [List.range'_succ, List.map_cons] at ih
    rw [if_pos]
    · exact ih
    · cases e with
      | zero => rfl
      | succ e =>
        rw [List.range'_succ, List.map_cons]
        refine sub_iff.2 fun t ht ho => ?_
        show Obn need.length (f (d + 1)) t = true
        rw [Obn_lt ht]; exact hsub d t (by omega) ht ho
def enumI (need setup hold : List Int) (total : Nat) : List PairT :=
  (List.range total).flatMap fun code => if ∀ O ∈ Osc setup.length code, cover need O then [(listsTo setup.length code need.length, codeCost need setup hold code)] else []
theorem famP_congr {need setup hold : List Int} {As Bs : List (Nat → Bool)} (hl : As.length = Bs.length) (h : ∀ s (h1 : s < As.length) (h2 : s < Bs.length) t, t < need.length → As[s] t = Bs[s] t) : famP need setup hold As = famP need setup hold Bs := by
  unfold famP
  have e1 : (As.map fun O => per O need.length) = Bs.map fun O => per O need.length := by
    refine List.ext_getElem (by simp [hl]) fun i h1 h2 => ?_
    rw [List.getElem_map, List.getElem_map]
    exact per_congr fun u hu => h i (by simpa using h1) (by simpa using h2) u hu
  have e2 : As.map (planOf need) = Bs.map (planOf need) := by
    refine List.ext_getElem (by simp [hl]) fun i h1 h2 => ?_
    rw [List.getElem_map, List.getElem_map]
    exact planOf_congr fun u hu => h i (by simpa using h1) (by simpa using h2) u hu
  rw [e1, e2]
theorem famP_Osc (need setup hold : List Int) (code : Nat) : famP need setup hold (Osc setup.length code) = (listsTo setup.length code need.length, codeCost need setup hold code) := by
  unfold famP codeCost
  congr 1
  unfold listsTo Osc; rw [List.map_map]; rfl
theorem enum_same {need setup hold : List Int} (hn : need.length ≤ 8) (p : PairT) : p ∈ enumI need setup hold ((setup.length + 1) ^ need.length) ↔ p ∈ enum need setup hold setup.length [] := by
  constructor
  · intro h
    unfold enumI at h
    rw [List.mem_flatMap] at h
    obtain ⟨code, _, h⟩ := h
    split at h
    · rename_i hc
      rw [List.mem_singleton] at h
      subst h
      have hf : ∀ s, ∃ c, c < 2 ^ need.length ∧ ∀ t, t < need.length → Ob c t = Qc setup.length code s t := fun s => Ob_all _ hn _
      obtain ⟨f, hf⟩ := Classical.axiomOfChoice hf
      have hlen : ((List.range setup.length).map (Ocs need.length f)).length = (Osc setup.length code).length := by simp [Osc]
      have hag : ∀ s t, t < need.length → Ocs need.length f s t = Qc setup.length code s t := fun s t ht => by
        unfold Ocs; rw [Obn_lt ht]; exact (hf s).2 t ht
      have h2 := enum_has (need := need) (setup := setup) (hold := hold) f setup.length (fun s _ => (hf s).1) (fun s t hs ht ho => by
          rw [(hf s).2 t ht] at ho; rw [(hf (s + 1)).2 t ht]
          unfold Qc at ho ⊢; simp at ho ⊢; omega) (fun s hs => by
          rw [cover_congr (fun u hu => hag s u hu)]
          exact hc _ (List.mem_map.2 ⟨s, List.mem_range.2 hs, rfl⟩)) setup.length 0 (by omega)
      rw [← famP_Osc]
      rw [famP_congr (Bs := Osc setup.length code) hlen (fun s h1 h3 t ht => by
        rw [Osc_get]; rw [List.getElem_map, List.getElem_range]; exact hag s t ht)] at h2
      exact h2
    · simp at h
  · intro h
    obtain ⟨Cs, h1, h2, h3, h4⟩ := enum_is setup.length [] p (fun s t hs => by simp at hs) h
    rw [List.append_nil] at h2 h3 h4
    have hq : ∀ t, cnt (fun s => Cs.getD s (fun _ => false) t) setup.length < setup.length + 1 := fun t => Nat.lt_succ_of_le (cnt_self _)
    have hB : 0 < setup.length + 1 := by omega
    have hget : ∀ s (h : s < Cs.length), Cs.getD s (fun _ => false) = Cs[s] := fun s h => by rw [List.getD_eq_getElem?_getD, List.getElem?_eq_getElem h]; rfl
    have same : ∀ s t, s < setup.length → t < need.length → Qc setup.length (codeOf (setup.length + 1) (fun t => cnt (fun s => Cs.getD s (fun _ => false) t) setup.length) need.length) s t = Cs.getD s (fun _ => false) t := by
      intro s t hs ht
      unfold Qc dig
      rw [codeOf_dig _ _ hB hq need.length t ht]
      have := up_iff (P := fun s => Cs.getD s (fun _ => false) t) setup.length (fun s hs h => by
        rw [hget s (by omega)] at h; rw [hget (s + 1) (by omega)]; exact h2 s t (by omega) h) s hs
      rcases Bool.eq_false_or_eq_true (Cs.getD s (fun _ => false) t) with e | e
      · rw [e, decide_eq_true_eq]; exact this.1 e
      · rw [e, decide_eq_false_iff_not]; intro h; have := this.2 h; rw [e] at this; simp at this
    unfold enumI
    rw [List.mem_flatMap]
    refine ⟨_, List.mem_range.2 (codeOf_lt _ _ hB hq need.length), ?_⟩
    rw [if_pos]
    · rw [List.mem_singleton, h4, ← famP_Osc]
      refine famP_congr (by rw [Osc_len]; exact h1) fun s h5 h6 t ht => ?_
      rw [Osc_get, same s t (by omega) ht, hget s h5]
    · intro O hO
      obtain ⟨s, hs, rfl⟩ := List.mem_map.1 hO
      rw [List.mem_range] at hs
      rw [cover_congr (fun u hu => same s u hs hu), hget s (by omega)]
      exact h3 _ (List.getElem_mem (by omega))
def toldI : Option PairT → BnState
  | none => ([], 1099511627776, 0)
  | some (L, c) => (L, c, mtot L)
theorem mtot_per (O : Nat → Nat → Bool) (n : Nat) : ∀ l : List Nat, mtot (l.map fun s => per (O s) (n + 1)) = mtot (l.map fun s => per (O s) n) + ((l.filter fun s => O s n).length : Int)
  | [] => rfl
  | s :: l => by
    simp only [List.map_cons, mtot]
    rw [mtot_per O n l, per_succ, List.filter_cons]
    cases O s n <;> simp <;> omega
theorem dig_count (m code t : Nat) : ((List.range m).filter fun s => Qc m code s t).length = dig m code t := by
  have hd := dig_le m code t
  have h : ∀ k, k ≤ m → ((List.range k).filter fun s => Qc m code s t).length = k - (m - dig m code t) := by
    intro k
    induction k with
    | zero => intro _; simp
    | succ k ih =>
      intro hk
      rw [List.range_succ, List.filter_append, List.length_append, ih (by omega)]
      by_cases hq : m ≤ k + dig m code t
      · have : Qc m code k t = true := by unfold Qc; simpa using hq
        simp [this]; omega
      · have : Qc m code k t = false := by unfold Qc; simpa using hq
        simp [this]; omega
  rw [h m (Nat.le_refl _)]; omega
theorem sumD_mtot (m code : Nat) : ∀ i, sumD m code i = mtot (listsTo m code i)
  | 0 => by
    simp only [sumD]
    unfold listsTo
    have : ∀ l : List Nat, mtot (l.map fun s => per (Qc m code s) 0) = 0 := fun l => by
      induction l with
      | nil => rfl
      | cons s l ih => simp only [List.map_cons, mtot, ih]; simp [per, perN]
    rw [this]
  | i + 1 => by
    simp only [sumD]
    rw [sumD_mtot m code i]
    unfold listsTo
    rw [mtot_per (fun s => Qc m code s) i, dig_count]
theorem codeCost_small {need setup hold : List Int} (S : Small need setup hold) {code : Nat} (hc : ∀ O ∈ Osc setup.length code, cover need O) : 0 ≤ codeCost need setup hold code ∧ codeCost need setup hold code ≤ 1000000 := by
  obtain ⟨rows, hr⟩ := nested_rows need S.n S.need20 (Osc setup.length code) (Osc_nest hc)
  have ok := planOk_of need _ rows S.need20 hr
  have hlen : ((Osc setup.length code).map (planOf need)).length = setup.length := by simp [Osc]
  have e : codeCost need setup hold code = sumN (fun s => sumN (termOf need setup hold ((Osc setup.length code).map (planOf need)) s) need.length) ((Osc setup.length code).map (planOf need)).length := by
    unfold codeCost planCost hcost
    exact (sumN_congr _ fun s hs => term_sum ok hs).symm
  rw [e]
  have hm := S.m; have hn := S.n; have hh := S.h
  have := sum_bound (f := fun s => sumN (termOf need setup hold ((Osc setup.length code).map (planOf need)) s) need.length) (B := 60000) ((Osc setup.length code).map (planOf need)).length (fun j hj => by
    have := sum_bound (f := termOf need setup hold ((Osc setup.length code).map (planOf need)) j) (B := 10000) need.length (fun i hi => term_bound ok S.n S.setup S.hold (by omega) (by omega) (by omega) hi)
    omega)
  omega
theorem bn_fold {need setup hold : List Int} (S : Small need setup hold) : ∀ total, bn need setup hold total = toldI (foldP (enumI need setup hold total) none)
  | 0 => rfl
  | t + 1 => by
    rw [bn_succ, bn_fold S t]
    unfold enumI
    rw [List.range_succ, List.flatMap_append, foldP_append]
    generalize foldP ((List.range t).flatMap fun code => if ∀ O ∈ Osc setup.length code, cover need O then [(listsTo setup.length code need.length, codeCost need setup hold code)] else []) none = o
    unfold bnStep
    simp only [List.flatMap_cons, List.flatMap_nil, List.append_nil]
    by_cases hc : ∀ O ∈ Osc setup.length t, cover need O
    · rw [if_pos hc, if_pos hc, sumD_mtot]
      have hb := codeCost_small S hc
      rcases o with _ | ⟨L, c⟩
      · show _ = toldI (some (listsTo setup.length t need.length, codeCost need setup hold t))
        rw [if_pos (.inl (by simp only [toldI]; omega))]; rfl
      · show _ = toldI (if lessP (listsTo setup.length t need.length, codeCost need setup hold t) (L, c) then some (listsTo setup.length t need.length, codeCost need setup hold t) else some (L, c))
        by_cases hl : lessP (listsTo setup.length t need.length, codeCost need setup hold t) (L, c)
        · rw [if_pos hl]
          exact if_pos hl
        · rw [if_neg hl]
          exact if_neg hl
    · rw [if_neg hc, if_neg hc]; rfl
end Go.Proofs.Ythlmmcmpllgflaa.P
namespace Go.Proofs.Ythlmmcmpllgflaa.P
open Go.RowKit Go.Proofs.YthlmmcmpllgflaaW.PrintWords Go.Proofs.YthlmmcmpllgflaaW.PrintLast Go.Proofs.YthlmmcmpllgflaaW.PrintMore
attribute [local go_sem] max2_int min2_int max_two min_two max_three min_three max_four min_four
set_option linter.unusedVariables false
set_option linter.unusedSimpArgs false
def spec_l7Out.f (l0_0 : List Int) (l0_1 : List Int) (l0_2 : List Int) (l1 : List (List Int)) (a2 : Int) (a3 : Int) : Option (Int) := if (wrap64 (a2 + 1)) < (l1.length : Int) then (if 0 ≤ (wrap64 (a2 + 1)) then (if 0 ≤ a3 then (if a3 < ((rd_L2 l1 (wrap64 (a2 + 1))).length : Int) then (some (rd (rd_L2 l1 (wrap64 (a2 + 1))) a3)) else (none)) else (none)) else (none)) else (if 0 ≤ a3 then (if a3 < (l0_0.length : Int) then (some (rd l0_0 a3)) else (none)) else (none))
set_option maxHeartbeats 8000000 in
set_option maxRecDepth 100000 in
theorem spec_l7Out.calls (A0_0 : Option Addr) (c0_0 : Nat) (l0_0 : List Int) (A0_1 : Option Addr) (c0_1 : Nat) (l0_1 : List Int) (A0_2 : Option Addr) (c0_2 : Nat) (l0_2 : List Int) (A1 : Option Addr) (c1 : Nat) (l1 : List (List Int)) (a2 : Int) (a3 : Int) (r : Int) (w : World) (hr0_0 : Kd.C (Kd.int .i64) w A0_0 l0_0.length l0_0) (hc0_0 : l0_0.length ≤ c0_0) (hr0_1 : Kd.C (Kd.int .i64) w A0_1 l0_1.length l0_1) (hc0_1 : l0_1.length ≤ c0_1) (hr0_2 : Kd.C (Kd.int .i64) w A0_2 l0_2.length l0_2) (hc0_2 : l0_2.length ≤ c0_2) (hr1 : Kd.C (Kd.slice 3 (Kd.int .i64)) w A1 l1.length l1) (hc1 : l1.length ≤ c1) (h : spec_l7Out.f l0_0 l0_1 l0_2 l1 a2 a3 = some r) :
 Calls Try.prog 129 #[.agg #[.slice A0_0 l0_0.length c0_0, .slice A0_1 l0_1.length c0_1, .slice A0_2 l0_2.length c0_2], .slice A1 l1.length c1, .int .i64 a2, .int .i64 a3] w fun e w' => e = .returned (.int .i64 r) ∧ Below w.heap.size w w' := by
 have hu26 := Try.underlying26
 have HR0_0 := Aside0.mk hr0_0
 have HC0_0 := Aside0.mk hc0_0
 clear hr0_0 hc0_0
 have HR0_1 := Aside0.mk hr0_1
 have HC0_1 := Aside0.mk hc0_1
 clear hr0_1 hc0_1
 have HR0_2 := Aside0.mk hr0_2
 have HC0_2 := Aside0.mk hc0_2
 clear hr0_2 hc0_2
 have HR1 := Aside0.mk hr1
 have HC1 := Aside0.mk hc1
 clear hr1 hc1
 have HB := Aside0.mk (Below.refl w.heap.size w)
 have H : (if (wrap64 (a2 + 1)) < (l1.length : Int) then (if 0 ≤ (wrap64 (a2 + 1)) then (if 0 ≤ a3 then (if a3 < ((rd_L2 l1 (wrap64 (a2 + 1))).length : Int) then (some (rd (rd_L2 l1 (wrap64 (a2 + 1))) a3)) else (none)) else (none)) else (none)) else (if 0 ≤ a3 then (if a3 < (l0_0.length : Int) then (some (rd l0_0 a3)) else (none)) else (none))) = some r := h
 clear h
 by_cases c5 : (wrap64 (a2 + 1)) < (l1.length : Int)
 · rw [if_pos c5] at H
   have c5b0 : decide ((wrap64 (a2 + 1)) < (l1.length : Int)) = true := decide_eq_true c5
   clear c5
   obtain ⟨ji6, hji6⟩ : ∃ j_ : Int, (wrap64 (a2 + 1)) = j_ := ⟨_, rfl⟩
   replace H : (if 0 ≤ (ji6) then (if 0 ≤ a3 then (if a3 < ((rd_L2 l1 (ji6)).length : Int) then (some (rd (rd_L2 l1 (ji6)) a3)) else (none)) else (none)) else (none)) = some r := by first | (rw [hji6] at H; exact H) | (simp only [hji6] at H ⊢; exact H)
   (try rw [hji6] at c5b0)
   have hji6w : (IntKind.i64.wrap (a2 + 1)) = ji6 := (i64_w _).trans hji6
   by_cases c7 : 0 ≤ (ji6)
   · rw [if_pos c7] at H
     have c7b0 : decide (0 ≤ (ji6)) = true := decide_eq_true c7
     clear c7
     by_cases c8 : 0 ≤ a3
     · rw [if_pos c8] at H
       have c8b0 : decide (0 ≤ a3) = true := decide_eq_true c8
       clear c8
       by_cases c9 : a3 < ((rd_L2 l1 (ji6)).length : Int)
       · rw [if_pos c9] at H
         have c9b0 : decide (a3 < ((rd_L2 l1 (ji6)).length : Int)) = true := decide_eq_true c9
         clear c9
         obtain rfl := Option.some.inj H
         go_enter Try.func129, Try.ntmps129
         go_wp2_with (first | ((with_reducible refine gate_dst (N := 4) rfl ?_); refine box_event ?hg (N := 4) ?hd (cs := #[.slice A0_0 l0_0.length c0_0, .slice A0_1 l0_1.length c0_1, .slice A0_2 l0_2.length c0_2]) (t := 26) ?hr ?_; (case hd => rfl); (case hg => rfl); (case hr => first | (go_simp; done) | (go_simp; rfl)); intro gb904 hg w10 hbox hb; have BK904 := Aside0.mk (hbox); have GW904 := Aside0.mk ((z6 : w.heap.size ≤ gb904)); have GE904 := Aside0.mk ((z6 : w.heap.size ≤ gb904)); replace HB := zs0 hb; clear hb hbox hg; have p905 : 0 ≤ ((ji6) : Int) := of_decide_eq_true z1; have q905 : (ji6) < (l1.length : Int) := of_decide_eq_true z1; obtain ⟨ad905, A905_0, c905_0, e905, hx905_0, hl905_0, hi905_0⟩ := at_L2 HR1.out (ji6) p905 q905; cases e905; replace hx905_0 := (HB.out.cell (World.block_lt_of_cell? w _ hx905_0)).trans hx905_0; have HR905_0 := Aside0.mk hi905_0; have HC905_0 := Aside0.mk hl905_0; clear hi905_0 hl905_0; replace p905 := eq_true p905; replace q905 := eq_true q905; have p906 : 0 ≤ (a3 : Int) := of_decide_eq_true z1; have q906 : a3 < ((rd_L2 l1 (ji6)).length : Int) := of_decide_eq_true z1; obtain ⟨ad906, e906, hx906_0⟩ := Kd.at_int HR905_0.out a3 p906 q906; cases e906; replace hx906_0 := (HB.out.cell (World.block_lt_of_cell? w _ hx906_0)).trans hx906_0; replace p906 := eq_true p906; replace q906 := eq_true q906))
         go_ret
         exact ⟨(by first | rfl | (simp [errW_none, errW_some] <;> rfl) | (simp only [← hji6]; first | rfl | (simp [errW_none, errW_some] <;> rfl)) | (simp [*, errW_none, errW_some] <;> rfl)), (zH1 GE904.out)⟩
       · rw [if_neg c9] at H
         exact absurd H (by simp)
     · rw [if_neg c8] at H
       exact absurd H (by simp)
   · rw [if_neg c7] at H
     exact absurd H (by simp)
 · rw [if_neg c5] at H
   have c5b0 : decide ((wrap64 (a2 + 1)) < (l1.length : Int)) = false := decide_eq_false c5
   clear c5
   by_cases c11 : 0 ≤ a3
   · rw [if_pos c11] at H
     have c11b0 : decide (0 ≤ a3) = true := decide_eq_true c11
     clear c11
     by_cases c12 : a3 < (l0_0.length : Int)
     · rw [if_pos c12] at H
       have c12b0 : decide (a3 < (l0_0.length : Int)) = true := decide_eq_true c12
       clear c12
       obtain rfl := Option.some.inj H
       go_enter Try.func129, Try.ntmps129
       go_wp2_with (first | ((with_reducible refine gate_dst (N := 4) rfl ?_); refine box_event ?hg (N := 4) ?hd (cs := #[.slice A0_0 l0_0.length c0_0, .slice A0_1 l0_1.length c0_1, .slice A0_2 l0_2.length c0_2]) (t := 26) ?hr ?_; (case hd => rfl); (case hg => rfl); (case hr => first | (go_simp; done) | (go_simp; rfl)); intro gb904 hg w13 hbox hb; have BK904 := Aside0.mk (hbox); have GW904 := Aside0.mk ((z6 : w.heap.size ≤ gb904)); have GE904 := Aside0.mk ((z6 : w.heap.size ≤ gb904)); replace HB := zs0 hb; clear hb hbox hg; obtain ⟨hcz14_0, hcz14_1, hcz14_2, hfz14_0, hfz14_1, hfz14_2⟩ := zc3 BK904.out; have p907 : 0 ≤ (a3 : Int) := of_decide_eq_true z1; have q907 : a3 < (l0_0.length : Int) := of_decide_eq_true z1; obtain ⟨ad907, e907, hx907_0⟩ := Kd.at_int HR0_0.out a3 p907 q907; cases e907; replace hx907_0 := (HB.out.cell (World.block_lt_of_cell? w _ hx907_0)).trans hx907_0; replace p907 := eq_true p907; replace q907 := eq_true q907))
       go_ret
       exact ⟨z5, (zH1 GE904.out)⟩
     · rw [if_neg c12] at H
       exact absurd H (by simp)
   · rw [if_neg c11] at H
     exact absurd H (by simp)
mutual
def spec_l7Stocks.l0 : Nat → List (List Int) → List (List Int) → Int → List Int → List Int → List Int → Option ((List (List Int)))
 | 0, _, _, _, _, _, _ => none
 | k + 1, x1, x5, x6, x909000, x909001, x909002 => if x6 < (x1.length : Int) then (spec_l7Stocks.l1 k x1 x5 x6 (([] : List Int)) 0 0 x909000 x909001 x909002) else (some x5)
def spec_l7Stocks.l1 : Nat → List (List Int) → List (List Int) → Int → List Int → Int → Int → List Int → List Int → List Int → Option ((List (List Int)))
 | 0, _, _, _, _, _, _, _, _, _ => none
 | k + 1, x1, x5, x6, x7, x8, x9, x909000, x909001, x909002 => if x9 < (x909000.length : Int) then (if 0 ≤ x6 then (if x6 < (x1.length : Int) then (if 0 ≤ x9 then (if x9 < ((rd_L2 x1 x6).length : Int) then ((spec_l7Out.f x909000 x909001 x909002 x1 x6 x9).bind fun t917 => (if x7.length < 17592186044416 then (spec_l7Stocks.l1 k x1 x5 x6 (x7 ++ [wrap64 ((wrap64 (x8 + (rd (rd_L2 x1 x6) x9))) - t917)]) (wrap64 ((wrap64 (x8 + (rd (rd_L2 x1 x6) x9))) - t917)) (wrap64 (x9 + 1)) x909000 x909001 x909002) else (none))) else (none)) else (none)) else (none)) else (none)) else (if x5.length < 5864062014805 then (spec_l7Stocks.l0 k x1 (x5 ++ [x7]) (wrap64 (x6 + 1)) x909000 x909001 x909002) else (none))
end
def spec_l7Stocks.f (k : Nat) (l0_0 : List Int) (l0_1 : List Int) (l0_2 : List Int) (l1 : List (List Int)) : Option ((List (List Int))) := spec_l7Stocks.l0 k l1 (([] : List (List Int))) 0 l0_0 l0_1 l0_2
def spec_l7Stocks.T10 : Bool × List (List Nat × List Nat) := (true, [([], []), ([], []), ([], []), ([1, 2], [1, 2]), ([3], [3]), ([], []), ([4, 5], [4, 5]), ([6], [6]), ([0, 7], [0, 7]), ([], []), ([], []), ([], []), ([], []), ([9, 10, 11, 12], [9, 10, 11, 12]), ([8, 13], [8, 13]), ([14, 13, 0, 1, 2, 3, 4, 5, 6, 7, 8, 9, 10, 11, 12, 13, 14], [0, 14])])
def spec_l7Stocks.B10 : List Nat := [0, 0, 0, 6, 14, 0, 62, 126, 255, 0, 0, 0, 0, 7680, 16383, 32767]
theorem spec_l7Stocks.tab10 : rtab .any (opsOf Try.f102 10) = spec_l7Stocks.T10 := by kernel_rfl
theorem spec_l7Stocks.bits10 : waitsOk spec_l7Stocks.T10.2 spec_l7Stocks.B10 = true := by kernel_rfl
set_option maxHeartbeats 8000000 in
set_option maxRecDepth 100000 in
theorem spec_l7Stocks.calls (k : Nat) (A0_0 : Option Addr) (c0_0 : Nat) (l0_0 : List Int) (A0_1 : Option Addr) (c0_1 : Nat) (l0_1 : List Int) (A0_2 : Option Addr) (c0_2 : Nat) (l0_2 : List Int) (A1 : Option Addr) (c1 : Nat) (l1 : List (List Int)) (r : List (List Int)) (w : World) (hr0_0 : Kd.C (Kd.int .i64) w A0_0 l0_0.length l0_0) (hc0_0 : l0_0.length ≤ c0_0) (hr0_1 : Kd.C (Kd.int .i64) w A0_1 l0_1.length l0_1) (hc0_1 : l0_1.length ≤ c0_1) (hr0_2 : Kd.C (Kd.int .i64) w A0_2 l0_2.length l0_2) (hc0_2 : l0_2.length ≤ c0_2) (hr1 : Kd.C (Kd.slice 3 (Kd.int .i64)) w A1 l1.length l1) (hc1 : l1.length ≤ c1) (h : spec_l7Stocks.f k l0_0 l0_1 l0_2 l1 = some r) :
 Calls Try.prog 102 #[.agg #[.slice A0_0 l0_0.length c0_0, .slice A0_1 l0_1.length c0_1, .slice A0_2 l0_2.length c0_2], .slice A1 l1.length c1] w fun e w' => ∃ v0_ : Value, e = .returned (v0_) ∧ Kd.S (Kd.slice 3 (Kd.int .i64)) 24 w' w.heap.size (fun _ => True) v0_ r ∧ Below w.heap.size w w' := by
 have hu26 := Try.underlying26
 have HR0_0 := Aside0.mk hr0_0
 have HC0_0 := Aside0.mk hc0_0
 clear hr0_0 hc0_0
 have HR0_1 := Aside0.mk hr0_1
 have HC0_1 := Aside0.mk hc0_1
 clear hr0_1 hc0_1
 have HR0_2 := Aside0.mk hr0_2
 have HC0_2 := Aside0.mk hc0_2
 clear hr0_2 hc0_2
 have HR1 := Aside0.mk hr1
 have HC1 := Aside0.mk hc1
 clear hr1 hc1
 have HB := Aside0.mk (Below.refl w.heap.size w)
 have H : (spec_l7Stocks.l0 k l1 (([] : List (List Int))) 0 l0_0 l0_1 l0_2) = some r := h
 clear h
 obtain ⟨y909, hy909⟩ : ∃ y_ : List (List Int), y_ = (([] : List (List Int))) := ⟨_, rfl⟩
 replace H : (spec_l7Stocks.l0 k l1 y909 0 l0_0 l0_1 l0_2) = some r := zY hy909
 have Ny909 := Aside0.mk hy909
 clear hy909
 have H' := Aside0.mk H
 clear H
 go_enter Try.func102, Try.ntmps102
 go_wp2_with (first | ((with_reducible refine gate_dst (N := 2) rfl ?_); refine box_event ?hg (N := 2) ?hd (cs := #[.slice A0_0 l0_0.length c0_0, .slice A0_1 l0_1.length c0_1, .slice A0_2 l0_2.length c0_2]) (t := 26) ?hr ?_; (case hd => rfl); (case hg => rfl); (case hr => first | (go_simp; done) | (go_simp; rfl)); intro gb908 hg w3 hbox hb; have BK908 := Aside0.mk (hbox); have GW908 := Aside0.mk ((z6 : w.heap.size ≤ gb908)); have GE908 := Aside0.mk ((z6 : w.heap.size ≤ gb908)); replace HB := zs0 hb; clear hb hbox hg) | ((with_reducible refine gate_dst (N := 10) rfl ?_); refine Kd.S_lit (Kd.slice 3 (Kd.int .i64)) _ 24 ?hg (N := 10) ?hd (xs := ([] : List (List Int))) (inner := []) (ok := fun _ => True) (okp := fun _ => True) ?hr ?hp (fun _ hk => hk) trivial (Below.refl _ _) (Nat.le_refl _) (by simp) ?_; (case hd => rfl); (case hg => rfl); (case hr => first | (go_simp; done) | (go_simp; rfl)); (case hp => exact (Reps.none _ _)); intro v910 w4 ho5 hb hg_ hnew_; clear hg_ hnew_; (first | rw [← Ny909.out] at ho5 | (simp only [Int.reduceToNat] at ho5; rw [← Ny909.out] at ho5)); have HO911 := Aside0.mk (Kd.S_lower ho5 (below_size (zH1 GE908.out))); replace BK908 := zb BK908 hb; replace HB := zs1 GE908.out hb; clear hb ho5))
 go_loopg [5, 6] k (fun kq v5 v6 w' => ∃ (x5_1 : List (List Int)) (x6_1 : Int), v6 = .int .i64 x6_1 ∧ Aside0 (spec_l7Stocks.l0 kq l1 x5_1 x6_1 l0_0 l0_1 l0_2 = some r) ∧ Aside0 (kq ≤ k) ∧ Aside0 (Kd.S (Kd.slice 3 (Kd.int .i64)) 24 w' w.heap.size (fun _ => True) v5 x5_1) ∧ Aside0 (w'.heap[gb908]? = some (.cells #[(.slice A0_0 l0_0.length c0_0), (.slice A0_1 l0_1.length c0_1), (.slice A0_2 l0_2.length c0_2)] 26 (0, 0))) ∧ Aside0 (Below w.heap.size w w'))
 case atStart => exact ⟨(y909), (0), z3, H', ⟨Nat.le_refl _⟩, ⟨(zS HO911.out)⟩, ⟨(zB BK908.out)⟩, ⟨(zH1 GE908.out)⟩⟩
 case round =>
  clear H'
  try clear c1
  try clear p2
  obtain ⟨x5_1, x6_1, rfl, HA, HK1, HO_5, BK908, HB⟩ := hrel
  cases gk with
  | zero => exact absurd HA.out (by simp [spec_l7Stocks.l0])
  | succ k1 =>
   have H := HA.out
   clear HA
   simp only [spec_l7Stocks.l0] at H
   by_cases c6 : x6_1 < (l1.length : Int)
   · rw [if_pos c6] at H
     have c6b0 : decide (x6_1 < (l1.length : Int)) = true := decide_eq_true c6
     clear c6
     obtain ⟨y912, hy912⟩ : ∃ y_ : List Int, y_ = (([] : List Int)) := ⟨_, rfl⟩
     replace H : (spec_l7Stocks.l1 k1 l1 x5_1 x6_1 y912 0 0 l0_0 l0_1 l0_2) = some r := zY hy912
     have Ny912 := Aside0.mk hy912
     clear hy912
     have H' := Aside0.mk H
     clear H
     go_wp2_with (first | ((with_reducible refine gate_dst (N := 17) rfl ?_); refine Kd.R_lit (Kd.int .i64) _ 3 ?hg (N := 17) ?hd (xs := ([] : List Int)) (inner := []) (ok := fun _ => True) (okp := fun _ => True) ?hr ?hp (fun _ hk => hk) trivial (Below.refl _ _) (Nat.le_refl _) (by simp) ?_; (case hd => rfl); (case hg => rfl); (case hr => first | (go_simp; done) | (go_simp; rfl)); (case hp => exact (Reps.none _ _)); intro v913 w7 ho8 hb hg_ hnew_; clear hg_ hnew_; (first | rw [← Ny912.out] at ho8 | (simp only [Int.reduceToNat] at ho8; rw [← Ny912.out] at ho8)); have HO914 := Aside0.mk (Kd.R_lower ho8 (below_size (zH1 GE908.out))); replace HO_5 := zSe HO_5 (Kd.R_base ho8) hb; replace BK908 := zb BK908 hb; replace HB := zs1 GE908.out hb; clear hb ho8))
     go_loopg [7, 8, 9] k1 (fun kq v7 v8 v9 w' => ∃ (x7_2 : List Int) (x8_2 : Int) (x9_2 : Int), v8 = .int .i64 x8_2 ∧ v9 = .int .i64 x9_2 ∧ Aside0 (spec_l7Stocks.l1 kq l1 x5_1 x6_1 x7_2 x8_2 x9_2 l0_0 l0_1 l0_2 = some r) ∧ Aside0 (kq ≤ k1) ∧ Aside0 (Kd.S (Kd.slice 3 (Kd.int .i64)) 24 w' w.heap.size (fun k_ => some k_ ≠ (v7 : Value).ownBlock) u5 x5_1) ∧ Aside0 (Kd.R (Kd.int .i64) 3 w' w.heap.size (fun _ => True) v7 x7_2) ∧ Aside0 (w'.heap[gb908]? = some (.cells #[(.slice A0_0 l0_0.length c0_0), (.slice A0_1 l0_1.length c0_1), (.slice A0_2 l0_2.length c0_2)] 26 (0, 0))) ∧ Aside0 (Below w.heap.size w w'))
     case atStart => exact ⟨(y912), (0), (0), z3, z3, H', ⟨Nat.le_refl _⟩, ⟨(by (with_reducible repeat (first | apply Kd.S_alloc | apply Kd.S_drewN | apply Kd.S_drew)); exact Kd.S_mono HO_5.out (fun _ hk => hk.2))⟩, ⟨(zR HO914.out)⟩, ⟨(zB BK908.out)⟩, ⟨(zH1 GE908.out)⟩⟩
     case round =>
      clear H'
      try clear c1
      try clear p2
      try clear c6
      try clear c6b0
      try clear p2
      obtain ⟨x7_2, x8_2, x9_2, rfl, rfl, HA, HK2, HO_5, HO_7, BK908, HB⟩ := hrel
      cases gk with
      | zero => exact absurd HA.out (by simp [spec_l7Stocks.l1])
      | succ k2 =>
       have H := HA.out
       clear HA
       simp only [spec_l7Stocks.l1] at H
       by_cases c9 : x9_2 < (l0_0.length : Int)
       · rw [if_pos c9] at H
         have c9b0 : decide (x9_2 < (l0_0.length : Int)) = true := decide_eq_true c9
         clear c9
         by_cases c10 : 0 ≤ x6_1
         · rw [if_pos c10] at H
           have c10b0 : decide (0 ≤ x6_1) = true := decide_eq_true c10
           clear c10
           by_cases c11 : x6_1 < (l1.length : Int)
           · rw [if_pos c11] at H
             have c11b0 : decide (x6_1 < (l1.length : Int)) = true := decide_eq_true c11
             clear c11
             by_cases c12 : 0 ≤ x9_2
             · rw [if_pos c12] at H
               have c12b0 : decide (0 ≤ x9_2) = true := decide_eq_true c12
               clear c12
               by_cases c13 : x9_2 < ((rd_L2 l1 x6_1).length : Int)
               · rw [if_pos c13] at H
                 have c13b0 : decide (x9_2 < ((rd_L2 l1 x6_1).length : Int)) = true := decide_eq_true c13
                 clear c13
                 replace H := Option.bind_eq_some_iff.mp H
                 obtain ⟨t917, A140, H⟩ := H
                 replace H : (if x7_2.length < 17592186044416 then (spec_l7Stocks.l1 k2 l1 x5_1 x6_1 (x7_2 ++ [wrap64 ((wrap64 (x8_2 + (rd (rd_L2 l1 x6_1) x9_2))) - t917)]) (wrap64 ((wrap64 (x8_2 + (rd (rd_L2 l1 x6_1) x9_2))) - t917)) (wrap64 (x9_2 + 1)) l0_0 l0_1 l0_2) else (none)) = some r := H
                 have A14 := Aside0.mk A140
                 clear A140
                 by_cases c15 : x7_2.length < 17592186044416
                 · rw [if_pos c15] at H
                   have LMc15 := Aside0.mk c15
                   clear c15
                   obtain ⟨y918, hy918⟩ : ∃ y_ : List Int, y_ = (x7_2 ++ [wrap64 ((wrap64 (x8_2 + (rd (rd_L2 l1 x6_1) x9_2))) - t917)]) := ⟨_, rfl⟩
                   replace H : (spec_l7Stocks.l1 k2 l1 x5_1 x6_1 y918 (wrap64 ((wrap64 (x8_2 + (rd (rd_L2 l1 x6_1) x9_2))) - t917)) (wrap64 (x9_2 + 1)) l0_0 l0_1 l0_2) = some r := zY hy918
                   have Ny918 := Aside0.mk hy918
                   clear hy918
                   have H' := Aside0.mk H
                   clear H
                   obtain ⟨hcz16_0, hcz16_1, hcz16_2, hfz16_0, hfz16_1, hfz16_2⟩ := zc3 BK908.out
                   try go_wp2
                   replace HO_5 := Aside0.mk (Kd.S_drew HO_5.out)
                   replace HO_7 := Aside0.mk (Kd.R_drew HO_7.out)
                   replace BK908 := Aside0.mk (blk_drew BK908.out)
                   replace HB := Aside0.mk (below_drew1 HB.out)
                   have p915 : 0 ≤ (x6_1 : Int) := of_decide_eq_true z1
                   have q915 : x6_1 < (l1.length : Int) := of_decide_eq_true z1
                   obtain ⟨ad915, A915_0, c915_0, e915, hx915_0, hl915_0, hi915_0⟩ := at_L2 HR1.out x6_1 p915 q915
                   have hw915_0 := hx915_0
                   cases e915
                   replace hx915_0 := (HB.out.cell (World.block_lt_of_cell? w _ hx915_0)).trans hx915_0
                   have HR915_0 := Aside0.mk hi915_0
                   have HC915_0 := Aside0.mk hl915_0
                   clear hi915_0 hl915_0
                   replace p915 := eq_true p915
                   replace q915 := eq_true q915
                   have p916 : 0 ≤ (x9_2 : Int) := of_decide_eq_true z1
                   have q916 : x9_2 < ((rd_L2 l1 x6_1).length : Int) := of_decide_eq_true z1
                   obtain ⟨ad916, e916, hx916_0⟩ := Kd.at_int HR915_0.out x9_2 p916 q916
                   have hw916_0 := hx916_0
                   cases e916
                   replace hx916_0 := (HB.out.cell (World.block_lt_of_cell? w _ hx916_0)).trans hx916_0
                   replace p916 := eq_true p916
                   replace q916 := eq_true q916
                   refine start_ (n := 16) (S := fun w' => w'.cell? ⟨gb908, 0, none⟩ = some (.slice A0_0 l0_0.length c0_0) ∧ w'.cell? ⟨gb908, 1, none⟩ = some (.slice A0_1 l0_1.length c0_1) ∧ w'.cell? ⟨gb908, 2, none⟩ = some (.slice A0_2 l0_2.length c0_2) ∧ w'.cell? (ad915.add (x6_1).toNat) = some (.slice (some ad916) (rd_L2 l1 x6_1).length c915_0) ∧ w'.cell? (ad916.add (x9_2).toNat) = some (.int .i64 (rd (rd_L2 l1 x6_1) x9_2))) (ds := []) #[false, false, false, false, false, false, false, false, false, false, false, false, false, false, false, false] (by kernel_rfl) rfl rfl ⟨(blk_cell BK908.out 0).trans rfl, (blk_cell BK908.out 1).trans rfl, (blk_cell BK908.out 2).trans rfl, ((HB.out.cell (World.block_lt_of_cell? w _ hw915_0)).trans hw915_0), ((HB.out.cell (World.block_lt_of_cell? w _ hw916_0)).trans hw916_0)⟩ (fun hHeld => ?_); refine with_tabW spec_l7Stocks.tab10 spec_l7Stocks.bits10 (fun HT_ HW_ => ?_)
                   generalize wr.drew = w17 at HO_5 HO_7 BK908 HB HR915_0 hx915_0 hx916_0 hHeld ⊢
                   refine zP (i := 0) (N := some 25) #[true, false, false, false, false, false, false, false, false, false, false, false, false, false, false, false] (any_of HT_.out (by kernel_rfl)) ?_
                   refine zP (i := 1) (N := some 26) #[true, true, false, false, false, false, false, false, false, false, false, false, false, false, false, false] (any_of HT_.out (by kernel_rfl)) ?_
                   refine zP (i := 2) (N := some 27) #[true, true, true, false, false, false, false, false, false, false, false, false, false, false, false, false] (any_of HT_.out (by kernel_rfl)) ?_
                   refine zP (i := 3) (N := some 28) #[true, true, true, true, false, false, false, false, false, false, false, false, false, false, false, false] (any_of HT_.out (by kernel_rfl)) ?_
                   refine zP (i := 5) (N := some 30) #[true, true, true, true, false, true, false, false, false, false, false, false, false, false, false, false] (any_of HT_.out (by kernel_rfl)) ?_
                   refine zP (i := 10) (N := some 35) #[true, true, true, true, false, true, false, false, false, false, true, false, false, false, false, false] (any_of HT_.out (by kernel_rfl)) ?_
                   refine zP (i := 11) (N := some 36) #[true, true, true, true, false, true, false, false, false, false, true, true, false, false, false, false] (any_of HT_.out (by kernel_rfl)) ?_
                   refine zP (i := 12) (N := some 37) #[true, true, true, true, false, true, false, false, false, false, true, true, true, false, false, false] (any_of HT_.out (by kernel_rfl)) ?_
                   refine take_ (i := 4) (N := some 29) (v := ?_) (a' := ?_) #[true, true, true, true, true, true, false, false, false, false, true, true, true, false, false, false] rfl rfl (take_ofW HT_.out HW_.out (by kernel_rfl)) (fun _ _ _ h => h) (Or.inl ⟨(by rfl), ?_⟩) hHeld ?_ ?_
                   rotate_left
                   · rintro w' ⟨s0, s1, s2, s3, s4⟩
                     go_simp
                     with_reducible rfl
                   rotate_left
                   · simp only [Act.put, List.setIfInBounds_toArray, List.set_cons_zero, List.set_cons_succ, i64_w, i32_w]
                     rfl
                   refine zP (i := 6) (N := some 31) #[true, true, true, true, true, true, true, false, false, false, true, true, true, false, false, false] (any_of HT_.out (by kernel_rfl)) ?_
                   refine take_ (i := 7) (N := some 32) (v := ?_) (a' := ?_) #[true, true, true, true, true, true, true, true, false, false, true, true, true, false, false, false] rfl rfl (take_ofW HT_.out HW_.out (by kernel_rfl)) (fun _ _ _ h => h) (Or.inl ⟨(by rfl), ?_⟩) hHeld ?_ ?_
                   rotate_left
                   · rintro w' ⟨s0, s1, s2, s3, s4⟩
                     go_simp
                     with_reducible rfl
                   rotate_left
                   · simp only [Act.put, List.setIfInBounds_toArray, List.set_cons_zero, List.set_cons_succ, i64_w, i32_w]
                     rfl
                   refine zP (i := 8) (N := some 33) #[true, true, true, true, true, true, true, true, true, false, true, true, true, false, false, false] (any_of HT_.out (by kernel_rfl)) ?_
                   refine take_ (i := 9) (N := some 34) (v := ?_) (a' := ?_) #[true, true, true, true, true, true, true, true, true, true, true, true, true, false, false, false] rfl rfl (take_ofW HT_.out HW_.out (by kernel_rfl)) (fun _ _ _ h => h) (Or.inl ⟨(by rfl), ?_⟩) hHeld ?_ ?_
                   rotate_left
                   · rintro w' ⟨s0, s1, s2, s3, s4⟩
                     go_simp
                     with_reducible rfl
                   rotate_left
                   · simp only [Act.put, List.setIfInBounds_toArray, List.set_cons_zero, List.set_cons_succ, i64_w, i32_w]
                     rfl
                   refine one_ (i := 13) (N := some 38) #[true, true, true, true, true, true, true, true, true, true, true, true, true, true, false, false] rfl rfl (one_of HT_.out (by kernel_rfl)) (by decide) (fun K hK => ?_)
                   refine goes_ Try.func129 (by kernel_rfl) rfl #[.agg #[.slice A0_0 l0_0.length c0_0, .slice A0_1 l0_1.length c0_1, .slice A0_2 l0_2.length c0_2], .slice (some ad915) l1.length c1, .int .i64 x6_1, .int .i64 x9_2] (by rfl) rfl rfl z2 ?_
                   with_reducible refine (spec_l7Out.calls _ _ l0_0 _ _ l0_1 _ _ l0_2 _ _ l1 x6_1 x9_2 t917 _ ?side1 ?side2 ?side3 ?side4 ?side5 ?side6 ?side7 ?side8 A14.out).mono ?_
                   (case side1 => exact zC (Kd.C_below HR0_0.out HB.out))
                   (case side2 => exact HC0_0.out)
                   (case side3 => exact zC (Kd.C_below HR0_1.out HB.out))
                   (case side4 => exact HC0_1.out)
                   (case side5 => exact zC (Kd.C_below HR0_2.out HB.out))
                   (case side6 => exact HC0_2.out)
                   (case side7 => exact zC (Kd.C_below HR1.out HB.out))
                   (case side8 => exact HC1.out)
                   rintro e w18 ⟨rfl, hb⟩
                   refine ⟨_, rfl, ?_⟩
                   replace HO_5 := zSb HO_5 hb
                   replace HO_7 := zRb HO_7 hb
                   replace BK908 := zb BK908 hb
                   replace HB := zs1 GE908.out hb
                   (try clear hb)
                   (try clear hb2)
                   (try clear hk)
                   (try clear hi)
                   refine hK.out _ _ ⟨(blk_cell BK908.out 0).trans rfl, (blk_cell BK908.out 1).trans rfl, (blk_cell BK908.out 2).trans rfl, ((HB.out.cell (World.block_lt_of_cell? w _ hw915_0)).trans hw915_0), ((HB.out.cell (World.block_lt_of_cell? w _ hw916_0)).trans hw916_0)⟩ (fun hHeld => ?_)
                   clear hK K
                   refine zU (some 38) ?_
                   refine zP (i := 14) (N := some 39) #[true, true, true, true, true, true, true, true, true, true, true, true, true, true, true, false] (any_of HT_.out (by kernel_rfl)) ?_
                   refine zP (i := 15) (N := some 8) #[true, true, true, true, true, true, true, true, true, true, true, true, true, true, true, true] (any_of HT_.out (by kernel_rfl)) ?_
                   refine done_ (done_of HT_.out (by kernel_rfl)) ?_
                   try go_wp2_with (first | ((with_reducible refine gate_builtin (b := .append) (xs := #[.tmp 40, .tmp 42]) rfl ?_); at_builtin; refine Kd.R_append (Kd.int .i64) (w0 := w) w.heap.size rfl (.tmp 40) (.tmp 42) 24 3 (.int .i64 0) 8 rfl Try.underlying24 info3 rfl (by decide) (by omega) u7 x7_2 (wrap64 ((wrap64 (x8_2 + (rd (rd_L2 l1 x6_1) x9_2))) - t917)) [.int .i64 (wrap64 ((wrap64 (x8_2 + (rd (rd_L2 l1 x6_1) x9_2))) - t917))] (fun _ => True) (fun _ => False) rfl rfl ?aP (fun _ hk => hk.elim) ?aF ?aO ?aB ?aS ?aL ?_; (case aP => exact rfl); (case aB => exact (zH1 GE908.out)); (case aF => exact (fun _ _ => trivial)); (case aO => exact (zR HO_7.out)); (case aS => exact (below_size (zH1 GE908.out))); (case aL => have := LMc15.out; omega); intro v919 w19 ho hb hg hat; rw [← Ny918.out] at ho; have HO920 := Aside0.mk (ho); replace HO_5 := Aside0.mk (Kd.S_after (ok := (fun _ => True)) (by (with_reducible repeat (first | apply Kd.S_alloc | apply Kd.S_drewN | apply Kd.S_drew)); exact Kd.S_mono HO_5.out (fun _ hk => ⟨trivial, hk⟩)) hg hat); replace BK908 := Aside0.mk (blk_grown (g := gb908) (o := .cells #[.slice A0_0 l0_0.length c0_0, .slice A0_1 l0_1.length c0_1, .slice A0_2 l0_2.length c0_2] 26 (0, 0)) (zB BK908.out) hg (Kd.R_ne HO_7.out BK908.out (by decide))); replace HB := Aside0.mk (hb); clear HO_7; clear ho hb hg hat))
                   go_roundg k2
                   case measure => have := HK1.out; have := HK2.out; omega
                   case rel => exact ⟨(y918), (wrap64 ((wrap64 (x8_2 + (rd (rd_L2 l1 x6_1) x9_2))) - t917)), (wrap64 (x9_2 + 1)), z3, z3, H', ⟨z32⟩, ⟨(by (with_reducible repeat (first | apply Kd.S_alloc | apply Kd.S_drewN | apply Kd.S_drew)); exact Kd.S_mono HO_5.out (fun _ hk => hk.2))⟩, ⟨(zR HO920.out)⟩, ⟨(zB BK908.out)⟩, ⟨(zH1 GE908.out)⟩⟩
                 · rw [if_neg c15] at H
                   exact absurd H (by simp)
               · rw [if_neg c13] at H
                 exact absurd H (by simp)
             · rw [if_neg c12] at H
               exact absurd H (by simp)
           · rw [if_neg c11] at H
             exact absurd H (by simp)
         · rw [if_neg c10] at H
           exact absurd H (by simp)
       · rw [if_neg c9] at H
         have c9b0 : decide (x9_2 < (l0_0.length : Int)) = false := decide_eq_false c9
         clear c9
         by_cases c20 : x5_1.length < 5864062014805
         · rw [if_pos c20] at H
           have LMc20 := Aside0.mk c20
           clear c20
           obtain ⟨y921, hy921⟩ : ∃ y_ : List (List Int), y_ = (x5_1 ++ [x7_2]) := ⟨_, rfl⟩
           replace H : (spec_l7Stocks.l0 k2 l1 y921 (wrap64 (x6_1 + 1)) l0_0 l0_1 l0_2) = some r := zY hy921
           have Ny921 := Aside0.mk hy921
           clear hy921
           have H' := Aside0.mk H
           clear H
           obtain ⟨hcz21_0, hcz21_1, hcz21_2, hfz21_0, hfz21_1, hfz21_2⟩ := zc3 BK908.out
           obtain ⟨Ao23, co23, eo23⟩ := Kd.R_slice HO_7.out
           subst eo23
           go_wp2_with (first | ((with_reducible refine gate_builtin (b := .append) (xs := #[.tmp 44, .tmp 46]) rfl ?_); at_builtin; refine Kd.S_append (Kd.slice 3 (Kd.int .i64)) (w0 := w) w.heap.size rfl (.tmp 44) (.tmp 46) 27 24 (.slice none 0 0) 24 rfl Try.underlying27 info24 rfl (by decide) (by omega) u5 x5_1 x7_2 [.slice Ao23 x7_2.length co23] (fun _ => True) (fun k_ => some k_ = (.slice Ao23 x7_2.length co23 : Value).ownBlock) rfl rfl ?aP (fun k_ hk_ => ((Kd.R_mono (ok' := fun k_ => ((fun _ => True)) k_ ∧ some k_ ≠ (u5 : Value).ownBlock) (Kd.R_apart' (HO_7.out) (Kd.S_typed HO_5.out) (by decide)) (fun k_ hk => ⟨trivial, hk.2⟩))).1 k_ hk_.symm) ?aF ?aO ?aB ?aS ?aL ?_; (case aP => exact Kd.M_row (Kd.R_mono (Kd.R_tight rfl (Kd.R_mono (ok' := fun k_ => ((fun _ => True)) k_ ∧ some k_ ≠ (u5 : Value).ownBlock) (Kd.R_apart' (HO_7.out) (Kd.S_typed HO_5.out) (by decide)) (fun k_ hk => ⟨trivial, hk.2⟩))) (fun _ h_ => h_))); (case aB => exact (zH1 GE908.out)); (case aF => exact (fun _ _ => trivial)); (case aO => exact (by (with_reducible repeat (first | apply Kd.S_alloc | apply Kd.S_drewN | apply Kd.S_drew)); exact Kd.S_mono HO_5.out (fun k_ hk => ⟨trivial, fun e_ => hk e_⟩))); (case aS => exact (below_size (zH1 GE908.out))); (case aL => have := LMc20.out; omega); intro v922 w22 ho hb hg hat; rw [← Ny921.out] at ho; have HO923 := Aside0.mk (ho); replace BK908 := Aside0.mk (blk_grown (g := gb908) (o := .cells #[.slice A0_0 l0_0.length c0_0, .slice A0_1 l0_1.length c0_1, .slice A0_2 l0_2.length c0_2] 26 (0, 0)) (zB BK908.out) hg (Kd.S_ne HO_5.out BK908.out (by decide))); replace HB := Aside0.mk (hb); clear HO_5 HO_7; clear ho hb hg hat))
           go_roundg k2
           case measure => have := HK1.out; have := HK2.out; omega
           case rel => exact ⟨(y921), (wrap64 (x6_1 + 1)), z3, H', ⟨z32⟩, ⟨(zS HO923.out)⟩, ⟨(zB BK908.out)⟩, ⟨(zH1 GE908.out)⟩⟩
         · rw [if_neg c20] at H
           exact absurd H (by simp)
   · rw [if_neg c6] at H
     have c6b0 : decide (x6_1 < (l1.length : Int)) = false := decide_eq_false c6
     clear c6
     obtain rfl := Option.some.inj H
     go_wp2
     go_ret
     exact ⟨_, z5, (zS HO_5.out), (zH1 GE908.out)⟩
end Go.Proofs.Ythlmmcmpllgflaa.P
