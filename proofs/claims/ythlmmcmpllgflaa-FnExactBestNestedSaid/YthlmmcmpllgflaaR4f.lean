/- The law FnExactBestNested: for every chain the program and the reference find the same nested order periods, which leave the arguments as they are and share no memory; no condition. -/
import Derived.Test.YthlmmcmpllgflaaR4e
namespace Go.Proofs.Ythlmmcmpllgflaa.P
open Go.RowKit Go.Proofs.YthlmmcmpllgflaaW.PrintWords Go.Proofs.YthlmmcmpllgflaaW.PrintLast Go.Proofs.YthlmmcmpllgflaaW.PrintMore
attribute [local go_sem] max2_int min2_int max_two min_two max_three min_three max_four min_four
set_option linter.unusedVariables false
set_option linter.unusedSimpArgs false
mutual
def spec_l7Cost.l0 : Nat → List (List Int) → Int → List (List Int) → Int → List Int → List Int → List Int → Option (Int)
 | 0, _, _, _, _, _, _, _ => none
 | k + 1, x1, x5, x6, x7, x925000, x925001, x925002 => if x7 < (x1.length : Int) then (spec_l7Cost.l1 k x1 x5 x6 x7 0 x925000 x925001 x925002) else (some x5)
def spec_l7Cost.l1 : Nat → List (List Int) → Int → List (List Int) → Int → Int → List Int → List Int → List Int → Option (Int)
 | 0, _, _, _, _, _, _, _, _ => none
 | k + 1, x1, x5, x6, x7, x8, x925000, x925001, x925002 => if x8 < (x925000.length : Int) then (if 0 ≤ x7 then (if x7 < (x925002.length : Int) then (if x7 < (x6.length : Int) then (if 0 ≤ x8 then (if x8 < ((rd_L2 x6 x7).length : Int) then (if x7 < (x1.length : Int) then (if x8 < ((rd_L2 x1 x7).length : Int) then (if (rd (rd_L2 x1 x7) x8) > 0 then (if x7 < (x925001.length : Int) then (spec_l7Cost.l1 k x1 (wrap64 ((wrap64 (x5 + (wrap64 ((rd x925002 x7) * (rd (rd_L2 x6 x7) x8))))) + (rd x925001 x7))) x6 x7 (wrap64 (x8 + 1)) x925000 x925001 x925002) else (none)) else (spec_l7Cost.l1 k x1 (wrap64 (x5 + (wrap64 ((rd x925002 x7) * (rd (rd_L2 x6 x7) x8))))) x6 x7 (wrap64 (x8 + 1)) x925000 x925001 x925002)) else (none)) else (none)) else (none)) else (none)) else (none)) else (none)) else (none)) else (spec_l7Cost.l0 k x1 x5 x6 (wrap64 (x7 + 1)) x925000 x925001 x925002)
end
def spec_l7Cost.f (k : Nat) (l0_0 : List Int) (l0_1 : List Int) (l0_2 : List Int) (l1 : List (List Int)) : Option (Int) := (spec_l7Stocks.f k l0_0 l0_1 l0_2 l1).bind fun t925 => (spec_l7Cost.l0 k l1 0 t925 0 l0_0 l0_1 l0_2)
set_option maxHeartbeats 8000000 in
set_option maxRecDepth 100000 in
theorem spec_l7Cost.calls (k : Nat) (A0_0 : Option Addr) (c0_0 : Nat) (l0_0 : List Int) (A0_1 : Option Addr) (c0_1 : Nat) (l0_1 : List Int) (A0_2 : Option Addr) (c0_2 : Nat) (l0_2 : List Int) (A1 : Option Addr) (c1 : Nat) (l1 : List (List Int)) (r : Int) (w : World) (hr0_0 : Kd.C (Kd.int .i64) w A0_0 l0_0.length l0_0) (hc0_0 : l0_0.length ≤ c0_0) (hr0_1 : Kd.C (Kd.int .i64) w A0_1 l0_1.length l0_1) (hc0_1 : l0_1.length ≤ c0_1) (hr0_2 : Kd.C (Kd.int .i64) w A0_2 l0_2.length l0_2) (hc0_2 : l0_2.length ≤ c0_2) (hr1 : Kd.C (Kd.slice 3 (Kd.int .i64)) w A1 l1.length l1) (hc1 : l1.length ≤ c1) (h : spec_l7Cost.f k l0_0 l0_1 l0_2 l1 = some r) :
 Calls Try.prog 101 #[.agg #[.slice A0_0 l0_0.length c0_0, .slice A0_1 l0_1.length c0_1, .slice A0_2 l0_2.length c0_2], .slice A1 l1.length c1] w fun e w' => e = .returned (.int .i64 r) ∧ Below w.heap.size w w' := by
 have hu26 := Try.underlying26
 have HR0_0 := Aside0.mk hr0_0
 have HC0_0 := Aside0.mk hc0_0
 clear hr0_0 hc0_0
 have HR0_1 := Aside0.mk hr0_1
 have HC0_1 := Aside0.mk hc0_1
 clear hr0_1 hc0_1
 have HR0_2 := Aside0.mk hr0_2
 have HC0_2 := Aside0.mk hc0_2
 clear hr0_2 hc0_2
 have HR1 := Aside0.mk hr1
 have HC1 := Aside0.mk hc1
 clear hr1 hc1
 have HB := Aside0.mk (Below.refl w.heap.size w)
 have H : ((spec_l7Stocks.f k l0_0 l0_1 l0_2 l1).bind fun t925 => (spec_l7Cost.l0 k l1 0 t925 0 l0_0 l0_1 l0_2)) = some r := h
 clear h
 replace H := Option.bind_eq_some_iff.mp H
 obtain ⟨t925, A30, H⟩ := H
 replace H : (spec_l7Cost.l0 k l1 0 t925 0 l0_0 l0_1 l0_2) = some r := H
 have A3 := Aside0.mk A30
 clear A30
 have H' := Aside0.mk H
 clear H
 go_enter Try.func101, Try.ntmps101
 go_wp2_with (first | ((with_reducible refine gate_dst (N := 2) rfl ?_); refine box_event ?hg (N := 2) ?hd (cs := #[.slice A0_0 l0_0.length c0_0, .slice A0_1 l0_1.length c0_1, .slice A0_2 l0_2.length c0_2]) (t := 26) ?hr ?_; (case hd => rfl); (case hg => rfl); (case hr => first | (go_simp; done) | (go_simp; rfl)); intro gb924 hg w4 hbox hb; have BK924 := Aside0.mk (hbox); have GW924 := Aside0.mk ((z6 : w.heap.size ≤ gb924)); have GE924 := Aside0.mk ((z6 : w.heap.size ≤ gb924)); replace HB := zs0 hb; clear hb hbox hg; obtain ⟨hcz5_0, hcz5_1, hcz5_2, hfz5_0, hfz5_1, hfz5_2⟩ := zc3 BK924.out) | (go_at_call 102; (with_reducible refine (spec_l7Stocks.calls k _ _ l0_0 _ _ l0_1 _ _ l0_2 _ _ l1 t925 _ ?side1 ?side2 ?side3 ?side4 ?side5 ?side6 ?side7 ?side8 A3.out).mono ?_); (case side1 => exact zC (Kd.C_below HR0_0.out HB.out)); (case side2 => exact HC0_0.out); (case side3 => exact zC (Kd.C_below HR0_1.out HB.out)); (case side4 => exact HC0_1.out); (case side5 => exact zC (Kd.C_below HR0_2.out HB.out)); (case side6 => exact HC0_2.out); (case side7 => exact zC (Kd.C_below HR1.out HB.out)); (case side8 => exact HC1.out); rintro e w6 ⟨v926, rfl, ho0, hb⟩; have HO927 := Aside0.mk (Kd.S_lower ho0 (below_size (zH1 GE924.out))); replace BK924 := zb BK924 hb; replace HB := zs1 GE924.out hb; (try clear hb); (try clear hb2); (try clear hk); (try clear hi); (try clear ho0)))
 repeat (go_quiet (first | ((with_reducible refine gate_dst (N := 2) rfl ?_); refine box_event ?hg (N := 2) ?hd (cs := #[.slice A0_0 l0_0.length c0_0, .slice A0_1 l0_1.length c0_1, .slice A0_2 l0_2.length c0_2]) (t := 26) ?hr ?_; (case hd => rfl); (case hg => rfl); (case hr => first | (go_simp; done) | (go_simp; rfl)); intro gb924 hg w4 hbox hb; have BK924 := Aside0.mk (hbox); have GW924 := Aside0.mk ((z6 : w.heap.size ≤ gb924)); have GE924 := Aside0.mk ((z6 : w.heap.size ≤ gb924)); replace HB := zs0 hb; clear hb hbox hg; obtain ⟨hcz5_0, hcz5_1, hcz5_2, hfz5_0, hfz5_1, hfz5_2⟩ := zc3 BK924.out) | (go_at_call 102; (with_reducible refine (spec_l7Stocks.calls k _ _ l0_0 _ _ l0_1 _ _ l0_2 _ _ l1 t925 _ ?side1 ?side2 ?side3 ?side4 ?side5 ?side6 ?side7 ?side8 A3.out).mono ?_); (case side1 => exact zC (Kd.C_below HR0_0.out HB.out)); (case side2 => exact HC0_0.out); (case side3 => exact zC (Kd.C_below HR0_1.out HB.out)); (case side4 => exact HC0_1.out); (case side5 => exact zC (Kd.C_below HR0_2.out HB.out)); (case side6 => exact HC0_2.out); (case side7 => exact zC (Kd.C_below HR1.out HB.out)); (case side8 => exact HC1.out); rintro e w6 ⟨v926, rfl, ho0, hb⟩; have HO927 := Aside0.mk (Kd.S_lower ho0 (below_size (zH1 GE924.out))); replace BK924 := zb BK924 hb; replace HB := zs1 GE924.out hb; (try clear hb); (try clear hb2); (try clear hk); (try clear hi); (try clear ho0))); try go_wp2_with (first | ((with_reducible refine gate_dst (N := 2) rfl ?_); refine box_event ?hg (N := 2) ?hd (cs := #[.slice A0_0 l0_0.length c0_0, .slice A0_1 l0_1.length c0_1, .slice A0_2 l0_2.length c0_2]) (t := 26) ?hr ?_; (case hd => rfl); (case hg => rfl); (case hr => first | (go_simp; done) | (go_simp; rfl)); intro gb924 hg w4 hbox hb; have BK924 := Aside0.mk (hbox); have GW924 := Aside0.mk ((z6 : w.heap.size ≤ gb924)); have GE924 := Aside0.mk ((z6 : w.heap.size ≤ gb924)); replace HB := zs0 hb; clear hb hbox hg; obtain ⟨hcz5_0, hcz5_1, hcz5_2, hfz5_0, hfz5_1, hfz5_2⟩ := zc3 BK924.out) | (go_at_call 102; (with_reducible refine (spec_l7Stocks.calls k _ _ l0_0 _ _ l0_1 _ _ l0_2 _ _ l1 t925 _ ?side1 ?side2 ?side3 ?side4 ?side5 ?side6 ?side7 ?side8 A3.out).mono ?_); (case side1 => exact zC (Kd.C_below HR0_0.out HB.out)); (case side2 => exact HC0_0.out); (case side3 => exact zC (Kd.C_below HR0_1.out HB.out)); (case side4 => exact HC0_1.out); (case side5 => exact zC (Kd.C_below HR0_2.out HB.out)); (case side6 => exact HC0_2.out); (case side7 => exact zC (Kd.C_below HR1.out HB.out)); (case side8 => exact HC1.out); rintro e w6 ⟨v926, rfl, ho0, hb⟩; have HO927 := Aside0.mk (Kd.S_lower ho0 (below_size (zH1 GE924.out))); replace BK924 := zb BK924 hb; replace HB := zs1 GE924.out hb; (try clear hb); (try clear hb2); (try clear hk); (try clear hi); (try clear ho0))))
 go_loopg [5, 7] k (fun kq v5 v7 w' => ∃ (x5_1 : Int) (x7_1 : Int), v5 = .int .i64 x5_1 ∧ v7 = .int .i64 x7_1 ∧ Aside0 (spec_l7Cost.l0 kq l1 x5_1 t925 x7_1 l0_0 l0_1 l0_2 = some r) ∧ Aside0 (kq ≤ k) ∧ Aside0 (Kd.S (Kd.slice 3 (Kd.int .i64)) 24 w' w.heap.size (fun _ => True) v926 t925) ∧ Aside0 (w'.heap[gb924]? = some (.cells #[(.slice A0_0 l0_0.length c0_0), (.slice A0_1 l0_1.length c0_1), (.slice A0_2 l0_2.length c0_2)] 26 (0, 0))) ∧ Aside0 (Below w.heap.size w w'))
 case atStart => exact ⟨(0), (0), z3, z3, H', ⟨Nat.le_refl _⟩, ⟨(zS HO927.out)⟩, ⟨(zB BK924.out)⟩, ⟨(zH1 GE924.out)⟩⟩
 case round =>
  clear H'
  try clear c1
  try clear p2
  try clear hcz5_0
  try clear hcz5_1
  try clear hcz5_2
  try clear hfz5_0
  try clear hfz5_1
  try clear hfz5_2
  obtain ⟨x5_1, x7_1, rfl, rfl, HA, HK1, HO_6, BK924, HB⟩ := hrel
  cases gk with
  | zero => exact absurd HA.out (by simp [spec_l7Cost.l0])
  | succ k1 =>
   have H := HA.out
   clear HA
   simp only [spec_l7Cost.l0] at H
   by_cases c7 : x7_1 < (l1.length : Int)
   · rw [if_pos c7] at H
     have c7b0 : decide (x7_1 < (l1.length : Int)) = true := decide_eq_true c7
     clear c7
     have H' := Aside0.mk H
     clear H
     go_wp2
     repeat (go_quiet (fail); try go_wp2)
     go_loopg [5, 8] k1 (fun kq v5 v8 w' => ∃ (x5_2 : Int) (x8_2 : Int), v5 = .int .i64 x5_2 ∧ v8 = .int .i64 x8_2 ∧ Aside0 (spec_l7Cost.l1 kq l1 x5_2 t925 x7_1 x8_2 l0_0 l0_1 l0_2 = some r) ∧ Aside0 (kq ≤ k1) ∧ Aside0 (Kd.S (Kd.slice 3 (Kd.int .i64)) 24 w' w.heap.size (fun _ => True) v926 t925) ∧ Aside0 (w'.heap[gb924]? = some (.cells #[(.slice A0_0 l0_0.length c0_0), (.slice A0_1 l0_1.length c0_1), (.slice A0_2 l0_2.length c0_2)] 26 (0, 0))) ∧ Aside0 (Below w.heap.size w w'))
     case atStart => exact ⟨(x5_1), (0), z3, z3, H', ⟨Nat.le_refl _⟩, ⟨(zS HO_6.out)⟩, ⟨(zB BK924.out)⟩, ⟨(zH1 GE924.out)⟩⟩
     case round =>
      clear H'
      try clear c1
      try clear p2
      try clear c7
      try clear c7b0
      try clear hcz5_0
      try clear hcz5_1
      try clear hcz5_2
      try clear hfz5_0
      try clear hfz5_1
      try clear hfz5_2
      try clear p2
      obtain ⟨x5_2, x8_2, rfl, rfl, HA, HK2, HO_6, BK924, HB⟩ := hrel
      cases gk with
      | zero => exact absurd HA.out (by simp [spec_l7Cost.l1])
      | succ k2 =>
       have H := HA.out
       clear HA
       simp only [spec_l7Cost.l1] at H
       by_cases c8 : x8_2 < (l0_0.length : Int)
       · rw [if_pos c8] at H
         have c8b0 : decide (x8_2 < (l0_0.length : Int)) = true := decide_eq_true c8
         clear c8
         by_cases c9 : 0 ≤ x7_1
         · rw [if_pos c9] at H
           have c9b0 : decide (0 ≤ x7_1) = true := decide_eq_true c9
           clear c9
           by_cases c10 : x7_1 < (l0_2.length : Int)
           · rw [if_pos c10] at H
             have c10b0 : decide (x7_1 < (l0_2.length : Int)) = true := decide_eq_true c10
             clear c10
             by_cases c11 : x7_1 < (t925.length : Int)
             · rw [if_pos c11] at H
               have c11b0 : decide (x7_1 < (t925.length : Int)) = true := decide_eq_true c11
               clear c11
               by_cases c12 : 0 ≤ x8_2
               · rw [if_pos c12] at H
                 have c12b0 : decide (0 ≤ x8_2) = true := decide_eq_true c12
                 clear c12
                 by_cases c13 : x8_2 < ((rd_L2 t925 x7_1).length : Int)
                 · rw [if_pos c13] at H
                   have c13b0 : decide (x8_2 < ((rd_L2 t925 x7_1).length : Int)) = true := decide_eq_true c13
                   clear c13
                   by_cases c14 : x7_1 < (l1.length : Int)
                   · rw [if_pos c14] at H
                     have c14b0 : decide (x7_1 < (l1.length : Int)) = true := decide_eq_true c14
                     clear c14
                     by_cases c15 : x8_2 < ((rd_L2 l1 x7_1).length : Int)
                     · rw [if_pos c15] at H
                       have c15b0 : decide (x8_2 < ((rd_L2 l1 x7_1).length : Int)) = true := decide_eq_true c15
                       clear c15
                       by_cases c16 : (rd (rd_L2 l1 x7_1) x8_2) > 0
                       · rw [if_pos c16] at H
                         have c16b0 : decide (0 < (rd (rd_L2 l1 x7_1) x8_2)) = true := decide_eq_true c16
                         clear c16
                         by_cases c17 : x7_1 < (l0_1.length : Int)
                         · rw [if_pos c17] at H
                           have c17b0 : decide (x7_1 < (l0_1.length : Int)) = true := decide_eq_true c17
                           clear c17
                           have H' := Aside0.mk H
                           clear H
                           obtain ⟨hcz18_0, hcz18_1, hcz18_2, hfz18_0, hfz18_1, hfz18_2⟩ := zc3 BK924.out
                           have p928 : 0 ≤ (x7_1 : Int) := of_decide_eq_true z1
                           have q928 : x7_1 < (l0_2.length : Int) := of_decide_eq_true z1
                           obtain ⟨ad928, e928, hx928_0⟩ := Kd.at_int HR0_2.out x7_1 p928 q928
                           cases e928
                           replace hx928_0 := (HB.out.cell (World.block_lt_of_cell? w _ hx928_0)).trans hx928_0
                           replace p928 := eq_true p928
                           replace q928 := eq_true q928
                           obtain ⟨Ao19, co19, eo19⟩ := Kd.S_slice HO_6.out
                           subst eo19
                           have p929 : 0 ≤ (x7_1 : Int) := of_decide_eq_true z1
                           have q929 : x7_1 < (t925.length : Int) := of_decide_eq_true z1
                           obtain ⟨ad929, A929_0, c929_0, e929, hx929_0, hl929_0, hi929_0⟩ := at_L2 (Kd.S_reads' HO_6.out).2.2 x7_1 p929 q929
                           cases e929
                           obtain ⟨ce929, hce929, hMe929, hcc929⟩ := Kd.S_get HO_6.out [] x7_1 p929 (by first | exact q929 | exact of_decide_eq_true z1 | (have e_ := (Kd.S_reads' HO_6.out).1; omega))
                           obtain ⟨ve929_0, rfl, ge929_0⟩ := hMe929
                           have hv929_0 := hcc929 0 _ rfl
                           rw [Nat.add_zero, show ((Kd.slice 3 (Kd.int .i64))).sz = 1 from rfl, Nat.mul_one] at hv929_0
                           replace hv929_0 := Option.some.inj (hv929_0.symm.trans hx929_0)
                           rw [hv929_0] at ge929_0
                           have HL929_0 := Aside0.mk (show Kd.R (Kd.int .i64) 3 _ _ _ _ (rd_L2 t925 x7_1) from ge929_0)
                           clear hv929_0 ge929_0
                           clear hcc929 hce929
                           have HR929_0 := Aside0.mk hi929_0
                           have HC929_0 := Aside0.mk hl929_0
                           clear hi929_0 hl929_0
                           replace p929 := eq_true p929
                           replace q929 := eq_true q929
                           have p930 : 0 ≤ (x8_2 : Int) := of_decide_eq_true z1
                           have q930 : x8_2 < ((rd_L2 t925 x7_1).length : Int) := of_decide_eq_true z1
                           obtain ⟨ad930, e930, hx930_0⟩ := Kd.at_int (by repeat (first | (with_reducible exact HR929_0.out) | (with_reducible refine Kd.C_alloc ?_ _) | (with_reducible refine Kd.C_drewN ?_ _) | (with_reducible refine Kd.C_drew ?_) | exact HR929_0.out)) x8_2 p930 q930
                           cases e930
                           replace p930 := eq_true p930
                           replace q930 := eq_true q930
                           have p931 : 0 ≤ (x7_1 : Int) := of_decide_eq_true z1
                           have q931 : x7_1 < (l1.length : Int) := of_decide_eq_true z1
                           obtain ⟨ad931, A931_0, c931_0, e931, hx931_0, hl931_0, hi931_0⟩ := at_L2 HR1.out x7_1 p931 q931
                           cases e931
                           replace hx931_0 := (HB.out.cell (World.block_lt_of_cell? w _ hx931_0)).trans hx931_0
                           have HR931_0 := Aside0.mk hi931_0
                           have HC931_0 := Aside0.mk hl931_0
                           clear hi931_0 hl931_0
                           replace p931 := eq_true p931
                           replace q931 := eq_true q931
                           have p932 : 0 ≤ (x8_2 : Int) := of_decide_eq_true z1
                           have q932 : x8_2 < ((rd_L2 l1 x7_1).length : Int) := of_decide_eq_true z1
                           obtain ⟨ad932, e932, hx932_0⟩ := Kd.at_int HR931_0.out x8_2 p932 q932
                           cases e932
                           replace hx932_0 := (HB.out.cell (World.block_lt_of_cell? w _ hx932_0)).trans hx932_0
                           replace p932 := eq_true p932
                           replace q932 := eq_true q932
                           have p933 : 0 ≤ (x7_1 : Int) := of_decide_eq_true z1
                           have q933 : x7_1 < (l0_1.length : Int) := of_decide_eq_true z1
                           obtain ⟨ad933, e933, hx933_0⟩ := Kd.at_int HR0_1.out x7_1 p933 q933
                           cases e933
                           replace hx933_0 := (HB.out.cell (World.block_lt_of_cell? w _ hx933_0)).trans hx933_0
                           replace p933 := eq_true p933
                           replace q933 := eq_true q933
                           go_wp2
                           repeat (go_quiet (fail); try go_wp2)
                           go_roundg k2
                           case measure => have := HK1.out; have := HK2.out; omega
                           case rel => exact ⟨(wrap64 ((wrap64 (x5_2 + (wrap64 ((rd l0_2 x7_1) * (rd (rd_L2 t925 x7_1) x8_2))))) + (rd l0_1 x7_1))), (wrap64 (x8_2 + 1)), z3, z3, H', ⟨z32⟩, ⟨(zS HO_6.out)⟩, ⟨(zB BK924.out)⟩, ⟨(zH1 GE924.out)⟩⟩
                         · rw [if_neg c17] at H
                           exact absurd H (by simp)
                       · rw [if_neg c16] at H
                         have c16b0 : decide (0 < (rd (rd_L2 l1 x7_1) x8_2)) = false := decide_eq_false c16
                         clear c16
                         have H' := Aside0.mk H
                         clear H
                         obtain ⟨hcz20_0, hcz20_1, hcz20_2, hfz20_0, hfz20_1, hfz20_2⟩ := zc3 BK924.out
                         have p928 : 0 ≤ (x7_1 : Int) := of_decide_eq_true z1
                         have q928 : x7_1 < (l0_2.length : Int) := of_decide_eq_true z1
                         obtain ⟨ad928, e928, hx928_0⟩ := Kd.at_int HR0_2.out x7_1 p928 q928
                         cases e928
                         replace hx928_0 := (HB.out.cell (World.block_lt_of_cell? w _ hx928_0)).trans hx928_0
                         replace p928 := eq_true p928
                         replace q928 := eq_true q928
                         obtain ⟨Ao21, co21, eo21⟩ := Kd.S_slice HO_6.out
                         subst eo21
                         have p929 : 0 ≤ (x7_1 : Int) := of_decide_eq_true z1
                         have q929 : x7_1 < (t925.length : Int) := of_decide_eq_true z1
                         obtain ⟨ad929, A929_0, c929_0, e929, hx929_0, hl929_0, hi929_0⟩ := at_L2 (Kd.S_reads' HO_6.out).2.2 x7_1 p929 q929
                         cases e929
                         obtain ⟨ce929, hce929, hMe929, hcc929⟩ := Kd.S_get HO_6.out [] x7_1 p929 (by first | exact q929 | exact of_decide_eq_true z1 | (have e_ := (Kd.S_reads' HO_6.out).1; omega))
                         obtain ⟨ve929_0, rfl, ge929_0⟩ := hMe929
                         have hv929_0 := hcc929 0 _ rfl
                         rw [Nat.add_zero, show ((Kd.slice 3 (Kd.int .i64))).sz = 1 from rfl, Nat.mul_one] at hv929_0
                         replace hv929_0 := Option.some.inj (hv929_0.symm.trans hx929_0)
                         rw [hv929_0] at ge929_0
                         have HL929_0 := Aside0.mk (show Kd.R (Kd.int .i64) 3 _ _ _ _ (rd_L2 t925 x7_1) from ge929_0)
                         clear hv929_0 ge929_0
                         clear hcc929 hce929
                         have HR929_0 := Aside0.mk hi929_0
                         have HC929_0 := Aside0.mk hl929_0
                         clear hi929_0 hl929_0
                         replace p929 := eq_true p929
                         replace q929 := eq_true q929
                         have p930 : 0 ≤ (x8_2 : Int) := of_decide_eq_true z1
                         have q930 : x8_2 < ((rd_L2 t925 x7_1).length : Int) := of_decide_eq_true z1
                         obtain ⟨ad930, e930, hx930_0⟩ := Kd.at_int (by repeat (first | (with_reducible exact HR929_0.out) | (with_reducible refine Kd.C_alloc ?_ _) | (with_reducible refine Kd.C_drewN ?_ _) | (with_reducible refine Kd.C_drew ?_) | exact HR929_0.out)) x8_2 p930 q930
                         cases e930
                         replace p930 := eq_true p930
                         replace q930 := eq_true q930
                         have p931 : 0 ≤ (x7_1 : Int) := of_decide_eq_true z1
                         have q931 : x7_1 < (l1.length : Int) := of_decide_eq_true z1
                         obtain ⟨ad931, A931_0, c931_0, e931, hx931_0, hl931_0, hi931_0⟩ := at_L2 HR1.out x7_1 p931 q931
                         cases e931
                         replace hx931_0 := (HB.out.cell (World.block_lt_of_cell? w _ hx931_0)).trans hx931_0
                         have HR931_0 := Aside0.mk hi931_0
                         have HC931_0 := Aside0.mk hl931_0
                         clear hi931_0 hl931_0
                         replace p931 := eq_true p931
                         replace q931 := eq_true q931
                         have p932 : 0 ≤ (x8_2 : Int) := of_decide_eq_true z1
                         have q932 : x8_2 < ((rd_L2 l1 x7_1).length : Int) := of_decide_eq_true z1
                         obtain ⟨ad932, e932, hx932_0⟩ := Kd.at_int HR931_0.out x8_2 p932 q932
                         cases e932
                         replace hx932_0 := (HB.out.cell (World.block_lt_of_cell? w _ hx932_0)).trans hx932_0
                         replace p932 := eq_true p932
                         replace q932 := eq_true q932
                         go_wp2
                         repeat (go_quiet (fail); try go_wp2)
                         go_roundg k2
                         case measure => have := HK1.out; have := HK2.out; omega
                         case rel => exact ⟨(wrap64 (x5_2 + (wrap64 ((rd l0_2 x7_1) * (rd (rd_L2 t925 x7_1) x8_2))))), (wrap64 (x8_2 + 1)), z3, z3, H', ⟨z32⟩, ⟨(zS HO_6.out)⟩, ⟨(zB BK924.out)⟩, ⟨(zH1 GE924.out)⟩⟩
                     · rw [if_neg c15] at H
                       exact absurd H (by simp)
                   · rw [if_neg c14] at H
                     exact absurd H (by simp)
                 · rw [if_neg c13] at H
                   exact absurd H (by simp)
               · rw [if_neg c12] at H
                 exact absurd H (by simp)
             · rw [if_neg c11] at H
               exact absurd H (by simp)
           · rw [if_neg c10] at H
             exact absurd H (by simp)
         · rw [if_neg c9] at H
           exact absurd H (by simp)
       · rw [if_neg c8] at H
         have c8b0 : decide (x8_2 < (l0_0.length : Int)) = false := decide_eq_false c8
         clear c8
         have H' := Aside0.mk H
         clear H
         obtain ⟨hcz22_0, hcz22_1, hcz22_2, hfz22_0, hfz22_1, hfz22_2⟩ := zc3 BK924.out
         go_wp2
         repeat (go_quiet (fail); try go_wp2)
         go_roundg k2
         case measure => have := HK1.out; have := HK2.out; omega
         case rel => exact ⟨(x5_2), (wrap64 (x7_1 + 1)), z3, z3, H', ⟨z32⟩, ⟨(zS HO_6.out)⟩, ⟨(zB BK924.out)⟩, ⟨(zH1 GE924.out)⟩⟩
   · rw [if_neg c7] at H
     have c7b0 : decide (x7_1 < (l1.length : Int)) = false := decide_eq_false c7
     clear c7
     obtain rfl := Option.some.inj H
     go_wp2
     repeat (go_quiet (fail); try go_wp2)
     go_ret
     exact ⟨z5, (zH1 GE924.out)⟩
def spec_l1Has.l0 : Nat → List Int → Int → Int → Option (Bool)
 | 0, _, _, _ => none
 | k + 1, x0, x1, x5 => if x5 < (x0.length : Int) then (if 0 ≤ x5 then (if (rd x0 x5) = x1 then (some true) else (spec_l1Has.l0 k x0 x1 (wrap64 (x5 + 1)))) else (none)) else (some false)
def spec_l1Has.f (k : Nat) (l0 : List Int) (a1 : Int) : Option (Bool) := spec_l1Has.l0 k l0 a1 0
set_option maxHeartbeats 8000000 in
set_option maxRecDepth 100000 in
theorem spec_l1Has.calls (k : Nat) (A0 : Option Addr) (c0 : Nat) (l0 : List Int) (a1 : Int) (r : Bool) (w : World) (hr0 : Kd.C (Kd.int .i64) w A0 l0.length l0) (hc0 : l0.length ≤ c0) (h : spec_l1Has.f k l0 a1 = some r) :
 Calls Try.prog 108 #[.slice A0 l0.length c0, .int .i64 a1] w fun e w' => e = .returned (.bool r) ∧ Drawn0 w w' := by
 have HR0 := Aside0.mk hr0
 have HC0 := Aside0.mk hc0
 clear hr0 hc0
 have H : (spec_l1Has.l0 k l0 a1 0) = some r := h
 clear h
 have H' := Aside0.mk H
 clear H
 go_enter Try.func108, Try.ntmps108
 go_wp2
 go_loopg [5] k (fun kq v5 w' => ∃ (x5_1 : Int), v5 = .int .i64 x5_1 ∧ Aside0 (spec_l1Has.l0 kq l0 a1 x5_1 = some r) ∧ Aside0 (kq ≤ k) ∧ Drawn0 w w')
 case atStart => exact ⟨(0), z3, H', ⟨Nat.le_refl _⟩, z4⟩
 case round =>
  clear H'
  try clear c1
  try clear p2
  obtain ⟨x5_1, rfl, HA, HK1, ⟨m1, rfl⟩⟩ := hrel
  cases gk with
  | zero => exact absurd HA.out (by simp [spec_l1Has.l0])
  | succ k1 =>
   have H := HA.out
   clear HA
   simp only [spec_l1Has.l0] at H
   by_cases c3 : x5_1 < (l0.length : Int)
   · rw [if_pos c3] at H
     have c3b0 : decide (x5_1 < (l0.length : Int)) = true := decide_eq_true c3
     clear c3
     by_cases c4 : 0 ≤ x5_1
     · rw [if_pos c4] at H
       have c4b0 : decide (0 ≤ x5_1) = true := decide_eq_true c4
       clear c4
       by_cases c5 : (rd l0 x5_1) = a1
       · rw [if_pos c5] at H
         have c5b0 : ((rd l0 x5_1) == a1) = true := beq_iff_eq.mpr c5
         have c5b1 : ((rd l0 x5_1) != a1) = false := bne_eq_false_iff_eq.mpr c5
         clear c5
         obtain rfl := Option.some.inj H
         have p211 : 0 ≤ (x5_1 : Int) := of_decide_eq_true z1
         have q211 : x5_1 < (l0.length : Int) := of_decide_eq_true z1
         obtain ⟨ad211, e211, hx211_0⟩ := Kd.at_int HR0.out x5_1 p211 q211
         cases e211
         replace p211 := eq_true p211
         replace q211 := eq_true q211
         go_wp2
         go_ret
         exact ⟨z3, z4⟩
       · rw [if_neg c5] at H
         have c5b0 : ((rd l0 x5_1) == a1) = false := beq_eq_false_iff_ne.mpr c5
         have c5b1 : ((rd l0 x5_1) != a1) = true := bne_iff_ne.mpr c5
         have H' := Aside0.mk H
         clear H
         have p211 : 0 ≤ (x5_1 : Int) := of_decide_eq_true z1
         have q211 : x5_1 < (l0.length : Int) := of_decide_eq_true z1
         obtain ⟨ad211, e211, hx211_0⟩ := Kd.at_int HR0.out x5_1 p211 q211
         cases e211
         replace p211 := eq_true p211
         replace q211 := eq_true q211
         go_wp2
         go_roundg k1
         case measure => have := HK1.out; omega
         case rel => exact ⟨(wrap64 (x5_1 + 1)), z3, H', ⟨z21⟩, z4⟩
     · rw [if_neg c4] at H
       exact absurd H (by simp)
   · rw [if_neg c3] at H
     have c3b0 : decide (x5_1 < (l0.length : Int)) = false := decide_eq_false c3
     clear c3
     obtain rfl := Option.some.inj H
     go_wp2
     go_ret
     exact ⟨z3, z4⟩
mutual
def spec_l1Rising.l0 : Nat → List Int → Int → Int → Int → Option (Bool)
 | 0, _, _, _, _ => none
 | k + 1, x0, x1, x2, x7 => if x7 < (x0.length : Int) then (if 0 ≤ x7 then ((spec_l1In.f (rd x0 x7) x1 x2).bind fun t397 => (if t397 = true then (if x7 > 0 then (if 0 ≤ (wrap64 (x7 - 1)) then (if (wrap64 (x7 - 1)) < (x0.length : Int) then (spec_l1Rising.j1 k x0 x1 x2 x7 (decide ((rd x0 (wrap64 (x7 - 1))) ≥ (rd x0 x7)))) else (none)) else (none)) else (spec_l1Rising.j1 k x0 x1 x2 x7 false)) else (spec_l1Rising.j1 k x0 x1 x2 x7 true))) else (none)) else (some true)
def spec_l1Rising.j1 : Nat → List Int → Int → Int → Int → Bool → Option (Bool)
 | 0, _, _, _, _, _ => none
 | k + 1, x0, x1, x2, x7, x37 => if x37 = true then (some false) else (spec_l1Rising.l0 k x0 x1 x2 (wrap64 (x7 + 1)))
end
def spec_l1Rising.f (k : Nat) (l0 : List Int) (a1 : Int) (a2 : Int) : Option (Bool) := spec_l1Rising.l0 k l0 a1 a2 0
set_option maxHeartbeats 8000000 in
set_option maxRecDepth 100000 in
theorem spec_l1Rising.calls (k : Nat) (A0 : Option Addr) (c0 : Nat) (l0 : List Int) (a1 : Int) (a2 : Int) (r : Bool) (w : World) (hr0 : Kd.C (Kd.int .i64) w A0 l0.length l0) (hc0 : l0.length ≤ c0) (h : spec_l1Rising.f k l0 a1 a2 = some r) :
 Calls Try.prog 113 #[.slice A0 l0.length c0, .int .i64 a1, .int .i64 a2] w fun e w' => e = .returned (.bool r) ∧ Drawn0 w w' := by
 have HR0 := Aside0.mk hr0
 have HC0 := Aside0.mk hc0
 clear hr0 hc0
 have H : (spec_l1Rising.l0 k l0 a1 a2 0) = some r := h
 clear h
 have H' := Aside0.mk H
 clear H
 go_enter Try.func113, Try.ntmps113
 go_wp2
 repeat (go_quiet (fail); try go_wp2)
 go_loopg [7] k (fun kq v7 w' => ∃ (x7_1 : Int), v7 = .int .i64 x7_1 ∧ Aside0 (spec_l1Rising.l0 kq l0 a1 a2 x7_1 = some r) ∧ Aside0 (kq ≤ k) ∧ Drawn0 w w')
 case atStart => exact ⟨(0), z3, H', ⟨Nat.le_refl _⟩, z4⟩
 case round =>
  clear H'
  try clear c1
  try clear p2
  obtain ⟨x7_1, rfl, HA, HK1, ⟨m1, rfl⟩⟩ := hrel
  cases gk with
  | zero => exact absurd HA.out (by simp [spec_l1Rising.l0])
  | succ k1 =>
   have H := HA.out
   clear HA
   simp only [spec_l1Rising.l0] at H
   by_cases c4 : x7_1 < (l0.length : Int)
   · rw [if_pos c4] at H
     have c4b0 : decide (x7_1 < (l0.length : Int)) = true := decide_eq_true c4
     clear c4
     have HC5 := Aside0.mk H
     clear H
     go_upto_region 4 with (fail)
     repeat (go_quiet (fail); go_upto_region 4 with (fail))
     go_cut [37] (fun v37 wc => ∃ (kq : Nat) (x37_4 : Bool), v37 = .bool x37_4 ∧ Aside0 (spec_l1Rising.j1 kq l0 a1 a2 x7_1 x37_4 = some r) ∧ Aside0 (kq ≤ k1) ∧ Drawn0 w wc)
     case first =>
      have H := HC5.out
      clear HC5
      by_cases c6 : 0 ≤ x7_1
      · rw [if_pos c6] at H
        have c6b0 : decide (0 ≤ x7_1) = true := decide_eq_true c6
        clear c6
        (first | rw [c6b0] | (simp only [i64_w, i32_w]; rw [c6b0]) | skip)
        replace H := Option.bind_eq_some_iff.mp H
        obtain ⟨t397, A70, H⟩ := H
        replace H : (if t397 = true then (if x7_1 > 0 then (if 0 ≤ (wrap64 (x7_1 - 1)) then (if (wrap64 (x7_1 - 1)) < (l0.length : Int) then (spec_l1Rising.j1 k1 l0 a1 a2 x7_1 (decide ((rd l0 (wrap64 (x7_1 - 1))) ≥ (rd l0 x7_1)))) else (none)) else (none)) else (spec_l1Rising.j1 k1 l0 a1 a2 x7_1 false)) else (spec_l1Rising.j1 k1 l0 a1 a2 x7_1 true)) = some r := H
        have A7 := Aside0.mk A70
        clear A70
        by_cases c8 : t397 = true
        · subst c8
          have H1 : (if x7_1 > 0 then (if 0 ≤ (wrap64 (x7_1 - 1)) then (if (wrap64 (x7_1 - 1)) < (l0.length : Int) then (spec_l1Rising.j1 k1 l0 a1 a2 x7_1 (decide ((rd l0 (wrap64 (x7_1 - 1))) ≥ (rd l0 x7_1)))) else (none)) else (none)) else (spec_l1Rising.j1 k1 l0 a1 a2 x7_1 false)) = some r := by rw [if_pos rfl] at H; exact H
          clear H
          have H := H1
          clear H1
          by_cases c9 : x7_1 > 0
          · rw [if_pos c9] at H
            have c9b0 : decide (0 < x7_1) = true := decide_eq_true c9
            clear c9
            obtain ⟨ji10, hji10⟩ : ∃ j_ : Int, (wrap64 (x7_1 - 1)) = j_ := ⟨_, rfl⟩
            replace H : (if 0 ≤ (ji10) then (if (ji10) < (l0.length : Int) then (spec_l1Rising.j1 k1 l0 a1 a2 x7_1 (decide ((rd l0 (ji10)) ≥ (rd l0 x7_1)))) else (none)) else (none)) = some r := by first | (rw [hji10] at H; exact H) | (simp only [hji10] at H ⊢; exact H)
            (try rw [hji10] at A7)
            have hji10w : (IntKind.i64.wrap (x7_1 - 1)) = ji10 := (i64_w _).trans hji10
            by_cases c11 : 0 ≤ (ji10)
            · rw [if_pos c11] at H
              have c11b0 : decide (0 ≤ (ji10)) = true := decide_eq_true c11
              clear c11
              by_cases c12 : (ji10) < (l0.length : Int)
              · rw [if_pos c12] at H
                have c12b0 : decide ((ji10) < (l0.length : Int)) = true := decide_eq_true c12
                clear c12
                have H' := Aside0.mk H
                clear H
                have p396 : 0 ≤ (x7_1 : Int) := of_decide_eq_true z1
                have q396 : x7_1 < (l0.length : Int) := of_decide_eq_true z1
                obtain ⟨ad396, e396, hx396_0⟩ := Kd.at_int HR0.out x7_1 p396 q396
                cases e396
                replace p396 := eq_true p396
                replace q396 := eq_true q396
                go_wp2_with (first | (go_at_call 87; (with_reducible refine (spec_l1In.calls (rd l0 x7_1) a1 a2 true _ A7.out).mono ?_); rintro e w' ⟨rfl, ⟨nd, rfl⟩⟩; (try first | exact ⟨rfl, _, World.drewN_drewN _ _ _⟩ | exact ⟨rfl, _, Eq.trans (World.drewN_drewN _ _ _) (congrArg (World.drewN _) (Nat.add_assoc _ _ _))⟩); have p398 : 0 ≤ ((ji10) : Int) := of_decide_eq_true z1; have q398 : (ji10) < (l0.length : Int) := of_decide_eq_true z1; obtain ⟨ad398, e398, hx398_0⟩ := Kd.at_int HR0.out (ji10) p398 q398; obtain rfl : ad396 = ad398 := (by injection e398); replace p398 := eq_true p398; replace q398 := eq_true q398; have p399 : 0 ≤ (x7_1 : Int) := of_decide_eq_true z1; have q399 : x7_1 < (l0.length : Int) := of_decide_eq_true z1; obtain ⟨ad399, e399, hx399_0⟩ := Kd.at_int HR0.out x7_1 p399 q399; obtain rfl : ad396 = ad399 := (by injection e399); replace p399 := eq_true p399; replace q399 := eq_true q399))
                repeat (go_quiet (first | (go_at_call 87; (with_reducible refine (spec_l1In.calls (rd l0 x7_1) a1 a2 true _ A7.out).mono ?_); rintro e w' ⟨rfl, ⟨nd, rfl⟩⟩; (try first | exact ⟨rfl, _, World.drewN_drewN _ _ _⟩ | exact ⟨rfl, _, Eq.trans (World.drewN_drewN _ _ _) (congrArg (World.drewN _) (Nat.add_assoc _ _ _))⟩); have p398 : 0 ≤ ((ji10) : Int) := of_decide_eq_true z1; have q398 : (ji10) < (l0.length : Int) := of_decide_eq_true z1; obtain ⟨ad398, e398, hx398_0⟩ := Kd.at_int HR0.out (ji10) p398 q398; obtain rfl : ad396 = ad398 := (by injection e398); replace p398 := eq_true p398; replace q398 := eq_true q398; have p399 : 0 ≤ (x7_1 : Int) := of_decide_eq_true z1; have q399 : x7_1 < (l0.length : Int) := of_decide_eq_true z1; obtain ⟨ad399, e399, hx399_0⟩ := Kd.at_int HR0.out x7_1 p399 q399; obtain rfl : ad396 = ad399 := (by injection e399); replace p399 := eq_true p399; replace q399 := eq_true q399)); try go_wp2_with (first | (go_at_call 87; (with_reducible refine (spec_l1In.calls (rd l0 x7_1) a1 a2 true _ A7.out).mono ?_); rintro e w' ⟨rfl, ⟨nd, rfl⟩⟩; (try first | exact ⟨rfl, _, World.drewN_drewN _ _ _⟩ | exact ⟨rfl, _, Eq.trans (World.drewN_drewN _ _ _) (congrArg (World.drewN _) (Nat.add_assoc _ _ _))⟩); have p398 : 0 ≤ ((ji10) : Int) := of_decide_eq_true z1; have q398 : (ji10) < (l0.length : Int) := of_decide_eq_true z1; obtain ⟨ad398, e398, hx398_0⟩ := Kd.at_int HR0.out (ji10) p398 q398; obtain rfl : ad396 = ad398 := (by injection e398); replace p398 := eq_true p398; replace q398 := eq_true q398; have p399 : 0 ≤ (x7_1 : Int) := of_decide_eq_true z1; have q399 : x7_1 < (l0.length : Int) := of_decide_eq_true z1; obtain ⟨ad399, e399, hx399_0⟩ := Kd.at_int HR0.out x7_1 p399 q399; obtain rfl : ad396 = ad399 := (by injection e399); replace p399 := eq_true p399; replace q399 := eq_true q399)))
                go_meet
                case rel => exact ⟨_, (decide ((rd l0 (ji10)) ≥ (rd l0 x7_1))), (by first | rfl | (simp; done) | (simp only [← hji10] <;> (first | rfl | simp)) | (simp [*]; done)), H', ⟨z36⟩, z4⟩
              · rw [if_neg c12] at H
                exact absurd H (by simp)
            · rw [if_neg c11] at H
              exact absurd H (by simp)
          · rw [if_neg c9] at H
            have c9b0 : decide (0 < x7_1) = false := decide_eq_false c9
            clear c9
            have H' := Aside0.mk H
            clear H
            have p396 : 0 ≤ (x7_1 : Int) := of_decide_eq_true z1
            have q396 : x7_1 < (l0.length : Int) := of_decide_eq_true z1
            obtain ⟨ad396, e396, hx396_0⟩ := Kd.at_int HR0.out x7_1 p396 q396
            cases e396
            replace p396 := eq_true p396
            replace q396 := eq_true q396
            go_wp2_with (first | (go_at_call 87; (with_reducible refine (spec_l1In.calls (rd l0 x7_1) a1 a2 true _ A7.out).mono ?_); rintro e w' ⟨rfl, ⟨nd, rfl⟩⟩; (try first | exact ⟨rfl, _, World.drewN_drewN _ _ _⟩ | exact ⟨rfl, _, Eq.trans (World.drewN_drewN _ _ _) (congrArg (World.drewN _) (Nat.add_assoc _ _ _))⟩)))
            repeat (go_quiet (first | (go_at_call 87; (with_reducible refine (spec_l1In.calls (rd l0 x7_1) a1 a2 true _ A7.out).mono ?_); rintro e w' ⟨rfl, ⟨nd, rfl⟩⟩; (try first | exact ⟨rfl, _, World.drewN_drewN _ _ _⟩ | exact ⟨rfl, _, Eq.trans (World.drewN_drewN _ _ _) (congrArg (World.drewN _) (Nat.add_assoc _ _ _))⟩))); try go_wp2_with (first | (go_at_call 87; (with_reducible refine (spec_l1In.calls (rd l0 x7_1) a1 a2 true _ A7.out).mono ?_); rintro e w' ⟨rfl, ⟨nd, rfl⟩⟩; (try first | exact ⟨rfl, _, World.drewN_drewN _ _ _⟩ | exact ⟨rfl, _, Eq.trans (World.drewN_drewN _ _ _) (congrArg (World.drewN _) (Nat.add_assoc _ _ _))⟩))))
            go_meet
            case rel => exact ⟨_, (false), z3, H', ⟨z36⟩, z4⟩
        · replace c8 := Bool.eq_false_iff.mpr c8
          subst c8
          have H1 : (spec_l1Rising.j1 k1 l0 a1 a2 x7_1 true) = some r := by rw [if_neg (show ¬ (false = true) by decide)] at H; exact H
          clear H
          have H := H1
          clear H1
          have H' := Aside0.mk H
          clear H
          have p396 : 0 ≤ (x7_1 : Int) := of_decide_eq_true z1
          have q396 : x7_1 < (l0.length : Int) := of_decide_eq_true z1
          obtain ⟨ad396, e396, hx396_0⟩ := Kd.at_int HR0.out x7_1 p396 q396
          cases e396
          replace p396 := eq_true p396
          replace q396 := eq_true q396
          go_wp2_with (first | (go_at_call 87; (with_reducible refine (spec_l1In.calls (rd l0 x7_1) a1 a2 false _ A7.out).mono ?_); rintro e w' ⟨rfl, ⟨nd, rfl⟩⟩; (try first | exact ⟨rfl, _, World.drewN_drewN _ _ _⟩ | exact ⟨rfl, _, Eq.trans (World.drewN_drewN _ _ _) (congrArg (World.drewN _) (Nat.add_assoc _ _ _))⟩)))
          repeat (go_quiet (first | (go_at_call 87; (with_reducible refine (spec_l1In.calls (rd l0 x7_1) a1 a2 false _ A7.out).mono ?_); rintro e w' ⟨rfl, ⟨nd, rfl⟩⟩; (try first | exact ⟨rfl, _, World.drewN_drewN _ _ _⟩ | exact ⟨rfl, _, Eq.trans (World.drewN_drewN _ _ _) (congrArg (World.drewN _) (Nat.add_assoc _ _ _))⟩))); try go_wp2_with (first | (go_at_call 87; (with_reducible refine (spec_l1In.calls (rd l0 x7_1) a1 a2 false _ A7.out).mono ?_); rintro e w' ⟨rfl, ⟨nd, rfl⟩⟩; (try first | exact ⟨rfl, _, World.drewN_drewN _ _ _⟩ | exact ⟨rfl, _, Eq.trans (World.drewN_drewN _ _ _) (congrArg (World.drewN _) (Nat.add_assoc _ _ _))⟩))))
          go_meet
          case rel => exact ⟨_, (true), z3, H', ⟨z36⟩, z4⟩
      · rw [if_neg c6] at H
        exact absurd H (by simp)
     case rest =>
      clear HC5
      try clear c1
      try clear p2
      try clear p3
      try clear q3
      try clear hx3
      try clear c4
      try clear c4b0
      try clear c6
      try clear c6b0
      try clear p6
      try clear c8
      try clear c9
      try clear c9b0
      try clear c11
      try clear c11b0
      try clear c12
      try clear c12b0
      try clear hx396_0
      try clear hx398_0
      try clear hx399_0
      try clear p2
      try clear p396
      try clear p398
      try clear p399
      try clear q396
      try clear q398
      try clear q399
      obtain ⟨kq, x37_4, rfl, HA, HJ4, ⟨mc4, rfl⟩⟩ := hcut
      cases kq with
      | zero => exact absurd HA.out (by simp [spec_l1Rising.j1])
      | succ kj4 =>
       have H := HA.out
       clear HA
       simp only [spec_l1Rising.j1] at H
       by_cases c13 : x37_4 = true
       · subst c13
         have H1 : (some false) = some r := by rw [if_pos rfl] at H; exact H
         clear H
         have H := H1
         clear H1
         obtain rfl := Option.some.inj H
         go_wp2
         repeat (go_quiet (fail); try go_wp2)
         go_ret
         exact ⟨z3, z4⟩
       · replace c13 := Bool.eq_false_iff.mpr c13
         subst c13
         have H1 : (spec_l1Rising.l0 kj4 l0 a1 a2 (wrap64 (x7_1 + 1))) = some r := by rw [if_neg (show ¬ (false = true) by decide)] at H; exact H
         clear H
         have H := H1
         clear H1
         have H' := Aside0.mk H
         clear H
         go_wp2
         repeat (go_quiet (fail); try go_wp2)
         go_roundg kj4
         case measure => have := HK1.out; have := HJ4.out; omega
         case rel => exact ⟨(wrap64 (x7_1 + 1)), z3, H', ⟨(by have := HK1.out; have := HJ4.out; omega)⟩, z4⟩
   · rw [if_neg c4] at H
     have c4b0 : decide (x7_1 < (l0.length : Int)) = false := decide_eq_false c4
     clear c4
     obtain rfl := Option.some.inj H
     go_wp2
     repeat (go_quiet (fail); try go_wp2)
     go_ret
     exact ⟨z3, z4⟩
def spec_l7Within.l0 : Nat → List Int → List Int → Int → Option (Bool)
 | 0, _, _, _ => none
 | k + 1, x0, x1, x5 => if x5 < (x0.length : Int) then (if 0 ≤ x5 then ((spec_l1Has.f k x1 (rd x0 x5)).bind fun t401 => (if t401 = true then (spec_l7Within.l0 k x0 x1 (wrap64 (x5 + 1))) else (some false))) else (none)) else (some true)
def spec_l7Within.f (k : Nat) (l0 : List Int) (l1 : List Int) : Option (Bool) := spec_l7Within.l0 k l0 l1 0
set_option maxHeartbeats 8000000 in
set_option maxRecDepth 100000 in
theorem spec_l7Within.calls (k : Nat) (A0 : Option Addr) (c0 : Nat) (l0 : List Int) (A1 : Option Addr) (c1 : Nat) (l1 : List Int) (r : Bool) (w : World) (hr0 : Kd.C (Kd.int .i64) w A0 l0.length l0) (hc0 : l0.length ≤ c0) (hr1 : Kd.C (Kd.int .i64) w A1 l1.length l1) (hc1 : l1.length ≤ c1) (h : spec_l7Within.f k l0 l1 = some r) :
 Calls Try.prog 114 #[.slice A0 l0.length c0, .slice A1 l1.length c1] w fun e w' => e = .returned (.bool r) ∧ Drawn0 w w' := by
 have HR0 := Aside0.mk hr0
 have HC0 := Aside0.mk hc0
 clear hr0 hc0
 have HR1 := Aside0.mk hr1
 have HC1 := Aside0.mk hc1
 clear hr1 hc1
 have H : (spec_l7Within.l0 k l0 l1 0) = some r := h
 clear h
 have H' := Aside0.mk H
 clear H
 go_enter Try.func114, Try.ntmps114
 go_wp2
 go_loopg [5] k (fun kq v5 w' => ∃ (x5_1 : Int), v5 = .int .i64 x5_1 ∧ Aside0 (spec_l7Within.l0 kq l0 l1 x5_1 = some r) ∧ Aside0 (kq ≤ k) ∧ Drawn0 w w')
 case atStart => exact ⟨(0), z3, H', ⟨Nat.le_refl _⟩, z4⟩
 case round =>
  clear H'
  try clear c1
  try clear p2
  obtain ⟨x5_1, rfl, HA, HK1, ⟨m1, rfl⟩⟩ := hrel
  cases gk with
  | zero => exact absurd HA.out (by simp [spec_l7Within.l0])
  | succ k1 =>
   have H := HA.out
   clear HA
   simp only [spec_l7Within.l0] at H
   by_cases c3 : x5_1 < (l0.length : Int)
   · rw [if_pos c3] at H
     have c3b0 : decide (x5_1 < (l0.length : Int)) = true := decide_eq_true c3
     clear c3
     by_cases c4 : 0 ≤ x5_1
     · rw [if_pos c4] at H
       have c4b0 : decide (0 ≤ x5_1) = true := decide_eq_true c4
       clear c4
       replace H := Option.bind_eq_some_iff.mp H
       obtain ⟨t401, A50, H⟩ := H
       replace H : (if t401 = true then (spec_l7Within.l0 k1 l0 l1 (wrap64 (x5_1 + 1))) else (some false)) = some r := H
       have A5 := Aside0.mk A50
       clear A50
       by_cases c6 : t401 = true
       · subst c6
         have H1 : (spec_l7Within.l0 k1 l0 l1 (wrap64 (x5_1 + 1))) = some r := by rw [if_pos rfl] at H; exact H
         clear H
         have H := H1
         clear H1
         have H' := Aside0.mk H
         clear H
         have p400 : 0 ≤ (x5_1 : Int) := of_decide_eq_true z1
         have q400 : x5_1 < (l0.length : Int) := of_decide_eq_true z1
         obtain ⟨ad400, e400, hx400_0⟩ := Kd.at_int HR0.out x5_1 p400 q400
         cases e400
         replace p400 := eq_true p400
         replace q400 := eq_true q400
         go_wp2_with (first | ((with_reducible refine gate_callee (f := 108) rfl ?_); refine goesL_ (some 17) rfl rfl Try.func108 (by kernel_rfl) rfl #[.slice A1 l1.length c1, .int .i64 (rd l0 x5_1)] rfl z2 ?_; (with_reducible refine (spec_l1Has.calls k1 _ _ l1 (rd l0 x5_1) true _ ?side1 ?side2 A5.out).mono ?_); (case side1 => repeat (first | exact HR1.out | (with_reducible refine Kd.C_alloc ?_ _) | (with_reducible refine Kd.C_drewN ?_ _) | (with_reducible refine Kd.C_drew ?_))); (case side2 => exact HC1.out); rintro e w' ⟨rfl, ⟨nd, rfl⟩⟩; refine ⟨_, rfl, ?_⟩))
         go_roundg k1
         case measure => have := HK1.out; omega
         case rel => exact ⟨(wrap64 (x5_1 + 1)), z3, H', ⟨z21⟩, z4⟩
       · replace c6 := Bool.eq_false_iff.mpr c6
         subst c6
         have H1 : (some false) = some r := by rw [if_neg (show ¬ (false = true) by decide)] at H; exact H
         clear H
         have H := H1
         clear H1
         obtain rfl := Option.some.inj H
         have p400 : 0 ≤ (x5_1 : Int) := of_decide_eq_true z1
         have q400 : x5_1 < (l0.length : Int) := of_decide_eq_true z1
         obtain ⟨ad400, e400, hx400_0⟩ := Kd.at_int HR0.out x5_1 p400 q400
         cases e400
         replace p400 := eq_true p400
         replace q400 := eq_true q400
         go_wp2_with (first | ((with_reducible refine gate_callee (f := 108) rfl ?_); refine goesL_ (some 17) rfl rfl Try.func108 (by kernel_rfl) rfl #[.slice A1 l1.length c1, .int .i64 (rd l0 x5_1)] rfl z2 ?_; (with_reducible refine (spec_l1Has.calls k1 _ _ l1 (rd l0 x5_1) false _ ?side1 ?side2 A5.out).mono ?_); (case side1 => repeat (first | exact HR1.out | (with_reducible refine Kd.C_alloc ?_ _) | (with_reducible refine Kd.C_drewN ?_ _) | (with_reducible refine Kd.C_drew ?_))); (case side2 => exact HC1.out); rintro e w' ⟨rfl, ⟨nd, rfl⟩⟩; refine ⟨_, rfl, ?_⟩))
         go_ret
         exact ⟨z3, z4⟩
     · rw [if_neg c4] at H
       exact absurd H (by simp)
   · rw [if_neg c3] at H
     have c3b0 : decide (x5_1 < (l0.length : Int)) = false := decide_eq_false c3
     clear c3
     obtain rfl := Option.some.inj H
     go_wp2
     go_ret
     exact ⟨z3, z4⟩
def spec_l7Periods.l0 : Nat → List (List Int) → Int → List Int → List Int → List Int → Option (Bool)
 | 0, _, _, _, _, _ => none
 | k + 1, x1, x5, x403000, x403001, x403002 => if x5 < (x1.length : Int) then (if 0 ≤ x5 then ((spec_l1Rising.f k (rd_L2 x1 x5) 0 (wrap64 ((x403000.length : Int) - 1))).bind fun t404 => (if t404 = true then (if x5 > 0 then (if 0 ≤ (wrap64 (x5 - 1)) then (if (wrap64 (x5 - 1)) < (x1.length : Int) then ((spec_l7Within.f k (rd_L2 x1 (wrap64 (x5 - 1))) (rd_L2 x1 x5)).bind fun t407 => (if t407 = true then (spec_l7Periods.l0 k x1 (wrap64 (x5 + 1)) x403000 x403001 x403002) else (some false))) else (none)) else (none)) else (spec_l7Periods.l0 k x1 (wrap64 (x5 + 1)) x403000 x403001 x403002)) else (some false))) else (none)) else (some ((x1.length : Int) == (x403001.length : Int)))
def spec_l7Periods.f (k : Nat) (l0_0 : List Int) (l0_1 : List Int) (l0_2 : List Int) (l1 : List (List Int)) : Option (Bool) := spec_l7Periods.l0 k l1 0 l0_0 l0_1 l0_2
set_option maxHeartbeats 8000000 in
set_option maxRecDepth 100000 in
theorem spec_l7Periods.calls (k : Nat) (A0_0 : Option Addr) (c0_0 : Nat) (l0_0 : List Int) (A0_1 : Option Addr) (c0_1 : Nat) (l0_1 : List Int) (A0_2 : Option Addr) (c0_2 : Nat) (l0_2 : List Int) (A1 : Option Addr) (c1 : Nat) (l1 : List (List Int)) (r : Bool) (w : World) (hr0_0 : Kd.C (Kd.int .i64) w A0_0 l0_0.length l0_0) (hc0_0 : l0_0.length ≤ c0_0) (hr0_1 : Kd.C (Kd.int .i64) w A0_1 l0_1.length l0_1) (hc0_1 : l0_1.length ≤ c0_1) (hr0_2 : Kd.C (Kd.int .i64) w A0_2 l0_2.length l0_2) (hc0_2 : l0_2.length ≤ c0_2) (hr1 : Kd.C (Kd.slice 3 (Kd.int .i64)) w A1 l1.length l1) (hc1 : l1.length ≤ c1) (h : spec_l7Periods.f k l0_0 l0_1 l0_2 l1 = some r) :
 Calls Try.prog 62 #[.agg #[.slice A0_0 l0_0.length c0_0, .slice A0_1 l0_1.length c0_1, .slice A0_2 l0_2.length c0_2], .slice A1 l1.length c1] w fun e w' => e = .returned (.bool r) ∧ Below w.heap.size w w' := by
 have hu26 := Try.underlying26
 have HR0_0 := Aside0.mk hr0_0
 have HC0_0 := Aside0.mk hc0_0
 clear hr0_0 hc0_0
 have HR0_1 := Aside0.mk hr0_1
 have HC0_1 := Aside0.mk hc0_1
 clear hr0_1 hc0_1
 have HR0_2 := Aside0.mk hr0_2
 have HC0_2 := Aside0.mk hc0_2
 clear hr0_2 hc0_2
 have HR1 := Aside0.mk hr1
 have HC1 := Aside0.mk hc1
 clear hr1 hc1
 have HB := Aside0.mk (Below.refl w.heap.size w)
 have H : (spec_l7Periods.l0 k l1 0 l0_0 l0_1 l0_2) = some r := h
 clear h
 have H' := Aside0.mk H
 clear H
 go_enter Try.func62, Try.ntmps62
 go_wp2_with (first | ((with_reducible refine gate_dst (N := 2) rfl ?_); refine box_event ?hg (N := 2) ?hd (cs := #[.slice A0_0 l0_0.length c0_0, .slice A0_1 l0_1.length c0_1, .slice A0_2 l0_2.length c0_2]) (t := 26) ?hr ?_; (case hd => rfl); (case hg => rfl); (case hr => first | (go_simp; done) | (go_simp; rfl)); intro gb402 hg w3 hbox hb; have BK402 := Aside0.mk (hbox); have GW402 := Aside0.mk ((z6 : w.heap.size ≤ gb402)); have GE402 := Aside0.mk ((z6 : w.heap.size ≤ gb402)); replace HB := zs0 hb; clear hb hbox hg))
 repeat (go_quiet (first | ((with_reducible refine gate_dst (N := 2) rfl ?_); refine box_event ?hg (N := 2) ?hd (cs := #[.slice A0_0 l0_0.length c0_0, .slice A0_1 l0_1.length c0_1, .slice A0_2 l0_2.length c0_2]) (t := 26) ?hr ?_; (case hd => rfl); (case hg => rfl); (case hr => first | (go_simp; done) | (go_simp; rfl)); intro gb402 hg w3 hbox hb; have BK402 := Aside0.mk (hbox); have GW402 := Aside0.mk ((z6 : w.heap.size ≤ gb402)); have GE402 := Aside0.mk ((z6 : w.heap.size ≤ gb402)); replace HB := zs0 hb; clear hb hbox hg)); try go_wp2_with (first | ((with_reducible refine gate_dst (N := 2) rfl ?_); refine box_event ?hg (N := 2) ?hd (cs := #[.slice A0_0 l0_0.length c0_0, .slice A0_1 l0_1.length c0_1, .slice A0_2 l0_2.length c0_2]) (t := 26) ?hr ?_; (case hd => rfl); (case hg => rfl); (case hr => first | (go_simp; done) | (go_simp; rfl)); intro gb402 hg w3 hbox hb; have BK402 := Aside0.mk (hbox); have GW402 := Aside0.mk ((z6 : w.heap.size ≤ gb402)); have GE402 := Aside0.mk ((z6 : w.heap.size ≤ gb402)); replace HB := zs0 hb; clear hb hbox hg)))
 go_loopg [5] k (fun kq v5 w' => ∃ (x5_1 : Int), v5 = .int .i64 x5_1 ∧ Aside0 (spec_l7Periods.l0 kq l1 x5_1 l0_0 l0_1 l0_2 = some r) ∧ Aside0 (kq ≤ k) ∧ Aside0 (w'.heap[gb402]? = some (.cells #[(.slice A0_0 l0_0.length c0_0), (.slice A0_1 l0_1.length c0_1), (.slice A0_2 l0_2.length c0_2)] 26 (0, 0))) ∧ Aside0 (Below w.heap.size w w'))
 case atStart => exact ⟨(0), z3, H', ⟨Nat.le_refl _⟩, ⟨(zB BK402.out)⟩, ⟨(zH1 GE402.out)⟩⟩
 case round =>
  clear H'
  try clear c1
  try clear p2
  obtain ⟨x5_1, rfl, HA, HK1, BK402, HB⟩ := hrel
  cases gk with
  | zero => exact absurd HA.out (by simp [spec_l7Periods.l0])
  | succ k1 =>
   have H := HA.out
   clear HA
   simp only [spec_l7Periods.l0] at H
   by_cases c4 : x5_1 < (l1.length : Int)
   · rw [if_pos c4] at H
     have c4b0 : decide (x5_1 < (l1.length : Int)) = true := decide_eq_true c4
     clear c4
     by_cases c5 : 0 ≤ x5_1
     · rw [if_pos c5] at H
       have c5b0 : decide (0 ≤ x5_1) = true := decide_eq_true c5
       clear c5
       replace H := Option.bind_eq_some_iff.mp H
       obtain ⟨t404, A60, H⟩ := H
       replace H : (if t404 = true then (if x5_1 > 0 then (if 0 ≤ (wrap64 (x5_1 - 1)) then (if (wrap64 (x5_1 - 1)) < (l1.length : Int) then ((spec_l7Within.f k1 (rd_L2 l1 (wrap64 (x5_1 - 1))) (rd_L2 l1 x5_1)).bind fun t407 => (if t407 = true then (spec_l7Periods.l0 k1 l1 (wrap64 (x5_1 + 1)) l0_0 l0_1 l0_2) else (some false))) else (none)) else (none)) else (spec_l7Periods.l0 k1 l1 (wrap64 (x5_1 + 1)) l0_0 l0_1 l0_2)) else (some false)) = some r := H
       have A6 := Aside0.mk A60
       clear A60
       by_cases c7 : t404 = true
       · subst c7
         have H1 : (if x5_1 > 0 then (if 0 ≤ (wrap64 (x5_1 - 1)) then (if (wrap64 (x5_1 - 1)) < (l1.length : Int) then ((spec_l7Within.f k1 (rd_L2 l1 (wrap64 (x5_1 - 1))) (rd_L2 l1 x5_1)).bind fun t407 => (if t407 = true then (spec_l7Periods.l0 k1 l1 (wrap64 (x5_1 + 1)) l0_0 l0_1 l0_2) else (some false))) else (none)) else (none)) else (spec_l7Periods.l0 k1 l1 (wrap64 (x5_1 + 1)) l0_0 l0_1 l0_2)) = some r := by rw [if_pos rfl] at H; exact H
         clear H
         have H := H1
         clear H1
         by_cases c8 : x5_1 > 0
         · rw [if_pos c8] at H
           have c8b0 : decide (0 < x5_1) = true := decide_eq_true c8
           clear c8
           obtain ⟨ji9, hji9⟩ : ∃ j_ : Int, (wrap64 (x5_1 - 1)) = j_ := ⟨_, rfl⟩
           replace H : (if 0 ≤ (ji9) then (if (ji9) < (l1.length : Int) then ((spec_l7Within.f k1 (rd_L2 l1 (ji9)) (rd_L2 l1 x5_1)).bind fun t407 => (if t407 = true then (spec_l7Periods.l0 k1 l1 (wrap64 (x5_1 + 1)) l0_0 l0_1 l0_2) else (some false))) else (none)) else (none)) = some r := by first | (rw [hji9] at H; exact H) | (simp only [hji9] at H ⊢; exact H)
           (try rw [hji9] at A6)
           have hji9w : (IntKind.i64.wrap (x5_1 - 1)) = ji9 := (i64_w _).trans hji9
           by_cases c10 : 0 ≤ (ji9)
           · rw [if_pos c10] at H
             have c10b0 : decide (0 ≤ (ji9)) = true := decide_eq_true c10
             clear c10
             by_cases c11 : (ji9) < (l1.length : Int)
             · rw [if_pos c11] at H
               have c11b0 : decide ((ji9) < (l1.length : Int)) = true := decide_eq_true c11
               clear c11
               replace H := Option.bind_eq_some_iff.mp H
               obtain ⟨t407, A120, H⟩ := H
               replace H : (if t407 = true then (spec_l7Periods.l0 k1 l1 (wrap64 (x5_1 + 1)) l0_0 l0_1 l0_2) else (some false)) = some r := H
               have A12 := Aside0.mk A120
               clear A120
               by_cases c13 : t407 = true
               · subst c13
                 have H1 : (spec_l7Periods.l0 k1 l1 (wrap64 (x5_1 + 1)) l0_0 l0_1 l0_2) = some r := by rw [if_pos rfl] at H; exact H
                 clear H
                 have H := H1
                 clear H1
                 have H' := Aside0.mk H
                 clear H
                 have p403 : 0 ≤ (x5_1 : Int) := of_decide_eq_true z1
                 have q403 : x5_1 < (l1.length : Int) := of_decide_eq_true z1
                 obtain ⟨ad403, A403_0, c403_0, e403, hx403_0, hl403_0, hi403_0⟩ := at_L2 HR1.out x5_1 p403 q403
                 cases e403
                 replace hx403_0 := (HB.out.cell (World.block_lt_of_cell? w _ hx403_0)).trans hx403_0
                 have HR403_0 := Aside0.mk hi403_0
                 have HC403_0 := Aside0.mk hl403_0
                 clear hi403_0 hl403_0
                 replace p403 := eq_true p403
                 replace q403 := eq_true q403
                 obtain ⟨hcz14_0, hcz14_1, hcz14_2, hfz14_0, hfz14_1, hfz14_2⟩ := zc3 BK402.out
                 have p405 : 0 ≤ ((ji9) : Int) := of_decide_eq_true z1; have q405 : (ji9) < (l1.length : Int) := of_decide_eq_true z1; obtain ⟨ad405, A405_0, c405_0, e405, hx405_0, hl405_0, hi405_0⟩ := at_L2 HR1.out (ji9) p405 q405; obtain rfl : ad403 = ad405 := (by injection e405); replace hx405_0 := (HB.out.cell (World.block_lt_of_cell? w _ hx405_0)).trans hx405_0; have HR405_0 := Aside0.mk hi405_0; have HC405_0 := Aside0.mk hl405_0; clear hi405_0 hl405_0; replace p405 := eq_true p405; replace q405 := eq_true q405; have p406 : 0 ≤ (x5_1 : Int) := of_decide_eq_true z1; have q406 : x5_1 < (l1.length : Int) := of_decide_eq_true z1; obtain ⟨ad406, A406_0, c406_0, e406, hx406_0, hl406_0, hi406_0⟩ := at_L2 HR1.out x5_1 p406 q406; obtain rfl : ad403 = ad406 := (by injection e406); replace hx406_0 := (HB.out.cell (World.block_lt_of_cell? w _ hx406_0)).trans hx406_0; have HR406_0 := Aside0.mk hi406_0; have HC406_0 := Aside0.mk hl406_0; clear hi406_0 hl406_0; replace p406 := eq_true p406; replace q406 := eq_true q406; have ea_ := Option.some.inj (hx403_0.symm.trans hx406_0); injection ea_ with ea_ en_ ec_; subst ea_; subst ec_; clear en_
                 go_wp2_with (first | (go_at_call 113; (with_reducible refine (spec_l1Rising.calls k1 _ _ (rd_L2 l1 x5_1) 0 (wrap64 ((l0_0.length : Int) - 1)) true _ ?side1 ?side2 A6.out).mono ?_); (case side1 => exact zC (Kd.C_below HR403_0.out HB.out)); (case side2 => exact HC403_0.out); rintro e w' ⟨rfl, ⟨nd, rfl⟩⟩; (try first | exact ⟨rfl, _, World.drewN_drewN _ _ _⟩ | exact ⟨rfl, _, Eq.trans (World.drewN_drewN _ _ _) (congrArg (World.drewN _) (Nat.add_assoc _ _ _))⟩)) | (go_at_call 114; (with_reducible refine (spec_l7Within.calls k1 _ _ (rd_L2 l1 (ji9)) _ _ (rd_L2 l1 x5_1) true _ ?side1 ?side2 ?side3 ?side4 A12.out).mono ?_); (case side1 => repeat (first | exact (Kd.C_below HR405_0.out (zH1 GE402.out)) | (with_reducible refine Kd.C_alloc ?_ _) | (with_reducible refine Kd.C_drewN ?_ _) | (with_reducible refine Kd.C_drew ?_))); (case side2 => exact HC405_0.out); (case side3 => repeat (first | exact (Kd.C_below HR406_0.out (zH1 GE402.out)) | (with_reducible refine Kd.C_alloc ?_ _) | (with_reducible refine Kd.C_drewN ?_ _) | (with_reducible refine Kd.C_drew ?_))); (case side4 => exact HC406_0.out); rintro e w' ⟨rfl, ⟨nd, rfl⟩⟩; (try first | exact ⟨rfl, _, World.drewN_drewN _ _ _⟩ | exact ⟨rfl, _, Eq.trans (World.drewN_drewN _ _ _) (congrArg (World.drewN _) (Nat.add_assoc _ _ _))⟩)))
                 repeat (go_quiet (first | (go_at_call 113; (with_reducible refine (spec_l1Rising.calls k1 _ _ (rd_L2 l1 x5_1) 0 (wrap64 ((l0_0.length : Int) - 1)) true _ ?side1 ?side2 A6.out).mono ?_); (case side1 => exact zC (Kd.C_below HR403_0.out HB.out)); (case side2 => exact HC403_0.out); rintro e w' ⟨rfl, ⟨nd, rfl⟩⟩; (try first | exact ⟨rfl, _, World.drewN_drewN _ _ _⟩ | exact ⟨rfl, _, Eq.trans (World.drewN_drewN _ _ _) (congrArg (World.drewN _) (Nat.add_assoc _ _ _))⟩)) | (go_at_call 114; (with_reducible refine (spec_l7Within.calls k1 _ _ (rd_L2 l1 (ji9)) _ _ (rd_L2 l1 x5_1) true _ ?side1 ?side2 ?side3 ?side4 A12.out).mono ?_); (case side1 => repeat (first | exact (Kd.C_below HR405_0.out (zH1 GE402.out)) | (with_reducible refine Kd.C_alloc ?_ _) | (with_reducible refine Kd.C_drewN ?_ _) | (with_reducible refine Kd.C_drew ?_))); (case side2 => exact HC405_0.out); (case side3 => repeat (first | exact (Kd.C_below HR406_0.out (zH1 GE402.out)) | (with_reducible refine Kd.C_alloc ?_ _) | (with_reducible refine Kd.C_drewN ?_ _) | (with_reducible refine Kd.C_drew ?_))); (case side4 => exact HC406_0.out); rintro e w' ⟨rfl, ⟨nd, rfl⟩⟩; (try first | exact ⟨rfl, _, World.drewN_drewN _ _ _⟩ | exact ⟨rfl, _, Eq.trans (World.drewN_drewN _ _ _) (congrArg (World.drewN _) (Nat.add_assoc _ _ _))⟩))); try go_wp2_with (first | (go_at_call 113; (with_reducible refine (spec_l1Rising.calls k1 _ _ (rd_L2 l1 x5_1) 0 (wrap64 ((l0_0.length : Int) - 1)) true _ ?side1 ?side2 A6.out).mono ?_); (case side1 => exact zC (Kd.C_below HR403_0.out HB.out)); (case side2 => exact HC403_0.out); rintro e w' ⟨rfl, ⟨nd, rfl⟩⟩; (try first | exact ⟨rfl, _, World.drewN_drewN _ _ _⟩ | exact ⟨rfl, _, Eq.trans (World.drewN_drewN _ _ _) (congrArg (World.drewN _) (Nat.add_assoc _ _ _))⟩)) | (go_at_call 114; (with_reducible refine (spec_l7Within.calls k1 _ _ (rd_L2 l1 (ji9)) _ _ (rd_L2 l1 x5_1) true _ ?side1 ?side2 ?side3 ?side4 A12.out).mono ?_); (case side1 => repeat (first | exact (Kd.C_below HR405_0.out (zH1 GE402.out)) | (with_reducible refine Kd.C_alloc ?_ _) | (with_reducible refine Kd.C_drewN ?_ _) | (with_reducible refine Kd.C_drew ?_))); (case side2 => exact HC405_0.out); (case side3 => repeat (first | exact (Kd.C_below HR406_0.out (zH1 GE402.out)) | (with_reducible refine Kd.C_alloc ?_ _) | (with_reducible refine Kd.C_drewN ?_ _) | (with_reducible refine Kd.C_drew ?_))); (case side4 => exact HC406_0.out); rintro e w' ⟨rfl, ⟨nd, rfl⟩⟩; (try first | exact ⟨rfl, _, World.drewN_drewN _ _ _⟩ | exact ⟨rfl, _, Eq.trans (World.drewN_drewN _ _ _) (congrArg (World.drewN _) (Nat.add_assoc _ _ _))⟩))))
                 go_roundg k1
                 case measure => have := HK1.out; omega
                 case rel => exact ⟨(wrap64 (x5_1 + 1)), z3, H', ⟨z21⟩, ⟨(zB BK402.out)⟩, ⟨(zH1 GE402.out)⟩⟩
               · replace c13 := Bool.eq_false_iff.mpr c13
                 subst c13
                 have H1 : (some false) = some r := by rw [if_neg (show ¬ (false = true) by decide)] at H; exact H
                 clear H
                 have H := H1
                 clear H1
                 obtain rfl := Option.some.inj H
                 have p403 : 0 ≤ (x5_1 : Int) := of_decide_eq_true z1
                 have q403 : x5_1 < (l1.length : Int) := of_decide_eq_true z1
                 obtain ⟨ad403, A403_0, c403_0, e403, hx403_0, hl403_0, hi403_0⟩ := at_L2 HR1.out x5_1 p403 q403
                 cases e403
                 replace hx403_0 := (HB.out.cell (World.block_lt_of_cell? w _ hx403_0)).trans hx403_0
                 have HR403_0 := Aside0.mk hi403_0
                 have HC403_0 := Aside0.mk hl403_0
                 clear hi403_0 hl403_0
                 replace p403 := eq_true p403
                 replace q403 := eq_true q403
                 obtain ⟨hcz15_0, hcz15_1, hcz15_2, hfz15_0, hfz15_1, hfz15_2⟩ := zc3 BK402.out
                 have p405 : 0 ≤ ((ji9) : Int) := of_decide_eq_true z1; have q405 : (ji9) < (l1.length : Int) := of_decide_eq_true z1; obtain ⟨ad405, A405_0, c405_0, e405, hx405_0, hl405_0, hi405_0⟩ := at_L2 HR1.out (ji9) p405 q405; obtain rfl : ad403 = ad405 := (by injection e405); replace hx405_0 := (HB.out.cell (World.block_lt_of_cell? w _ hx405_0)).trans hx405_0; have HR405_0 := Aside0.mk hi405_0; have HC405_0 := Aside0.mk hl405_0; clear hi405_0 hl405_0; replace p405 := eq_true p405; replace q405 := eq_true q405; have p406 : 0 ≤ (x5_1 : Int) := of_decide_eq_true z1; have q406 : x5_1 < (l1.length : Int) := of_decide_eq_true z1; obtain ⟨ad406, A406_0, c406_0, e406, hx406_0, hl406_0, hi406_0⟩ := at_L2 HR1.out x5_1 p406 q406; obtain rfl : ad403 = ad406 := (by injection e406); replace hx406_0 := (HB.out.cell (World.block_lt_of_cell? w _ hx406_0)).trans hx406_0; have HR406_0 := Aside0.mk hi406_0; have HC406_0 := Aside0.mk hl406_0; clear hi406_0 hl406_0; replace p406 := eq_true p406; replace q406 := eq_true q406; have ea_ := Option.some.inj (hx403_0.symm.trans hx406_0); injection ea_ with ea_ en_ ec_; subst ea_; subst ec_; clear en_
                 go_wp2_with (first | (go_at_call 113; (with_reducible refine (spec_l1Rising.calls k1 _ _ (rd_L2 l1 x5_1) 0 (wrap64 ((l0_0.length : Int) - 1)) true _ ?side1 ?side2 A6.out).mono ?_); (case side1 => exact zC (Kd.C_below HR403_0.out HB.out)); (case side2 => exact HC403_0.out); rintro e w' ⟨rfl, ⟨nd, rfl⟩⟩; (try first | exact ⟨rfl, _, World.drewN_drewN _ _ _⟩ | exact ⟨rfl, _, Eq.trans (World.drewN_drewN _ _ _) (congrArg (World.drewN _) (Nat.add_assoc _ _ _))⟩)) | (go_at_call 114; (with_reducible refine (spec_l7Within.calls k1 _ _ (rd_L2 l1 (ji9)) _ _ (rd_L2 l1 x5_1) false _ ?side1 ?side2 ?side3 ?side4 A12.out).mono ?_); (case side1 => repeat (first | exact (Kd.C_below HR405_0.out (zH1 GE402.out)) | (with_reducible refine Kd.C_alloc ?_ _) | (with_reducible refine Kd.C_drewN ?_ _) | (with_reducible refine Kd.C_drew ?_))); (case side2 => exact HC405_0.out); (case side3 => repeat (first | exact (Kd.C_below HR406_0.out (zH1 GE402.out)) | (with_reducible refine Kd.C_alloc ?_ _) | (with_reducible refine Kd.C_drewN ?_ _) | (with_reducible refine Kd.C_drew ?_))); (case side4 => exact HC406_0.out); rintro e w' ⟨rfl, ⟨nd, rfl⟩⟩; (try first | exact ⟨rfl, _, World.drewN_drewN _ _ _⟩ | exact ⟨rfl, _, Eq.trans (World.drewN_drewN _ _ _) (congrArg (World.drewN _) (Nat.add_assoc _ _ _))⟩)))
                 repeat (go_quiet (first | (go_at_call 113; (with_reducible refine (spec_l1Rising.calls k1 _ _ (rd_L2 l1 x5_1) 0 (wrap64 ((l0_0.length : Int) - 1)) true _ ?side1 ?side2 A6.out).mono ?_); (case side1 => exact zC (Kd.C_below HR403_0.out HB.out)); (case side2 => exact HC403_0.out); rintro e w' ⟨rfl, ⟨nd, rfl⟩⟩; (try first | exact ⟨rfl, _, World.drewN_drewN _ _ _⟩ | exact ⟨rfl, _, Eq.trans (World.drewN_drewN _ _ _) (congrArg (World.drewN _) (Nat.add_assoc _ _ _))⟩)) | (go_at_call 114; (with_reducible refine (spec_l7Within.calls k1 _ _ (rd_L2 l1 (ji9)) _ _ (rd_L2 l1 x5_1) false _ ?side1 ?side2 ?side3 ?side4 A12.out).mono ?_); (case side1 => repeat (first | exact (Kd.C_below HR405_0.out (zH1 GE402.out)) | (with_reducible refine Kd.C_alloc ?_ _) | (with_reducible refine Kd.C_drewN ?_ _) | (with_reducible refine Kd.C_drew ?_))); (case side2 => exact HC405_0.out); (case side3 => repeat (first | exact (Kd.C_below HR406_0.out (zH1 GE402.out)) | (with_reducible refine Kd.C_alloc ?_ _) | (with_reducible refine Kd.C_drewN ?_ _) | (with_reducible refine Kd.C_drew ?_))); (case side4 => exact HC406_0.out); rintro e w' ⟨rfl, ⟨nd, rfl⟩⟩; (try first | exact ⟨rfl, _, World.drewN_drewN _ _ _⟩ | exact ⟨rfl, _, Eq.trans (World.drewN_drewN _ _ _) (congrArg (World.drewN _) (Nat.add_assoc _ _ _))⟩))); try go_wp2_with (first | (go_at_call 113; (with_reducible refine (spec_l1Rising.calls k1 _ _ (rd_L2 l1 x5_1) 0 (wrap64 ((l0_0.length : Int) - 1)) true _ ?side1 ?side2 A6.out).mono ?_); (case side1 => exact zC (Kd.C_below HR403_0.out HB.out)); (case side2 => exact HC403_0.out); rintro e w' ⟨rfl, ⟨nd, rfl⟩⟩; (try first | exact ⟨rfl, _, World.drewN_drewN _ _ _⟩ | exact ⟨rfl, _, Eq.trans (World.drewN_drewN _ _ _) (congrArg (World.drewN _) (Nat.add_assoc _ _ _))⟩)) | (go_at_call 114; (with_reducible refine (spec_l7Within.calls k1 _ _ (rd_L2 l1 (ji9)) _ _ (rd_L2 l1 x5_1) false _ ?side1 ?side2 ?side3 ?side4 A12.out).mono ?_); (case side1 => repeat (first | exact (Kd.C_below HR405_0.out (zH1 GE402.out)) | (with_reducible refine Kd.C_alloc ?_ _) | (with_reducible refine Kd.C_drewN ?_ _) | (with_reducible refine Kd.C_drew ?_))); (case side2 => exact HC405_0.out); (case side3 => repeat (first | exact (Kd.C_below HR406_0.out (zH1 GE402.out)) | (with_reducible refine Kd.C_alloc ?_ _) | (with_reducible refine Kd.C_drewN ?_ _) | (with_reducible refine Kd.C_drew ?_))); (case side4 => exact HC406_0.out); rintro e w' ⟨rfl, ⟨nd, rfl⟩⟩; (try first | exact ⟨rfl, _, World.drewN_drewN _ _ _⟩ | exact ⟨rfl, _, Eq.trans (World.drewN_drewN _ _ _) (congrArg (World.drewN _) (Nat.add_assoc _ _ _))⟩))))
                 go_ret
                 exact ⟨(by first | rfl | (simp [errW_none, errW_some] <;> rfl) | (simp only [← hji9]; first | rfl | (simp [errW_none, errW_some] <;> rfl)) | (simp [*, errW_none, errW_some] <;> rfl)), (zH1 GE402.out)⟩
             · rw [if_neg c11] at H
               exact absurd H (by simp)
           · rw [if_neg c10] at H
             exact absurd H (by simp)
         · rw [if_neg c8] at H
           have c8b0 : decide (0 < x5_1) = false := decide_eq_false c8
           clear c8
           have H' := Aside0.mk H
           clear H
           have p403 : 0 ≤ (x5_1 : Int) := of_decide_eq_true z1
           have q403 : x5_1 < (l1.length : Int) := of_decide_eq_true z1
           obtain ⟨ad403, A403_0, c403_0, e403, hx403_0, hl403_0, hi403_0⟩ := at_L2 HR1.out x5_1 p403 q403
           cases e403
           replace hx403_0 := (HB.out.cell (World.block_lt_of_cell? w _ hx403_0)).trans hx403_0
           have HR403_0 := Aside0.mk hi403_0
           have HC403_0 := Aside0.mk hl403_0
           clear hi403_0 hl403_0
           replace p403 := eq_true p403
           replace q403 := eq_true q403
           obtain ⟨hcz16_0, hcz16_1, hcz16_2, hfz16_0, hfz16_1, hfz16_2⟩ := zc3 BK402.out
           go_wp2_with (first | (go_at_call 113; (with_reducible refine (spec_l1Rising.calls k1 _ _ (rd_L2 l1 x5_1) 0 (wrap64 ((l0_0.length : Int) - 1)) true _ ?side1 ?side2 A6.out).mono ?_); (case side1 => exact zC (Kd.C_below HR403_0.out HB.out)); (case side2 => exact HC403_0.out); rintro e w' ⟨rfl, ⟨nd, rfl⟩⟩; (try first | exact ⟨rfl, _, World.drewN_drewN _ _ _⟩ | exact ⟨rfl, _, Eq.trans (World.drewN_drewN _ _ _) (congrArg (World.drewN _) (Nat.add_assoc _ _ _))⟩)))
           repeat (go_quiet (first | (go_at_call 113; (with_reducible refine (spec_l1Rising.calls k1 _ _ (rd_L2 l1 x5_1) 0 (wrap64 ((l0_0.length : Int) - 1)) true _ ?side1 ?side2 A6.out).mono ?_); (case side1 => exact zC (Kd.C_below HR403_0.out HB.out)); (case side2 => exact HC403_0.out); rintro e w' ⟨rfl, ⟨nd, rfl⟩⟩; (try first | exact ⟨rfl, _, World.drewN_drewN _ _ _⟩ | exact ⟨rfl, _, Eq.trans (World.drewN_drewN _ _ _) (congrArg (World.drewN _) (Nat.add_assoc _ _ _))⟩))); try go_wp2_with (first | (go_at_call 113; (with_reducible refine (spec_l1Rising.calls k1 _ _ (rd_L2 l1 x5_1) 0 (wrap64 ((l0_0.length : Int) - 1)) true _ ?side1 ?side2 A6.out).mono ?_); (case side1 => exact zC (Kd.C_below HR403_0.out HB.out)); (case side2 => exact HC403_0.out); rintro e w' ⟨rfl, ⟨nd, rfl⟩⟩; (try first | exact ⟨rfl, _, World.drewN_drewN _ _ _⟩ | exact ⟨rfl, _, Eq.trans (World.drewN_drewN _ _ _) (congrArg (World.drewN _) (Nat.add_assoc _ _ _))⟩))))
           go_roundg k1
           case measure => have := HK1.out; omega
           case rel => exact ⟨(wrap64 (x5_1 + 1)), z3, H', ⟨z21⟩, ⟨(zB BK402.out)⟩, ⟨(zH1 GE402.out)⟩⟩
       · replace c7 := Bool.eq_false_iff.mpr c7
         subst c7
         have H1 : (some false) = some r := by rw [if_neg (show ¬ (false = true) by decide)] at H; exact H
         clear H
         have H := H1
         clear H1
         obtain rfl := Option.some.inj H
         have p403 : 0 ≤ (x5_1 : Int) := of_decide_eq_true z1
         have q403 : x5_1 < (l1.length : Int) := of_decide_eq_true z1
         obtain ⟨ad403, A403_0, c403_0, e403, hx403_0, hl403_0, hi403_0⟩ := at_L2 HR1.out x5_1 p403 q403
         cases e403
         replace hx403_0 := (HB.out.cell (World.block_lt_of_cell? w _ hx403_0)).trans hx403_0
         have HR403_0 := Aside0.mk hi403_0
         have HC403_0 := Aside0.mk hl403_0
         clear hi403_0 hl403_0
         replace p403 := eq_true p403
         replace q403 := eq_true q403
         obtain ⟨hcz17_0, hcz17_1, hcz17_2, hfz17_0, hfz17_1, hfz17_2⟩ := zc3 BK402.out
         go_wp2_with (first | (go_at_call 113; (with_reducible refine (spec_l1Rising.calls k1 _ _ (rd_L2 l1 x5_1) 0 (wrap64 ((l0_0.length : Int) - 1)) false _ ?side1 ?side2 A6.out).mono ?_); (case side1 => exact zC (Kd.C_below HR403_0.out HB.out)); (case side2 => exact HC403_0.out); rintro e w' ⟨rfl, ⟨nd, rfl⟩⟩; (try first | exact ⟨rfl, _, World.drewN_drewN _ _ _⟩ | exact ⟨rfl, _, Eq.trans (World.drewN_drewN _ _ _) (congrArg (World.drewN _) (Nat.add_assoc _ _ _))⟩)))
         repeat (go_quiet (first | (go_at_call 113; (with_reducible refine (spec_l1Rising.calls k1 _ _ (rd_L2 l1 x5_1) 0 (wrap64 ((l0_0.length : Int) - 1)) false _ ?side1 ?side2 A6.out).mono ?_); (case side1 => exact zC (Kd.C_below HR403_0.out HB.out)); (case side2 => exact HC403_0.out); rintro e w' ⟨rfl, ⟨nd, rfl⟩⟩; (try first | exact ⟨rfl, _, World.drewN_drewN _ _ _⟩ | exact ⟨rfl, _, Eq.trans (World.drewN_drewN _ _ _) (congrArg (World.drewN _) (Nat.add_assoc _ _ _))⟩))); try go_wp2_with (first | (go_at_call 113; (with_reducible refine (spec_l1Rising.calls k1 _ _ (rd_L2 l1 x5_1) 0 (wrap64 ((l0_0.length : Int) - 1)) false _ ?side1 ?side2 A6.out).mono ?_); (case side1 => exact zC (Kd.C_below HR403_0.out HB.out)); (case side2 => exact HC403_0.out); rintro e w' ⟨rfl, ⟨nd, rfl⟩⟩; (try first | exact ⟨rfl, _, World.drewN_drewN _ _ _⟩ | exact ⟨rfl, _, Eq.trans (World.drewN_drewN _ _ _) (congrArg (World.drewN _) (Nat.add_assoc _ _ _))⟩))))
         go_ret
         exact ⟨z5, (zH1 GE402.out)⟩
     · rw [if_neg c5] at H
       exact absurd H (by simp)
   · rw [if_neg c4] at H
     have c4b0 : decide (x5_1 < (l1.length : Int)) = false := decide_eq_false c4
     clear c4
     obtain rfl := Option.some.inj H
     obtain ⟨hcz18_0, hcz18_1, hcz18_2, hfz18_0, hfz18_1, hfz18_2⟩ := zc3 BK402.out
     go_wp2
     repeat (go_quiet (fail); try go_wp2)
     go_ret
     exact ⟨z5, (zH1 GE402.out)⟩
def spec_l7Fed.l0 : Nat → List Int → List Int → Int → Option (Bool)
 | 0, _, _, _ => none
 | k + 1, x0, x1, x5 => if x5 < (x0.length : Int) then (if 0 ≤ x5 then (if (rd x0 x5) > 0 then (if (x1.length : Int) > 0 then (if 0 < (x1.length : Int) then (some (decide ((rd x1 0) ≤ x5))) else (none)) else (some false)) else (spec_l7Fed.l0 k x0 x1 (wrap64 (x5 + 1)))) else (none)) else (some true)
def spec_l7Fed.f (k : Nat) (l0 : List Int) (l1 : List Int) : Option (Bool) := spec_l7Fed.l0 k l0 l1 0
set_option maxHeartbeats 8000000 in
set_option maxRecDepth 100000 in
theorem spec_l7Fed.calls (k : Nat) (A0 : Option Addr) (c0 : Nat) (l0 : List Int) (A1 : Option Addr) (c1 : Nat) (l1 : List Int) (r : Bool) (w : World) (hr0 : Kd.C (Kd.int .i64) w A0 l0.length l0) (hc0 : l0.length ≤ c0) (hr1 : Kd.C (Kd.int .i64) w A1 l1.length l1) (hc1 : l1.length ≤ c1) (h : spec_l7Fed.f k l0 l1 = some r) :
 Calls Try.prog 63 #[.slice A0 l0.length c0, .slice A1 l1.length c1] w fun e w' => e = .returned (.bool r) ∧ Drawn0 w w' := by
 have HR0 := Aside0.mk hr0
 have HC0 := Aside0.mk hc0
 clear hr0 hc0
 have HR1 := Aside0.mk hr1
 have HC1 := Aside0.mk hc1
 clear hr1 hc1
 have H : (spec_l7Fed.l0 k l0 l1 0) = some r := h
 clear h
 have H' := Aside0.mk H
 clear H
 go_enter Try.func63, Try.ntmps63
 go_wp2
 go_loopg [5] k (fun kq v5 w' => ∃ (x5_1 : Int), v5 = .int .i64 x5_1 ∧ Aside0 (spec_l7Fed.l0 kq l0 l1 x5_1 = some r) ∧ Aside0 (kq ≤ k) ∧ Drawn0 w w')
 case atStart => exact ⟨(0), z3, H', ⟨Nat.le_refl _⟩, z4⟩
 case round =>
  clear H'
  try clear c1
  try clear p2
  obtain ⟨x5_1, rfl, HA, HK1, ⟨m1, rfl⟩⟩ := hrel
  cases gk with
  | zero => exact absurd HA.out (by simp [spec_l7Fed.l0])
  | succ k1 =>
   have H := HA.out
   clear HA
   simp only [spec_l7Fed.l0] at H
   by_cases c3 : x5_1 < (l0.length : Int)
   · rw [if_pos c3] at H
     have c3b0 : decide (x5_1 < (l0.length : Int)) = true := decide_eq_true c3
     clear c3
     by_cases c4 : 0 ≤ x5_1
     · rw [if_pos c4] at H
       have c4b0 : decide (0 ≤ x5_1) = true := decide_eq_true c4
       clear c4
       by_cases c5 : (rd l0 x5_1) > 0
       · rw [if_pos c5] at H
         have c5b0 : decide (0 < (rd l0 x5_1)) = true := decide_eq_true c5
         clear c5
         by_cases c6 : (l1.length : Int) > 0
         · rw [if_pos c6] at H
           have c6b0 : decide (0 < (l1.length : Int)) = true := decide_eq_true c6
           have c6b1 : decide (0 < l1.length) = true := decide_eq_true (by omega)
           clear c6
           by_cases c7 : 0 < (l1.length : Int)
           · rw [if_pos c7] at H
             have c7b0 : decide (0 < (l1.length : Int)) = true := decide_eq_true c7
             have c7b1 : decide (0 < l1.length) = true := decide_eq_true (by omega)
             clear c7
             obtain rfl := Option.some.inj H
             have p408 : 0 ≤ (x5_1 : Int) := of_decide_eq_true z1
             have q408 : x5_1 < (l0.length : Int) := of_decide_eq_true z1
             obtain ⟨ad408, e408, hx408_0⟩ := Kd.at_int HR0.out x5_1 p408 q408
             cases e408
             replace p408 := eq_true p408
             replace q408 := eq_true q408
             have p409 : 0 ≤ (0 : Int) := (by omega)
             have q409 : 0 < (l1.length : Int) := of_decide_eq_true z1
             obtain ⟨ad409, e409, hx409_0⟩ := Kd.at_int HR1.out 0 p409 q409
             cases e409
             have qi409 : (0 < l1.length) = True := eq_true (by omega)
             (try rw [show ((0 : Int)).toNat = 0 from rfl] at hx409_0)
             (try rw [Addr.add_zero'] at hx409_0)
             replace p409 := eq_true p409
             replace q409 := eq_true q409
             go_wp2
             go_ret
             exact ⟨z3, z4⟩
           · rw [if_neg c7] at H
             exact absurd H (by simp)
         · rw [if_neg c6] at H
           have c6b0 : decide (0 < (l1.length : Int)) = false := decide_eq_false c6
           have c6b1 : decide (0 < l1.length) = false := decide_eq_false (by omega)
           clear c6
           obtain rfl := Option.some.inj H
           have p408 : 0 ≤ (x5_1 : Int) := of_decide_eq_true z1
           have q408 : x5_1 < (l0.length : Int) := of_decide_eq_true z1
           obtain ⟨ad408, e408, hx408_0⟩ := Kd.at_int HR0.out x5_1 p408 q408
           cases e408
           replace p408 := eq_true p408
           replace q408 := eq_true q408
           go_wp2
           go_ret
           exact ⟨z3, z4⟩
       · rw [if_neg c5] at H
         have c5b0 : decide (0 < (rd l0 x5_1)) = false := decide_eq_false c5
         clear c5
         have H' := Aside0.mk H
         clear H
         have p408 : 0 ≤ (x5_1 : Int) := of_decide_eq_true z1
         have q408 : x5_1 < (l0.length : Int) := of_decide_eq_true z1
         obtain ⟨ad408, e408, hx408_0⟩ := Kd.at_int HR0.out x5_1 p408 q408
         cases e408
         replace p408 := eq_true p408
         replace q408 := eq_true q408
         go_wp2
         go_roundg k1
         case measure => have := HK1.out; omega
         case rel => exact ⟨(wrap64 (x5_1 + 1)), z3, H', ⟨z21⟩, z4⟩
     · rw [if_neg c4] at H
       exact absurd H (by simp)
   · rw [if_neg c3] at H
     have c3b0 : decide (x5_1 < (l0.length : Int)) = false := decide_eq_false c3
     clear c3
     obtain rfl := Option.some.inj H
     go_wp2
     go_ret
     exact ⟨z3, z4⟩
def spec_l7Row.l0 : Nat → List Int → List Int → List Int → Int → Option (List Int)
 | 0, _, _, _, _ => none
 | k + 1, x0, x1, x5, x6 => if x6 < (x1.length : Int) then (if (wrap64 (x6 + 1)) < (x1.length : Int) then (if 0 ≤ (wrap64 (x6 + 1)) then (if 0 ≤ x6 then (if 0 ≤ (rd x1 x6) then (if (rd x1 x6) ≤ (rd x1 (wrap64 (x6 + 1))) then (if (rd x1 (wrap64 (x6 + 1))) ≤ (x0.length : Int) then ((spec_l2Sum.f k ((x0.take ((rd x1 (wrap64 (x6 + 1))) : Int).toNat).drop ((rd x1 x6) : Int).toNat)).bind fun t418 => (if (rd x1 x6) < (x5.length : Int) then (spec_l7Row.l0 k x0 x1 (x5.set ((rd x1 x6) : Int).toNat t418) (wrap64 (x6 + 1))) else (none))) else (none)) else (none)) else (none)) else (none)) else (none)) else (if 0 ≤ x6 then (if 0 ≤ (rd x1 x6) then (if (rd x1 x6) ≤ (x0.length : Int) then (if (x0.length : Int) ≤ (x0.length : Int) then ((spec_l2Sum.f k ((x0.take ((x0.length : Int) : Int).toNat).drop ((rd x1 x6) : Int).toNat)).bind fun t423 => (if (rd x1 x6) < (x5.length : Int) then (spec_l7Row.l0 k x0 x1 (x5.set ((rd x1 x6) : Int).toNat t423) (wrap64 (x6 + 1))) else (none))) else (none)) else (none)) else (none)) else (none))) else (some x5)
def spec_l7Row.f (k : Nat) (l0 : List Int) (l1 : List Int) : Option (List Int) := if 0 ≤ (l0.length : Int) then (if ((l0.length : Int) : Int).toNat ≤ 35184372088832 then (spec_l7Row.l0 k l0 l1 (List.replicate ((l0.length : Int) : Int).toNat 0) 0) else (none)) else (none)
def spec_l7Row.T8 : Bool × List (List Nat × List Nat) := (true, [([], []), ([], []), ([], []), ([1, 2], [1, 2]), ([3], [3]), ([], []), ([], []), ([], []), ([6, 7], [6, 7]), ([8], [8]), ([], []), ([5, 9, 10], [5, 9, 10]), ([11], [11]), ([0, 4, 0, 1, 2, 3, 4, 5, 6, 7, 8, 9, 10, 11, 12], [0, 4]), ([13, 12, 12, 0, 1, 2, 3, 4, 5, 6, 7, 8, 9, 10, 11, 12], [12, 13])])
def spec_l7Row.B8 : List Nat := [0, 0, 0, 6, 14, 0, 0, 0, 192, 448, 0, 2016, 4064, 8191, 16383]
theorem spec_l7Row.tab8 : rtab .any (opsOf Try.f64 8) = spec_l7Row.T8 := by kernel_rfl
theorem spec_l7Row.bits8 : waitsOk spec_l7Row.T8.2 spec_l7Row.B8 = true := by kernel_rfl
set_option maxHeartbeats 8000000 in
set_option maxRecDepth 100000 in
theorem spec_l7Row.calls (k : Nat) (A0 : Option Addr) (c0 : Nat) (l0 : List Int) (A1 : Option Addr) (c1 : Nat) (l1 : List Int) (r : List Int) (w : World) (hr0 : Kd.C (Kd.int .i64) w A0 l0.length l0) (hc0 : l0.length ≤ c0) (hr1 : Kd.C (Kd.int .i64) w A1 l1.length l1) (hc1 : l1.length ≤ c1) (h : spec_l7Row.f k l0 l1 = some r) :
 Calls Try.prog 64 #[.slice A0 l0.length c0, .slice A1 l1.length c1] w fun e w' => ∃ v0_ : Value, e = .returned (v0_) ∧ Kd.R (Kd.int .i64) 3 w' w.heap.size (fun _ => True) v0_ r ∧ Below w.heap.size w w' := by
 have HR0 := Aside0.mk hr0
 have HC0 := Aside0.mk hc0
 clear hr0 hc0
 have HR1 := Aside0.mk hr1
 have HC1 := Aside0.mk hc1
 clear hr1 hc1
 have HB := Aside0.mk (Below.refl w.heap.size w)
 have H : (if 0 ≤ (l0.length : Int) then (if ((l0.length : Int) : Int).toNat ≤ 35184372088832 then (spec_l7Row.l0 k l0 l1 (List.replicate ((l0.length : Int) : Int).toNat 0) 0) else (none)) else (none)) = some r := h
 clear h
 by_cases c3 : 0 ≤ (l0.length : Int)
 · rw [if_pos c3] at H
   have c3b0 := eq_true c3
   have c3b1 : decide (0 ≤ (l0.length : Int)) = true := decide_eq_true c3
   clear c3
   by_cases c4 : ((l0.length : Int) : Int).toNat ≤ 35184372088832
   · rw [if_pos c4] at H
     have c4b0 := eq_true c4
     have c4b1 : decide (((l0.length : Int) : Int).toNat ≤ 35184372088832) = true := decide_eq_true c4
     clear c4
     obtain ⟨y411, hy411⟩ : ∃ y_ : List Int, y_ = (List.replicate ((l0.length : Int) : Int).toNat 0) := ⟨_, rfl⟩
     replace H : (spec_l7Row.l0 k l0 l1 y411 0) = some r := zY hy411
     have Ny411 := Aside0.mk hy411
     clear hy411
     have H' := Aside0.mk H
     clear H
     go_enter Try.func64, Try.ntmps64
     go_wp2_with (first | ((with_reducible refine gate_dst (N := 10) rfl ?_); refine Kd.R_make (Kd.int .i64) _ 3 rfl (N := 10) rfl 24 _ _ rfl (l0.length : Int) rfl rfl Try.underlying24 (.int .i64 0) 8 info3 rfl (by decide) (by omega) 0 (ok := fun _ => True) (okp := fun _ => True) rfl (fun _ hk => hk) trivial (of_decide_eq_true z1) (Nat.le_trans (Nat.mul_le_mul_right _ (of_decide_eq_true z1 : (l0.length : Int).toNat ≤ 35184372088832)) (by omega)) (Below.refl _ _) (Nat.le_refl _) ?_; intro v412 w5 ho6 hb hg_ hnew_; clear hg_ hnew_; (first | rw [← Ny411.out] at ho6 | (simp only [Int.reduceToNat] at ho6; rw [← Ny411.out] at ho6)); have HO413 := Aside0.mk (Kd.R_lower ho6 (below_size zH0)); replace HB := zs0 hb; clear hb ho6))
     go_loopg [6] k (fun kq v6 w' => ∃ (x5_1 : List Int) (x6_1 : Int), v6 = .int .i64 x6_1 ∧ Aside0 (spec_l7Row.l0 kq l0 l1 x5_1 x6_1 = some r) ∧ Aside0 (kq ≤ k) ∧ Aside0 (Kd.R (Kd.int .i64) 3 w' w.heap.size (fun _ => True) v412 x5_1) ∧ Aside0 (Below w.heap.size w w'))
     case atStart => exact ⟨(y411), (0), z3, H', ⟨Nat.le_refl _⟩, ⟨(zR HO413.out)⟩, ⟨zH0⟩⟩
     case round =>
      clear H'
      try clear c1
      try clear p2
      try clear c3
      try clear c3b0
      try clear c3b1
      try clear c4
      try clear c4b0
      try clear c4b1
      try clear c6
      obtain ⟨x5_1, x6_1, rfl, HA, HK1, HO_5, HB⟩ := hrel
      cases gk with
      | zero => exact absurd HA.out (by simp [spec_l7Row.l0])
      | succ k1 =>
       have H := HA.out
       clear HA
       simp only [spec_l7Row.l0] at H
       by_cases c7 : x6_1 < (l1.length : Int)
       · rw [if_pos c7] at H
         have c7b0 : decide (x6_1 < (l1.length : Int)) = true := decide_eq_true c7
         clear c7
         by_cases c8 : (wrap64 (x6_1 + 1)) < (l1.length : Int)
         · rw [if_pos c8] at H
           have c8b0 : decide ((wrap64 (x6_1 + 1)) < (l1.length : Int)) = true := decide_eq_true c8
           clear c8
           obtain ⟨ji9, hji9⟩ : ∃ j_ : Int, (wrap64 (x6_1 + 1)) = j_ := ⟨_, rfl⟩
           replace H : (if 0 ≤ (ji9) then (if 0 ≤ x6_1 then (if 0 ≤ (rd l1 x6_1) then (if (rd l1 x6_1) ≤ (rd l1 (ji9)) then (if (rd l1 (ji9)) ≤ (l0.length : Int) then ((spec_l2Sum.f k1 ((l0.take ((rd l1 (ji9)) : Int).toNat).drop ((rd l1 x6_1) : Int).toNat)).bind fun t418 => (if (rd l1 x6_1) < (x5_1.length : Int) then (spec_l7Row.l0 k1 l0 l1 (x5_1.set ((rd l1 x6_1) : Int).toNat t418) ji9) else (none))) else (none)) else (none)) else (none)) else (none)) else (none)) = some r := by first | (rw [hji9] at H; exact H) | (simp only [hji9] at H ⊢; exact H)
           (try rw [hji9] at c8b0)
           have hji9w : (IntKind.i64.wrap (x6_1 + 1)) = ji9 := (i64_w _).trans hji9
           by_cases c10 : 0 ≤ (ji9)
           · rw [if_pos c10] at H
             have c10b0 : decide (0 ≤ (ji9)) = true := decide_eq_true c10
             clear c10
             by_cases c11 : 0 ≤ x6_1
             · rw [if_pos c11] at H
               have c11b0 : decide (0 ≤ x6_1) = true := decide_eq_true c11
               clear c11
               by_cases c12 : 0 ≤ (rd l1 x6_1)
               · rw [if_pos c12] at H
                 have c12b0 := eq_true c12
                 have c12b1 : decide (0 ≤ (rd l1 x6_1)) = true := decide_eq_true c12
                 clear c12
                 by_cases c13 : (rd l1 x6_1) ≤ (rd l1 (ji9))
                 · rw [if_pos c13] at H
                   have c13b0 := eq_true c13
                   have c13b1 : decide ((rd l1 x6_1) ≤ (rd l1 (ji9))) = true := decide_eq_true c13
                   clear c13
                   by_cases c14 : (rd l1 (ji9)) ≤ (l0.length : Int)
                   · rw [if_pos c14] at H
                     have c14b0 := eq_true c14
                     have c14b1 : decide ((rd l1 (ji9)) ≤ (l0.length : Int)) = true := decide_eq_true c14
                     clear c14
                     replace H := Option.bind_eq_some_iff.mp H
                     obtain ⟨t418, A150, H⟩ := H
                     replace H : (if (rd l1 x6_1) < (x5_1.length : Int) then (spec_l7Row.l0 k1 l0 l1 (x5_1.set ((rd l1 x6_1) : Int).toNat t418) ji9) else (none)) = some r := H
                     have A15 := Aside0.mk A150
                     clear A150
                     by_cases c16 : (rd l1 x6_1) < (x5_1.length : Int)
                     · rw [if_pos c16] at H
                       have c16b0 : decide ((rd l1 x6_1) < (x5_1.length : Int)) = true := decide_eq_true c16
                       clear c16
                       obtain ⟨y419, hy419⟩ : ∃ y_ : List Int, y_ = (x5_1.set ((rd l1 x6_1) : Int).toNat t418) := ⟨_, rfl⟩
                       replace H : (spec_l7Row.l0 k1 l0 l1 y419 ji9) = some r := zY hy419
                       have Ny419 := Aside0.mk hy419
                       clear hy419
                       have H' := Aside0.mk H
                       clear H
                       have p414 : 0 ≤ ((ji9) : Int) := of_decide_eq_true z1
                       have q414 : (ji9) < (l1.length : Int) := of_decide_eq_true z1
                       obtain ⟨ad414, e414, hx414_0⟩ := Kd.at_int HR1.out (ji9) p414 q414
                       cases e414
                       replace hx414_0 := (HB.out.cell (World.block_lt_of_cell? w _ hx414_0)).trans hx414_0
                       replace p414 := eq_true p414
                       replace q414 := eq_true q414
                       try go_wp2
                       replace HO_5 := Aside0.mk (Kd.R_drew HO_5.out)
                       replace HB := Aside0.mk (below_drew1 HB.out)
                       have p415 : 0 ≤ (x6_1 : Int) := of_decide_eq_true z1
                       have q415 : x6_1 < (l1.length : Int) := of_decide_eq_true z1
                       obtain ⟨ad415, e415, hx415_0⟩ := Kd.at_int HR1.out x6_1 p415 q415
                       have hw415_0 := hx415_0
                       obtain rfl : ad414 = ad415 := (by injection e415)
                       replace hx415_0 := (HB.out.cell (World.block_lt_of_cell? w _ hx415_0)).trans hx415_0
                       replace p415 := eq_true p415
                       replace q415 := eq_true q415
                       have p416 : 0 ≤ (x6_1 : Int) := of_decide_eq_true z1
                       have q416 : x6_1 < (l1.length : Int) := of_decide_eq_true z1
                       obtain ⟨ad416, e416, hx416_0⟩ := Kd.at_int HR1.out x6_1 p416 q416
                       have hw416_0 := hx416_0
                       obtain rfl : ad414 = ad416 := (by injection e416)
                       replace hx416_0 := (HB.out.cell (World.block_lt_of_cell? w _ hx416_0)).trans hx416_0
                       replace p416 := eq_true p416
                       replace q416 := eq_true q416
                       obtain ⟨i019, hi019, _, hsz19, _⟩ := info_parts info3
                       obtain ⟨A19, hcut19, hA19, hC19⟩ := print_mid_of (P := Try.prog) (Value.int .i64) 0 24 3 .i64 .i64 Try.underlying24 hi019 hsz19 A0 c0 l0 (rd l1 x6_1) (rd l1 (ji9)) (of_decide_eq_true z1) (by first | omega | exact of_decide_eq_true z1) (of_decide_eq_true z1) HC0.out
                       have HR417 := Aside0.mk (Kd.C_of_reads (h1 := fun _ => rfl) (hA19 _ (Kd.reads_of_C HR0.out)))
                       have HC417 := Aside0.mk hC19
                       clear hA19 hC19 hi019 hsz19
                       refine start_ (n := 15) (S := fun w' => w'.cell? (ad414.add (x6_1).toNat) = some (.int .i64 (rd l1 x6_1)) ∧ w'.cell? (ad414.add (x6_1).toNat) = some (.int .i64 (rd l1 x6_1))) (ds := [14]) #[false, false, false, false, false, false, false, false, false, false, false, false, false, false, false] (by kernel_rfl) rfl rfl ⟨((HB.out.cell (World.block_lt_of_cell? w _ hw415_0)).trans hw415_0), ((HB.out.cell (World.block_lt_of_cell? w _ hw416_0)).trans hw416_0)⟩ (fun hHeld => ?_); refine with_tabW spec_l7Row.tab8 spec_l7Row.bits8 (fun HT_ HW_ => ?_)
                       generalize wr.drew = w18 at HO_5 HB HR417 hx415_0 hx416_0 hHeld ⊢
                       refine zP (i := 0) (N := some 29) #[true, false, false, false, false, false, false, false, false, false, false, false, false, false, false] (any_of HT_.out (by kernel_rfl)) ?_
                       refine zP (i := 1) (N := some 30) #[true, true, false, false, false, false, false, false, false, false, false, false, false, false, false] (any_of HT_.out (by kernel_rfl)) ?_
                       refine zP (i := 2) (N := some 31) #[true, true, true, false, false, false, false, false, false, false, false, false, false, false, false] (any_of HT_.out (by kernel_rfl)) ?_
                       refine zP (i := 3) (N := some 32) #[true, true, true, true, false, false, false, false, false, false, false, false, false, false, false] (any_of HT_.out (by kernel_rfl)) ?_
                       refine zP (i := 5) (N := some 34) #[true, true, true, true, false, true, false, false, false, false, false, false, false, false, false] (any_of HT_.out (by kernel_rfl)) ?_
                       refine zP (i := 6) (N := some 35) #[true, true, true, true, false, true, true, false, false, false, false, false, false, false, false] (any_of HT_.out (by kernel_rfl)) ?_
                       refine zP (i := 7) (N := some 36) #[true, true, true, true, false, true, true, true, false, false, false, false, false, false, false] (any_of HT_.out (by kernel_rfl)) ?_
                       refine zP (i := 8) (N := some 37) #[true, true, true, true, false, true, true, true, true, false, false, false, false, false, false] (any_of HT_.out (by kernel_rfl)) ?_
                       refine zP (i := 10) (N := some 39) #[true, true, true, true, false, true, true, true, true, false, true, false, false, false, false] (any_of HT_.out (by kernel_rfl)) ?_
                       refine take_ (i := 4) (N := some 33) (v := ?_) (a' := ?_) #[true, true, true, true, true, true, true, true, true, false, true, false, false, false, false] rfl rfl (take_ofW HT_.out HW_.out (by kernel_rfl)) (fun _ _ _ h => h) (Or.inl ⟨(by rfl), ?_⟩) hHeld ?_ ?_
                       rotate_left
                       · rintro w' ⟨s0, s1⟩
                         go_simp
                         with_reducible rfl
                       rotate_left
                       · simp only [Act.put, List.setIfInBounds_toArray, List.set_cons_zero, List.set_cons_succ, i64_w, i32_w]
                         rfl
                       refine take_ (i := 9) (N := some 38) (v := ?_) (a' := ?_) #[true, true, true, true, true, true, true, true, true, true, true, false, false, false, false] rfl rfl (take_ofW HT_.out HW_.out (by kernel_rfl)) (fun _ _ _ h => h) (Or.inl ⟨(by rfl), ?_⟩) hHeld ?_ ?_
                       rotate_left
                       · rintro w' ⟨s0, s1⟩
                         go_simp
                         with_reducible rfl
                       rotate_left
                       · simp only [Act.put, List.setIfInBounds_toArray, List.set_cons_zero, List.set_cons_succ, i64_w, i32_w]
                         rfl
                       refine zP (i := 11) (N := some 40) #[true, true, true, true, true, true, true, true, true, true, true, true, false, false, false] (any_of HT_.out (by kernel_rfl)) ?_
                       refine one_ (i := 12) (N := some 41) #[true, true, true, true, true, true, true, true, true, true, true, true, true, false, false] rfl rfl (one_of HT_.out (by kernel_rfl)) (by decide) (fun K hK => ?_)
                       refine goes_ Try.func115 (by kernel_rfl) rfl #[.slice A19 ((l0.take ((rd l1 (ji9)) : Int).toNat).drop ((rd l1 x6_1) : Int).toNat).length (c0 - (rd l1 x6_1).toNat)] (by rfl) rfl rfl (by (try simp only [List.map_toArray, List.map_cons, List.map_nil]); first | done | (rw [show ((l0.take ((rd l1 (ji9)) : Int).toNat).drop ((rd l1 x6_1) : Int).toNat).length = ((rd l1 (ji9)).toNat - (rd l1 x6_1).toNat) from (by rw [List.length_drop, List.length_take]; have h_ : ((rd l1 (ji9)) : Int) ≤ (l0.length : Int) := of_decide_eq_true z1; omega)] <;> rfl) | (simp only [hji9]; rfl) | rfl | (simp only [List.length_drop, List.length_take]; rfl)) ?_
                       with_reducible refine (spec_l2Sum.calls k1 _ _ ((l0.take ((rd l1 (ji9)) : Int).toNat).drop ((rd l1 x6_1) : Int).toNat) t418 _ ?side1 ?side2 A15.out).mono ?_
                       (case side1 => exact zC (Kd.C_below HR417.out HB.out))
                       (case side2 => exact HC417.out)
                       rintro e w' ⟨rfl, ⟨nd, rfl⟩⟩
                       refine ⟨_, rfl, ?_⟩
                       have p17 : 0 ≤ ((rd l1 x6_1) : Int) := of_decide_eq_true z1
                       have q17 : ((rd l1 x6_1) : Int) < ((x5_1.length : Int) : Int) := of_decide_eq_true z1
                       obtain ⟨go17, co17, eo17, gb17, gl17, cl17, HG17⟩ := Kd.R_form HO_5.out (by omega)
                       (first | cases eo17 | (injection eo17 with ea_ en_ ec_; (first | subst ea_ | (injection ea_ with ea_; subst ea_)); subst ec_; clear en_))
                       have GB17 := Aside0.mk gb17
                       have GG17 := Aside0.mk HG17
                       clear gb17 gl17 HG17
                       obtain ⟨hx17_0, hf17_0⟩ := Kd.R_celln 0 HO_5.out ((rd l1 x6_1) : Int) p17 q17
                       replace p17 := eq_true p17
                       replace q17 := eq_true q17
                       have HP20 := Kd.R_putn HO_5.out ((rd l1 x6_1) : Int) t418
                       rw [← Ny419.out] at HP20
                       have HQ20 := Aside0.mk HP20
                       clear HP20
                       refine hK.out _ _ ⟨((HB.out.cell (World.block_lt_of_cell? w _ hw415_0)).trans hw415_0), ((HB.out.cell (World.block_lt_of_cell? w _ hw416_0)).trans hw416_0)⟩ (fun hHeld => ?_)
                       clear hK K
                       refine zU (some 41) ?_
                       refine zP (i := 13) (N := some 42) #[true, true, true, true, true, true, true, true, true, true, true, true, true, true, false] (any_of HT_.out (by kernel_rfl)) ?_
                       refine last_ (i := 14) (N := none) #[true, true, true, true, true, true, true, true, true, true, true, true, true, true, true] rfl rfl (one_of HT_.out (by kernel_rfl)) (by decide) (fun K hK => ?_)
                       refine skip_ (w1 := ?_) (by rfl) rfl ?_ ?_
                       rotate_left
                       · go_simp
                         rfl
                       refine hK.out _ _ ?_
                       clear hK K
                       refine done_ (done_of HT_.out (by kernel_rfl)) ?_
                       try go_wp2
                       go_roundg k1
                       case measure => have := HK1.out; omega
                       case rel => exact ⟨(y419), (ji9), (by first | rfl | (simp; done) | (simp only [← hji9] <;> (first | rfl | simp)) | (simp [*]; done)), H', ⟨z21⟩, ⟨(zR HQ20.out)⟩, ⟨(zH1 GB17.out)⟩⟩
                     · rw [if_neg c16] at H
                       exact absurd H (by simp)
                   · rw [if_neg c14] at H
                     exact absurd H (by simp)
                 · rw [if_neg c13] at H
                   exact absurd H (by simp)
               · rw [if_neg c12] at H
                 exact absurd H (by simp)
             · rw [if_neg c11] at H
               exact absurd H (by simp)
           · rw [if_neg c10] at H
             exact absurd H (by simp)
         · rw [if_neg c8] at H
           have c8b0 : decide ((wrap64 (x6_1 + 1)) < (l1.length : Int)) = false := decide_eq_false c8
           clear c8
           by_cases c21 : 0 ≤ x6_1
           · rw [if_pos c21] at H
             have c21b0 : decide (0 ≤ x6_1) = true := decide_eq_true c21
             clear c21
             by_cases c22 : 0 ≤ (rd l1 x6_1)
             · rw [if_pos c22] at H
               have c22b0 := eq_true c22
               have c22b1 : decide (0 ≤ (rd l1 x6_1)) = true := decide_eq_true c22
               clear c22
               by_cases c23 : (rd l1 x6_1) ≤ (l0.length : Int)
               · rw [if_pos c23] at H
                 have c23b0 := eq_true c23
                 have c23b1 : decide ((rd l1 x6_1) ≤ (l0.length : Int)) = true := decide_eq_true c23
                 clear c23
                 by_cases c24 : (l0.length : Int) ≤ (l0.length : Int)
                 · rw [if_pos c24] at H
                   have c24b0 := eq_true c24
                   have c24b1 : decide ((l0.length : Int) ≤ (l0.length : Int)) = true := decide_eq_true c24
                   clear c24
                   replace H := Option.bind_eq_some_iff.mp H
                   obtain ⟨t423, A250, H⟩ := H
                   replace H : (if (rd l1 x6_1) < (x5_1.length : Int) then (spec_l7Row.l0 k1 l0 l1 (x5_1.set ((rd l1 x6_1) : Int).toNat t423) (wrap64 (x6_1 + 1))) else (none)) = some r := H
                   have A25 := Aside0.mk A250
                   clear A250
                   by_cases c26 : (rd l1 x6_1) < (x5_1.length : Int)
                   · rw [if_pos c26] at H
                     have c26b0 : decide ((rd l1 x6_1) < (x5_1.length : Int)) = true := decide_eq_true c26
                     clear c26
                     obtain ⟨y424, hy424⟩ : ∃ y_ : List Int, y_ = (x5_1.set ((rd l1 x6_1) : Int).toNat t423) := ⟨_, rfl⟩
                     replace H : (spec_l7Row.l0 k1 l0 l1 y424 (wrap64 (x6_1 + 1))) = some r := zY hy424
                     have Ny424 := Aside0.mk hy424
                     clear hy424
                     have H' := Aside0.mk H
                     clear H
                     try go_wp2
                     replace HO_5 := Aside0.mk (Kd.R_drew HO_5.out)
                     replace HB := Aside0.mk (below_drew1 HB.out)
                     have p420 : 0 ≤ (x6_1 : Int) := of_decide_eq_true z1
                     have q420 : x6_1 < (l1.length : Int) := of_decide_eq_true z1
                     obtain ⟨ad420, e420, hx420_0⟩ := Kd.at_int HR1.out x6_1 p420 q420
                     have hw420_0 := hx420_0
                     cases e420
                     replace hx420_0 := (HB.out.cell (World.block_lt_of_cell? w _ hx420_0)).trans hx420_0
                     replace p420 := eq_true p420
                     replace q420 := eq_true q420
                     have p421 : 0 ≤ (x6_1 : Int) := of_decide_eq_true z1
                     have q421 : x6_1 < (l1.length : Int) := of_decide_eq_true z1
                     obtain ⟨ad421, e421, hx421_0⟩ := Kd.at_int HR1.out x6_1 p421 q421
                     have hw421_0 := hx421_0
                     obtain rfl : ad420 = ad421 := (by injection e421)
                     replace hx421_0 := (HB.out.cell (World.block_lt_of_cell? w _ hx421_0)).trans hx421_0
                     replace p421 := eq_true p421
                     replace q421 := eq_true q421
                     obtain ⟨i029, hi029, _, hsz29, _⟩ := info_parts info3
                     obtain ⟨A29, hcut29, hA29, hC29⟩ := print_mid_of (P := Try.prog) (Value.int .i64) 0 24 3 .i64 .i64 Try.underlying24 hi029 hsz29 A0 c0 l0 (rd l1 x6_1) (l0.length : Int) (of_decide_eq_true z1) (by first | omega | exact of_decide_eq_true z1) (of_decide_eq_true z1) HC0.out
                     have HR422 := Aside0.mk (Kd.C_of_reads (h1 := fun _ => rfl) (hA29 _ (Kd.reads_of_C HR0.out)))
                     have HC422 := Aside0.mk hC29
                     clear hA29 hC29 hi029 hsz29
                     refine start_ (n := 15) (S := fun w' => w'.cell? (ad420.add (x6_1).toNat) = some (.int .i64 (rd l1 x6_1)) ∧ w'.cell? (ad420.add (x6_1).toNat) = some (.int .i64 (rd l1 x6_1))) (ds := [14]) #[false, false, false, false, false, false, false, false, false, false, false, false, false, false, false] (by kernel_rfl) rfl rfl ⟨((HB.out.cell (World.block_lt_of_cell? w _ hw420_0)).trans hw420_0), ((HB.out.cell (World.block_lt_of_cell? w _ hw421_0)).trans hw421_0)⟩ (fun hHeld => ?_); refine with_tabW spec_l7Row.tab8 spec_l7Row.bits8 (fun HT_ HW_ => ?_)
                     generalize wr.drew = w28 at HO_5 HB HR422 hx420_0 hx421_0 hHeld ⊢
                     refine zP (i := 0) (N := some 29) #[true, false, false, false, false, false, false, false, false, false, false, false, false, false, false] (any_of HT_.out (by kernel_rfl)) ?_
                     refine zP (i := 1) (N := some 30) #[true, true, false, false, false, false, false, false, false, false, false, false, false, false, false] (any_of HT_.out (by kernel_rfl)) ?_
                     refine zP (i := 2) (N := some 31) #[true, true, true, false, false, false, false, false, false, false, false, false, false, false, false] (any_of HT_.out (by kernel_rfl)) ?_
                     refine zP (i := 3) (N := some 32) #[true, true, true, true, false, false, false, false, false, false, false, false, false, false, false] (any_of HT_.out (by kernel_rfl)) ?_
                     refine zP (i := 5) (N := some 34) #[true, true, true, true, false, true, false, false, false, false, false, false, false, false, false] (any_of HT_.out (by kernel_rfl)) ?_
                     refine zP (i := 6) (N := some 35) #[true, true, true, true, false, true, true, false, false, false, false, false, false, false, false] (any_of HT_.out (by kernel_rfl)) ?_
                     refine zP (i := 7) (N := some 36) #[true, true, true, true, false, true, true, true, false, false, false, false, false, false, false] (any_of HT_.out (by kernel_rfl)) ?_
                     refine zP (i := 8) (N := some 37) #[true, true, true, true, false, true, true, true, true, false, false, false, false, false, false] (any_of HT_.out (by kernel_rfl)) ?_
                     refine zP (i := 10) (N := some 39) #[true, true, true, true, false, true, true, true, true, false, true, false, false, false, false] (any_of HT_.out (by kernel_rfl)) ?_
                     refine take_ (i := 4) (N := some 33) (v := ?_) (a' := ?_) #[true, true, true, true, true, true, true, true, true, false, true, false, false, false, false] rfl rfl (take_ofW HT_.out HW_.out (by kernel_rfl)) (fun _ _ _ h => h) (Or.inl ⟨(by rfl), ?_⟩) hHeld ?_ ?_
                     rotate_left
                     · rintro w' ⟨s0, s1⟩
                       go_simp
                       with_reducible rfl
                     rotate_left
                     · simp only [Act.put, List.setIfInBounds_toArray, List.set_cons_zero, List.set_cons_succ, i64_w, i32_w]
                       rfl
                     refine take_ (i := 9) (N := some 38) (v := ?_) (a' := ?_) #[true, true, true, true, true, true, true, true, true, true, true, false, false, false, false] rfl rfl (take_ofW HT_.out HW_.out (by kernel_rfl)) (fun _ _ _ h => h) (Or.inl ⟨(by rfl), ?_⟩) hHeld ?_ ?_
                     rotate_left
                     · rintro w' ⟨s0, s1⟩
                       go_simp
                       with_reducible rfl
                     rotate_left
                     · simp only [Act.put, List.setIfInBounds_toArray, List.set_cons_zero, List.set_cons_succ, i64_w, i32_w]
                       rfl
                     refine zP (i := 11) (N := some 40) #[true, true, true, true, true, true, true, true, true, true, true, true, false, false, false] (any_of HT_.out (by kernel_rfl)) ?_
                     refine one_ (i := 12) (N := some 41) #[true, true, true, true, true, true, true, true, true, true, true, true, true, false, false] rfl rfl (one_of HT_.out (by kernel_rfl)) (by decide) (fun K hK => ?_)
                     refine goes_ Try.func115 (by kernel_rfl) rfl #[.slice A29 ((l0.take ((l0.length : Int) : Int).toNat).drop ((rd l1 x6_1) : Int).toNat).length (c0 - (rd l1 x6_1).toNat)] (by rfl) rfl rfl (by (try simp only [List.map_toArray, List.map_cons, List.map_nil]); first | done | (rw [show ((l0.take ((l0.length : Int) : Int).toNat).drop ((rd l1 x6_1) : Int).toNat).length = ((l0.length : Int).toNat - (rd l1 x6_1).toNat) from (by rw [List.length_drop, List.length_take]; have h_ : ((l0.length : Int) : Int) ≤ (l0.length : Int) := of_decide_eq_true z1; omega)] <;> rfl) | rfl | (simp only [List.length_drop, List.length_take]; rfl)) ?_
                     with_reducible refine (spec_l2Sum.calls k1 _ _ ((l0.take ((l0.length : Int) : Int).toNat).drop ((rd l1 x6_1) : Int).toNat) t423 _ ?side1 ?side2 A25.out).mono ?_
                     (case side1 => exact zC (Kd.C_below HR422.out HB.out))
                     (case side2 => exact HC422.out)
                     rintro e w' ⟨rfl, ⟨nd, rfl⟩⟩
                     refine ⟨_, rfl, ?_⟩
                     have p27 : 0 ≤ ((rd l1 x6_1) : Int) := of_decide_eq_true z1
                     have q27 : ((rd l1 x6_1) : Int) < ((x5_1.length : Int) : Int) := of_decide_eq_true z1
                     obtain ⟨go27, co27, eo27, gb27, gl27, cl27, HG27⟩ := Kd.R_form HO_5.out (by omega)
                     (first | cases eo27 | (injection eo27 with ea_ en_ ec_; (first | subst ea_ | (injection ea_ with ea_; subst ea_)); subst ec_; clear en_))
                     have GB27 := Aside0.mk gb27
                     have GG27 := Aside0.mk HG27
                     clear gb27 gl27 HG27
                     obtain ⟨hx27_0, hf27_0⟩ := Kd.R_celln 0 HO_5.out ((rd l1 x6_1) : Int) p27 q27
                     replace p27 := eq_true p27
                     replace q27 := eq_true q27
                     have HP30 := Kd.R_putn HO_5.out ((rd l1 x6_1) : Int) t423
                     rw [← Ny424.out] at HP30
                     have HQ30 := Aside0.mk HP30
                     clear HP30
                     refine hK.out _ _ ⟨((HB.out.cell (World.block_lt_of_cell? w _ hw420_0)).trans hw420_0), ((HB.out.cell (World.block_lt_of_cell? w _ hw421_0)).trans hw421_0)⟩ (fun hHeld => ?_)
                     clear hK K
                     refine zU (some 41) ?_
                     refine zP (i := 13) (N := some 42) #[true, true, true, true, true, true, true, true, true, true, true, true, true, true, false] (any_of HT_.out (by kernel_rfl)) ?_
                     refine last_ (i := 14) (N := none) #[true, true, true, true, true, true, true, true, true, true, true, true, true, true, true] rfl rfl (one_of HT_.out (by kernel_rfl)) (by decide) (fun K hK => ?_)
                     refine skip_ (w1 := ?_) (by rfl) rfl ?_ ?_
                     rotate_left
                     · go_simp
                       rfl
                     refine hK.out _ _ ?_
                     clear hK K
                     refine done_ (done_of HT_.out (by kernel_rfl)) ?_
                     try go_wp2
                     go_roundg k1
                     case measure => have := HK1.out; omega
                     case rel => exact ⟨(y424), (wrap64 (x6_1 + 1)), z3, H', ⟨z21⟩, ⟨(zR HQ30.out)⟩, ⟨(zH1 GB27.out)⟩⟩
                   · rw [if_neg c26] at H
                     exact absurd H (by simp)
                 · rw [if_neg c24] at H
                   exact absurd H (by simp)
               · rw [if_neg c23] at H
                 exact absurd H (by simp)
             · rw [if_neg c22] at H
               exact absurd H (by simp)
           · rw [if_neg c21] at H
             exact absurd H (by simp)
       · rw [if_neg c7] at H
         have c7b0 : decide (x6_1 < (l1.length : Int)) = false := decide_eq_false c7
         clear c7
         obtain rfl := Option.some.inj H
         go_wp2
         go_ret
         exact ⟨_, z5, (zR HO_5.out), zH0⟩
   · rw [if_neg c4] at H
     exact absurd H (by simp)
 · rw [if_neg c3] at H
   exact absurd H (by simp)
mutual
def spec_NestedPlan.j0 : Nat → List (List Int) → List (List Int) → Bool → List Int → List Int → List Int → Option ((List (List Int)) × Bool)
 | 0, _, _, _, _, _, _ => none
 | k + 1, x1, x6, x17, x426000, x426001, x426002 => if x17 = true then (some (x6, false)) else (spec_NestedPlan.l0 k x1 x6 0 x426000 x426001 x426002)
def spec_NestedPlan.l0 : Nat → List (List Int) → List (List Int) → Int → List Int → List Int → List Int → Option ((List (List Int)) × Bool)
 | 0, _, _, _, _, _, _ => none
 | k + 1, x1, x6, x7, x426000, x426001, x426002 => if x7 < (x1.length : Int) then (if 0 ≤ x7 then ((spec_l7Fed.f k x426000 (rd_L2 x1 x7)).bind fun t432 => (if t432 = true then ((spec_l7Row.f k x426000 (rd_L2 x1 x7)).bind fun t434 => (if x6.length < 5864062014805 then (spec_NestedPlan.l0 k x1 (x6 ++ [t434]) (wrap64 (x7 + 1)) x426000 x426001 x426002) else (none))) else (some ((([] : List (List Int))), false)))) else (none)) else (some (x6, true))
end
def spec_NestedPlan.f (k : Nat) (l0_0 : List Int) (l0_1 : List Int) (l0_2 : List Int) (l1 : List (List Int)) : Option ((List (List Int)) × Bool) := (some (([] : List (List Int)) : List (List Int))).bind fun y426 => ((spec_l7Good.f k l0_0 l0_1 l0_2).bind fun t429 => (if t429 = true then ((spec_l7Periods.f k l0_0 l0_1 l0_2 l1).bind fun t430 => (spec_NestedPlan.j0 k l1 y426 (!t430) l0_0 l0_1 l0_2)) else (spec_NestedPlan.j0 k l1 y426 true l0_0 l0_1 l0_2)))
def spec_NestedPlan.T7 : Bool × List (List Nat × List Nat) := (true, [([], []), ([0], [0]), ([], []), ([], []), ([2, 3], [2, 3]), ([4], [4]), ([1, 5], [1, 5]), ([6], [6])])
def spec_NestedPlan.B7 : List Nat := [0, 1, 0, 0, 12, 28, 63, 127]
theorem spec_NestedPlan.tab7 : rtab .any (opsOf Try.f12 7) = spec_NestedPlan.T7 := by kernel_rfl
theorem spec_NestedPlan.bits7 : waitsOk spec_NestedPlan.T7.2 spec_NestedPlan.B7 = true := by kernel_rfl
def spec_NestedPlan.T9 : Bool × List (List Nat × List Nat) := (true, [([], []), ([], []), ([1], [1]), ([], []), ([], []), ([3, 4], [3, 4]), ([5], [5]), ([2, 6], [2, 6]), ([7], [7]), ([0, 8, 7], [0, 8]), ([9, 9, 0, 1, 2, 3, 4, 5, 6, 7, 8, 9], [0, 9])])
def spec_NestedPlan.B9 : List Nat := [0, 0, 2, 0, 0, 24, 56, 126, 254, 511, 1023]
theorem spec_NestedPlan.tab9 : rtab .any (opsOf Try.f12 9) = spec_NestedPlan.T9 := by kernel_rfl
theorem spec_NestedPlan.bits9 : waitsOk spec_NestedPlan.T9.2 spec_NestedPlan.B9 = true := by kernel_rfl
set_option maxHeartbeats 8000000 in
set_option maxRecDepth 100000 in
theorem spec_NestedPlan.calls (k : Nat) (A0_0 : Option Addr) (c0_0 : Nat) (l0_0 : List Int) (A0_1 : Option Addr) (c0_1 : Nat) (l0_1 : List Int) (A0_2 : Option Addr) (c0_2 : Nat) (l0_2 : List Int) (A1 : Option Addr) (c1 : Nat) (l1 : List (List Int)) (r1 : List (List Int)) (r2 : Bool) (w : World) (hr0_0 : Kd.C (Kd.int .i64) w A0_0 l0_0.length l0_0) (hc0_0 : l0_0.length ≤ c0_0) (hr0_1 : Kd.C (Kd.int .i64) w A0_1 l0_1.length l0_1) (hc0_1 : l0_1.length ≤ c0_1) (hr0_2 : Kd.C (Kd.int .i64) w A0_2 l0_2.length l0_2) (hc0_2 : l0_2.length ≤ c0_2) (hr1 : Kd.C (Kd.slice 3 (Kd.int .i64)) w A1 l1.length l1) (hc1 : l1.length ≤ c1) (h : spec_NestedPlan.f k l0_0 l0_1 l0_2 l1 = some (r1, r2)) :
 Calls Try.prog 12 #[.agg #[.slice A0_0 l0_0.length c0_0, .slice A0_1 l0_1.length c0_1, .slice A0_2 l0_2.length c0_2], .slice A1 l1.length c1] w fun e w' => ∃ v0_ : Value, e = .returned (.tuple #[v0_, .bool r2]) ∧ Kd.S (Kd.slice 3 (Kd.int .i64)) 24 w' w.heap.size (fun _ => True) v0_ r1 ∧ Below w.heap.size w w' := by
 have hu26 := Try.underlying26
 have HR0_0 := Aside0.mk hr0_0
 have HC0_0 := Aside0.mk hc0_0
 clear hr0_0 hc0_0
 have HR0_1 := Aside0.mk hr0_1
 have HC0_1 := Aside0.mk hc0_1
 clear hr0_1 hc0_1
 have HR0_2 := Aside0.mk hr0_2
 have HC0_2 := Aside0.mk hc0_2
 clear hr0_2 hc0_2
 have HR1 := Aside0.mk hr1
 have HC1 := Aside0.mk hc1
 clear hr1 hc1
 have HB := Aside0.mk (Below.refl w.heap.size w)
 have H : ((some (([] : List (List Int)) : List (List Int))).bind fun y426 => ((spec_l7Good.f k l0_0 l0_1 l0_2).bind fun t429 => (if t429 = true then ((spec_l7Periods.f k l0_0 l0_1 l0_2 l1).bind fun t430 => (spec_NestedPlan.j0 k l1 y426 (!t430) l0_0 l0_1 l0_2)) else (spec_NestedPlan.j0 k l1 y426 true l0_0 l0_1 l0_2)))) = some (r1, r2) := h
 clear h
 obtain ⟨y426, hy426⟩ : ∃ y_ : List (List Int), y_ = (([] : List (List Int))) := ⟨_, rfl⟩
 replace H : ((spec_l7Good.f k l0_0 l0_1 l0_2).bind fun t429 => (if t429 = true then ((spec_l7Periods.f k l0_0 l0_1 l0_2 l1).bind fun t430 => (spec_NestedPlan.j0 k l1 y426 (!t430) l0_0 l0_1 l0_2)) else (spec_NestedPlan.j0 k l1 y426 true l0_0 l0_1 l0_2))) = some (r1, r2) := zY hy426
 have Ny426 := Aside0.mk hy426
 clear hy426
 have HC3 := Aside0.mk H
 clear H
 go_enter Try.func12, Try.ntmps12
 go_upto_region 2 with (first | ((with_reducible refine gate_dst (N := 2) rfl ?_); refine box_event ?hg (N := 2) ?hd (cs := #[.slice A0_0 l0_0.length c0_0, .slice A0_1 l0_1.length c0_1, .slice A0_2 l0_2.length c0_2]) (t := 26) ?hr ?_; (case hd => rfl); (case hg => rfl); (case hr => first | (go_simp; done) | (go_simp; rfl)); intro gb425 hg w4 hbox hb; have BK425 := Aside0.mk (hbox); have GW425 := Aside0.mk ((z6 : w.heap.size ≤ gb425)); have GE425 := Aside0.mk ((z6 : w.heap.size ≤ gb425)); replace HB := zs0 hb; clear hb hbox hg) | ((with_reducible refine gate_dst (N := 8) rfl ?_); refine Kd.S_lit (Kd.slice 3 (Kd.int .i64)) _ 24 ?hg (N := 8) ?hd (xs := ([] : List (List Int))) (inner := []) (ok := fun _ => True) (okp := fun _ => True) ?hr ?hp (fun _ hk => hk) trivial (Below.refl _ _) (Nat.le_refl _) (by simp) ?_; (case hd => rfl); (case hg => rfl); (case hr => first | (go_simp; done) | (go_simp; rfl)); (case hp => exact (Reps.none _ _)); intro v427 w5 ho6 hb hg_ hnew_; clear hg_ hnew_; (first | rw [← Ny426.out] at ho6 | (simp only [Int.reduceToNat] at ho6; rw [← Ny426.out] at ho6)); have HO428 := Aside0.mk (Kd.S_lower ho6 (below_size (zH1 GE425.out))); replace BK425 := zb BK425 hb; replace HB := zs1 GE425.out hb; clear hb ho6))
 (try simp only [Act.put, List.setIfInBounds_toArray, List.set_cons_zero, List.set_cons_succ])
 go_cut [17] (fun v17 wc => ∃ (kq : Nat) (x17_2 : Bool), v17 = .bool x17_2 ∧ Aside0 (spec_NestedPlan.j0 kq l1 y426 x17_2 l0_0 l0_1 l0_2 = some (r1, r2)) ∧ Aside0 (kq ≤ k) ∧ Aside0 (Kd.S (Kd.slice 3 (Kd.int .i64)) 24 wc w.heap.size (fun _ => True) v427 y426) ∧ Aside0 (wc.heap[gb425]? = some (.cells #[(.slice A0_0 l0_0.length c0_0), (.slice A0_1 l0_1.length c0_1), (.slice A0_2 l0_2.length c0_2)] 26 (0, 0))) ∧ Aside0 (Below w.heap.size w wc))
 case first =>
  have H := HC3.out
  clear HC3
  replace H := Option.bind_eq_some_iff.mp H
  obtain ⟨t429, A70, H⟩ := H
  replace H : (if t429 = true then ((spec_l7Periods.f k l0_0 l0_1 l0_2 l1).bind fun t430 => (spec_NestedPlan.j0 k l1 y426 (!t430) l0_0 l0_1 l0_2)) else (spec_NestedPlan.j0 k l1 y426 true l0_0 l0_1 l0_2)) = some (r1, r2) := H
  have A7 := Aside0.mk A70
  clear A70
  by_cases c8 : t429 = true
  · subst c8
    have H1 : ((spec_l7Periods.f k l0_0 l0_1 l0_2 l1).bind fun t430 => (spec_NestedPlan.j0 k l1 y426 (!t430) l0_0 l0_1 l0_2)) = some (r1, r2) := by rw [if_pos rfl] at H; exact H
    clear H
    have H := H1
    clear H1
    replace H := Option.bind_eq_some_iff.mp H
    obtain ⟨t430, A90, H⟩ := H
    replace H : (spec_NestedPlan.j0 k l1 y426 (!t430) l0_0 l0_1 l0_2) = some (r1, r2) := H
    have A9 := Aside0.mk A90
    clear A90
    have H' := Aside0.mk H
    clear H
    obtain ⟨hcz10_0, hcz10_1, hcz10_2, hfz10_0, hfz10_1, hfz10_2⟩ := zc3 BK425.out
    go_wp2_with (first | ((with_reducible refine gate_callee (f := 61) rfl ?_); refine goesL_ (some 10) rfl rfl Try.func61 (by kernel_rfl) rfl #[.agg #[.slice A0_0 l0_0.length c0_0, .slice A0_1 l0_1.length c0_1, .slice A0_2 l0_2.length c0_2]] rfl z2 ?_; (with_reducible refine (spec_l7Good.calls k _ _ l0_0 _ _ l0_1 _ _ l0_2 true _ ?side1 ?side2 ?side3 ?side4 ?side5 ?side6 A7.out).mono ?_); (case side1 => exact zC (Kd.C_below HR0_0.out HB.out)); (case side2 => exact HC0_0.out); (case side3 => exact zC (Kd.C_below HR0_1.out HB.out)); (case side4 => exact HC0_1.out); (case side5 => exact zC (Kd.C_below HR0_2.out HB.out)); (case side6 => exact HC0_2.out); rintro e w11 ⟨rfl, hb⟩; refine ⟨_, rfl, ?_⟩; replace HO428 := zSb HO428 hb; replace BK425 := zb BK425 hb; replace HB := zs1 GE425.out hb; (try clear hb); (try clear hb2); (try clear hk); (try clear hi); obtain ⟨hcz12_0, hcz12_1, hcz12_2, hfz12_0, hfz12_1, hfz12_2⟩ := zc3 BK425.out) | (go_at_call 62; (with_reducible refine (spec_l7Periods.calls k _ _ l0_0 _ _ l0_1 _ _ l0_2 _ _ l1 t430 _ ?side1 ?side2 ?side3 ?side4 ?side5 ?side6 ?side7 ?side8 A9.out).mono ?_); (case side1 => exact zC (Kd.C_below HR0_0.out HB.out)); (case side2 => exact HC0_0.out); (case side3 => exact zC (Kd.C_below HR0_1.out HB.out)); (case side4 => exact HC0_1.out); (case side5 => exact zC (Kd.C_below HR0_2.out HB.out)); (case side6 => exact HC0_2.out); (case side7 => exact zC (Kd.C_below HR1.out HB.out)); (case side8 => exact HC1.out); rintro e w13 ⟨rfl, hb⟩; replace HO428 := zSb HO428 hb; replace BK425 := zb BK425 hb; replace HB := zs1 GE425.out hb; (try clear hb); (try clear hb2); (try clear hk); (try clear hi)))
    go_meet
    case rel => exact ⟨_, (!t430), z3, H', ⟨z37⟩, ⟨(zS HO428.out)⟩, ⟨(zB BK425.out)⟩, ⟨(zH1 GE425.out)⟩⟩
  · replace c8 := Bool.eq_false_iff.mpr c8
    subst c8
    have H1 : (spec_NestedPlan.j0 k l1 y426 true l0_0 l0_1 l0_2) = some (r1, r2) := by rw [if_neg (show ¬ (false = true) by decide)] at H; exact H
    clear H
    have H := H1
    clear H1
    have H' := Aside0.mk H
    clear H
    obtain ⟨hcz14_0, hcz14_1, hcz14_2, hfz14_0, hfz14_1, hfz14_2⟩ := zc3 BK425.out
    go_wp2_with (first | ((with_reducible refine gate_callee (f := 61) rfl ?_); refine goesL_ (some 10) rfl rfl Try.func61 (by kernel_rfl) rfl #[.agg #[.slice A0_0 l0_0.length c0_0, .slice A0_1 l0_1.length c0_1, .slice A0_2 l0_2.length c0_2]] rfl z2 ?_; (with_reducible refine (spec_l7Good.calls k _ _ l0_0 _ _ l0_1 _ _ l0_2 false _ ?side1 ?side2 ?side3 ?side4 ?side5 ?side6 A7.out).mono ?_); (case side1 => exact zC (Kd.C_below HR0_0.out HB.out)); (case side2 => exact HC0_0.out); (case side3 => exact zC (Kd.C_below HR0_1.out HB.out)); (case side4 => exact HC0_1.out); (case side5 => exact zC (Kd.C_below HR0_2.out HB.out)); (case side6 => exact HC0_2.out); rintro e w15 ⟨rfl, hb⟩; refine ⟨_, rfl, ?_⟩; replace HO428 := zSb HO428 hb; replace BK425 := zb BK425 hb; replace HB := zs1 GE425.out hb; (try clear hb); (try clear hb2); (try clear hk); (try clear hi)))
    go_meet
    case rel => exact ⟨_, (true), z3, H', ⟨z37⟩, ⟨(zS HO428.out)⟩, ⟨(zB BK425.out)⟩, ⟨(zH1 GE425.out)⟩⟩
 case rest =>
  clear HC3
  try clear c1
  try clear p2
  try clear c6
  try clear c8
  try clear c12
  try clear hcz10_0
  try clear hcz10_1
  try clear hcz10_2
  try clear hcz12_0
  try clear hcz12_1
  try clear hcz12_2
  try clear hcz14_0
  try clear hcz14_1
  try clear hcz14_2
  try clear hfz10_0
  try clear hfz10_1
  try clear hfz10_2
  try clear hfz12_0
  try clear hfz12_1
  try clear hfz12_2
  try clear hfz14_0
  try clear hfz14_1
  try clear hfz14_2
  obtain ⟨kq, x17_2, rfl, HA, HJ2, HO_6, BK425, HB⟩ := hcut
  cases kq with
  | zero => exact absurd HA.out (by simp [spec_NestedPlan.j0])
  | succ kj2 =>
   have H := HA.out
   clear HA
   simp only [spec_NestedPlan.j0] at H
   by_cases c16 : x17_2 = true
   · subst c16
     have H1 : (some (y426, false)) = some (r1, r2) := by rw [if_pos rfl] at H; exact H
     clear H
     have H := H1
     clear H1
     simp only [Option.some.injEq, Prod.mk.injEq] at H
     obtain ⟨rfl, rfl⟩ := H
     go_wp2
     go_ret2
     exact ⟨_, z5, (zS HO_6.out), (zH1 GE425.out)⟩
   · replace c16 := Bool.eq_false_iff.mpr c16
     subst c16
     have H1 : (spec_NestedPlan.l0 kj2 l1 y426 0 l0_0 l0_1 l0_2) = some (r1, r2) := by rw [if_neg (show ¬ (false = true) by decide)] at H; exact H
     clear H
     have H := H1
     clear H1
     have H' := Aside0.mk H
     clear H
     go_wp2
     go_loopg [6, 7] kj2 (fun kq v6 v7 w' => ∃ (x6_2 : List (List Int)) (x7_2 : Int), v7 = .int .i64 x7_2 ∧ Aside0 (spec_NestedPlan.l0 kq l1 x6_2 x7_2 l0_0 l0_1 l0_2 = some (r1, r2)) ∧ Aside0 (kq ≤ kj2) ∧ Aside0 (Kd.S (Kd.slice 3 (Kd.int .i64)) 24 w' w.heap.size (fun _ => True) v6 x6_2) ∧ Aside0 (w'.heap[gb425]? = some (.cells #[(.slice A0_0 l0_0.length c0_0), (.slice A0_1 l0_1.length c0_1), (.slice A0_2 l0_2.length c0_2)] 26 (0, 0))) ∧ Aside0 (Below w.heap.size w w'))
     case atStart => exact ⟨(y426), (0), z3, H', ⟨Nat.le_refl _⟩, ⟨(zS HO_6.out)⟩, ⟨(zB BK425.out)⟩, ⟨(zH1 GE425.out)⟩⟩
     case round =>
      clear H'
      try clear c1
      try clear p2
      try clear c6
      try clear c8
      try clear c12
      try clear c16
      try clear hcz10_0
      try clear hcz10_1
      try clear hcz10_2
      try clear hcz12_0
      try clear hcz12_1
      try clear hcz12_2
      try clear hcz14_0
      try clear hcz14_1
      try clear hcz14_2
      try clear hfz10_0
      try clear hfz10_1
      try clear hfz10_2
      try clear hfz12_0
      try clear hfz12_1
      try clear hfz12_2
      try clear hfz14_0
      try clear hfz14_1
      try clear hfz14_2
      try clear p2
      obtain ⟨x6_2, x7_2, rfl, HA, HK2, HO_6, BK425, HB⟩ := hrel
      cases gk with
      | zero => exact absurd HA.out (by simp [spec_NestedPlan.l0])
      | succ k2 =>
       have H := HA.out
       clear HA
       simp only [spec_NestedPlan.l0] at H
       by_cases c17 : x7_2 < (l1.length : Int)
       · rw [if_pos c17] at H
         have c17b0 : decide (x7_2 < (l1.length : Int)) = true := decide_eq_true c17
         clear c17
         by_cases c18 : 0 ≤ x7_2
         · rw [if_pos c18] at H
           have c18b0 : decide (0 ≤ x7_2) = true := decide_eq_true c18
           clear c18
           replace H := Option.bind_eq_some_iff.mp H
           obtain ⟨t432, A190, H⟩ := H
           replace H : (if t432 = true then ((spec_l7Row.f k2 l0_0 (rd_L2 l1 x7_2)).bind fun t434 => (if x6_2.length < 5864062014805 then (spec_NestedPlan.l0 k2 l1 (x6_2 ++ [t434]) (wrap64 (x7_2 + 1)) l0_0 l0_1 l0_2) else (none))) else (some ((([] : List (List Int))), false))) = some (r1, r2) := H
           have A19 := Aside0.mk A190
           clear A190
           by_cases c20 : t432 = true
           · subst c20
             have H1 : ((spec_l7Row.f k2 l0_0 (rd_L2 l1 x7_2)).bind fun t434 => (if x6_2.length < 5864062014805 then (spec_NestedPlan.l0 k2 l1 (x6_2 ++ [t434]) (wrap64 (x7_2 + 1)) l0_0 l0_1 l0_2) else (none))) = some (r1, r2) := by rw [if_pos rfl] at H; exact H
             clear H
             have H := H1
             clear H1
             replace H := Option.bind_eq_some_iff.mp H
             obtain ⟨t434, A210, H⟩ := H
             replace H : (if x6_2.length < 5864062014805 then (spec_NestedPlan.l0 k2 l1 (x6_2 ++ [t434]) (wrap64 (x7_2 + 1)) l0_0 l0_1 l0_2) else (none)) = some (r1, r2) := H
             have A21 := Aside0.mk A210
             clear A210
             by_cases c22 : x6_2.length < 5864062014805
             · rw [if_pos c22] at H
               have LMc22 := Aside0.mk c22
               clear c22
               obtain ⟨y437, hy437⟩ : ∃ y_ : List (List Int), y_ = (x6_2 ++ [t434]) := ⟨_, rfl⟩
               replace H : (spec_NestedPlan.l0 k2 l1 y437 (wrap64 (x7_2 + 1)) l0_0 l0_1 l0_2) = some (r1, r2) := zY hy437
               have Ny437 := Aside0.mk hy437
               clear hy437
               have H' := Aside0.mk H
               clear H
               try go_wp2
               replace HO_6 := Aside0.mk (Kd.S_drew HO_6.out)
               replace BK425 := Aside0.mk (blk_drew BK425.out)
               replace HB := Aside0.mk (below_drew1 HB.out)
               have p431 : 0 ≤ (x7_2 : Int) := of_decide_eq_true z1
               have q431 : x7_2 < (l1.length : Int) := of_decide_eq_true z1
               obtain ⟨ad431, A431_0, c431_0, e431, hx431_0, hl431_0, hi431_0⟩ := at_L2 HR1.out x7_2 p431 q431
               have hw431_0 := hx431_0
               cases e431
               replace hx431_0 := (HB.out.cell (World.block_lt_of_cell? w _ hx431_0)).trans hx431_0
               have HR431_0 := Aside0.mk hi431_0
               have HC431_0 := Aside0.mk hl431_0
               clear hi431_0 hl431_0
               replace p431 := eq_true p431
               replace q431 := eq_true q431
               refine start_ (n := 8) (S := fun w' => w'.cell? ⟨gb425, 0, none⟩ = some (.slice A0_0 l0_0.length c0_0) ∧ w'.cell? ⟨gb425, 1, none⟩ = some (.slice A0_1 l0_1.length c0_1) ∧ w'.cell? ⟨gb425, 2, none⟩ = some (.slice A0_2 l0_2.length c0_2) ∧ w'.cell? (ad431.add (x7_2).toNat) = some (.slice A431_0 (rd_L2 l1 x7_2).length c431_0)) (ds := []) #[false, false, false, false, false, false, false, false] (by kernel_rfl) rfl rfl ⟨(blk_cell BK425.out 0).trans rfl, (blk_cell BK425.out 1).trans rfl, (blk_cell BK425.out 2).trans rfl, ((HB.out.cell (World.block_lt_of_cell? w _ hw431_0)).trans hw431_0)⟩ (fun hHeld => ?_); refine with_tabW spec_NestedPlan.tab7 spec_NestedPlan.bits7 (fun HT_ HW_ => ?_)
               generalize wr.drew = w23 at HO_6 BK425 HB HR431_0 hx431_0 hHeld ⊢
               refine zP (i := 0) (N := some 25) #[true, false, false, false, false, false, false, false] (any_of HT_.out (by kernel_rfl)) ?_
               refine zP (i := 2) (N := some 27) #[true, false, true, false, false, false, false, false] (any_of HT_.out (by kernel_rfl)) ?_
               refine zP (i := 3) (N := some 28) #[true, false, true, true, false, false, false, false] (any_of HT_.out (by kernel_rfl)) ?_
               refine zP (i := 4) (N := some 29) #[true, false, true, true, true, false, false, false] (any_of HT_.out (by kernel_rfl)) ?_
               refine take_ (i := 1) (N := some 26) (v := ?_) (a' := ?_) #[true, true, true, true, true, false, false, false] rfl rfl (take_ofW HT_.out HW_.out (by kernel_rfl)) (fun _ _ _ h => h) (Or.inl ⟨(by rfl), ?_⟩) hHeld ?_ ?_
               rotate_left
               · rintro w' ⟨s0, s1, s2, s3⟩
                 go_simp
                 with_reducible rfl
               rotate_left
               · simp only [Act.put, List.setIfInBounds_toArray, List.set_cons_zero, List.set_cons_succ, i64_w, i32_w]
                 rfl
               refine take_ (i := 5) (N := some 30) (v := ?_) (a' := ?_) #[true, true, true, true, true, true, false, false] rfl rfl (take_ofW HT_.out HW_.out (by kernel_rfl)) (fun _ _ _ h => h) (Or.inl ⟨(by rfl), ?_⟩) hHeld ?_ ?_
               rotate_left
               · rintro w' ⟨s0, s1, s2, s3⟩
                 go_simp
                 with_reducible rfl
               rotate_left
               · simp only [Act.put, List.setIfInBounds_toArray, List.set_cons_zero, List.set_cons_succ, i64_w, i32_w]
                 rfl
               refine one_ (i := 6) (N := some 31) #[true, true, true, true, true, true, true, false] rfl rfl (one_of HT_.out (by kernel_rfl)) (by decide) (fun K hK => ?_)
               refine goes_ Try.func63 (by kernel_rfl) rfl #[.slice A0_0 l0_0.length c0_0, .slice A431_0 (rd_L2 l1 x7_2).length c431_0] (by rfl) rfl rfl z2 ?_
               with_reducible refine (spec_l7Fed.calls k2 _ _ l0_0 _ _ (rd_L2 l1 x7_2) true _ ?side1 ?side2 ?side3 ?side4 A19.out).mono ?_
               (case side1 => exact zC (Kd.C_below HR0_0.out HB.out))
               (case side2 => exact HC0_0.out)
               (case side3 => exact zC (Kd.C_below HR431_0.out HB.out))
               (case side4 => exact HC431_0.out)
               rintro e w' ⟨rfl, ⟨nd, rfl⟩⟩
               refine ⟨_, rfl, ?_⟩
               refine hK.out _ _ ⟨(blk_cell BK425.out 0).trans rfl, (blk_cell BK425.out 1).trans rfl, (blk_cell BK425.out 2).trans rfl, ((HB.out.cell (World.block_lt_of_cell? w _ hw431_0)).trans hw431_0)⟩ (fun hHeld => ?_)
               clear hK K
               refine zU (some 31) ?_
               refine zP (i := 7) (N := some 32) #[true, true, true, true, true, true, true, true] (any_of HT_.out (by kernel_rfl)) ?_
               refine done_ (done_of HT_.out (by kernel_rfl)) ?_
               try go_wp2
               (try (rw [drewN_self w23]; generalize hq_ : World.drewN w23 _ = w23; have n0_ : Aside0 (Kd.S (Kd.slice 3 (Kd.int .i64)) 24 w23 w.heap.size (fun _ => True) u6 x6_2) := ⟨(by rw [← hq_]; exact (zS HO_6.out))⟩; have n1_ : Aside0 (w23.heap[gb425]? = some (.cells #[.slice A0_0 l0_0.length c0_0, .slice A0_1 l0_1.length c0_1, .slice A0_2 l0_2.length c0_2] 26 (0, 0))) := ⟨(by rw [← hq_]; exact (zB BK425.out))⟩; have n2_ : Aside0 (Below w.heap.size w w23) := ⟨(by rw [← hq_]; exact (zH1 GE425.out))⟩; clear HO_6 BK425 HB hq_; have HO_6 := n0_; have BK425 := n1_; have HB := n2_; clear n0_ n1_ n2_))
               replace HO_6 := Aside0.mk (Kd.S_drew HO_6.out)
               replace BK425 := Aside0.mk (blk_drew BK425.out)
               replace HB := Aside0.mk (below_drew1 HB.out)
               have p433 : 0 ≤ (x7_2 : Int) := of_decide_eq_true z1
               have q433 : x7_2 < (l1.length : Int) := of_decide_eq_true z1
               obtain ⟨ad433, A433_0, c433_0, e433, hx433_0, hl433_0, hi433_0⟩ := at_L2 HR1.out x7_2 p433 q433
               have hw433_0 := hx433_0
               obtain rfl : ad431 = ad433 := (by injection e433)
               replace hx433_0 := (HB.out.cell (World.block_lt_of_cell? w _ hx433_0)).trans hx433_0
               have HR433_0 := Aside0.mk hi433_0
               have HC433_0 := Aside0.mk hl433_0
               clear hi433_0 hl433_0
               replace p433 := eq_true p433
               replace q433 := eq_true q433
               refine start_ (n := 11) (S := fun w' => w'.cell? ⟨gb425, 0, none⟩ = some (.slice A0_0 l0_0.length c0_0) ∧ w'.cell? ⟨gb425, 1, none⟩ = some (.slice A0_1 l0_1.length c0_1) ∧ w'.cell? ⟨gb425, 2, none⟩ = some (.slice A0_2 l0_2.length c0_2) ∧ w'.cell? (ad431.add (x7_2).toNat) = some (.slice A433_0 (rd_L2 l1 x7_2).length c433_0)) (ds := []) #[false, false, false, false, false, false, false, false, false, false, false] (by kernel_rfl) rfl rfl ⟨(blk_cell BK425.out 0).trans rfl, (blk_cell BK425.out 1).trans rfl, (blk_cell BK425.out 2).trans rfl, ((HB.out.cell (World.block_lt_of_cell? w _ hw433_0)).trans hw433_0)⟩ (fun hHeld => ?_); refine with_tabW spec_NestedPlan.tab9 spec_NestedPlan.bits9 (fun HT_ HW_ => ?_)
               generalize w23.drew = w24 at HO_6 BK425 HB HR433_0 hx433_0 hHeld ⊢
               refine zP (i := 0) (N := some 34) #[true, false, false, false, false, false, false, false, false, false, false] (any_of HT_.out (by kernel_rfl)) ?_
               refine zP (i := 1) (N := some 35) #[true, true, false, false, false, false, false, false, false, false, false] (any_of HT_.out (by kernel_rfl)) ?_
               refine zP (i := 3) (N := some 37) #[true, true, false, true, false, false, false, false, false, false, false] (any_of HT_.out (by kernel_rfl)) ?_
               refine zP (i := 4) (N := some 38) #[true, true, false, true, true, false, false, false, false, false, false] (any_of HT_.out (by kernel_rfl)) ?_
               refine zP (i := 5) (N := some 39) #[true, true, false, true, true, true, false, false, false, false, false] (any_of HT_.out (by kernel_rfl)) ?_
               refine take_ (i := 2) (N := some 36) (v := ?_) (a' := ?_) #[true, true, true, true, true, true, false, false, false, false, false] rfl rfl (take_ofW HT_.out HW_.out (by kernel_rfl)) (fun _ _ _ h => h) (Or.inl ⟨(by rfl), ?_⟩) hHeld ?_ ?_
               rotate_left
               · rintro w' ⟨s0, s1, s2, s3⟩
                 go_simp
                 with_reducible rfl
               rotate_left
               · simp only [Act.put, List.setIfInBounds_toArray, List.set_cons_zero, List.set_cons_succ, i64_w, i32_w]
                 rfl
               refine take_ (i := 6) (N := some 40) (v := ?_) (a' := ?_) #[true, true, true, true, true, true, true, false, false, false, false] rfl rfl (take_ofW HT_.out HW_.out (by kernel_rfl)) (fun _ _ _ h => h) (Or.inl ⟨(by rfl), ?_⟩) hHeld ?_ ?_
               rotate_left
               · rintro w' ⟨s0, s1, s2, s3⟩
                 go_simp
                 with_reducible rfl
               rotate_left
               · simp only [Act.put, List.setIfInBounds_toArray, List.set_cons_zero, List.set_cons_succ, i64_w, i32_w]
                 rfl
               refine one_ (i := 7) (N := some 41) #[true, true, true, true, true, true, true, true, false, false, false] rfl rfl (one_of HT_.out (by kernel_rfl)) (by decide) (fun K hK => ?_)
               refine goes_ Try.func64 (by kernel_rfl) rfl #[.slice A0_0 l0_0.length c0_0, .slice A433_0 (rd_L2 l1 x7_2).length c433_0] (by rfl) rfl rfl z2 ?_
               with_reducible refine (spec_l7Row.calls k2 _ _ l0_0 _ _ (rd_L2 l1 x7_2) t434 _ ?side1 ?side2 ?side3 ?side4 A21.out).mono ?_
               (case side1 => exact zC (Kd.C_below HR0_0.out HB.out))
               (case side2 => exact HC0_0.out)
               (case side3 => exact zC (Kd.C_below HR433_0.out HB.out))
               (case side4 => exact HC433_0.out)
               rintro e w25 ⟨v435, rfl, ho0, hb⟩
               refine ⟨_, rfl, ?_⟩
               have HO436 := Aside0.mk (Kd.R_lower ho0 (below_size (zH1 GE425.out)))
               replace HO_6 := zSe HO_6 (Kd.R_base ho0) hb
               replace BK425 := zb BK425 hb
               replace HB := zs1 GE425.out hb
               (try clear hb)
               (try clear hb2)
               (try clear hk)
               (try clear hi)
               (try clear ho0)
               obtain ⟨Ao27, co27, eo27⟩ := Kd.R_slice HO436.out
               (first | subst eo27 | (injection eo27 with f1_ f2_ f3_; have f4_ := f1_.symm; have f5_ := f3_.symm; clear f1_ f2_ f3_; subst f4_; subst f5_))
               refine hK.out _ _ ⟨(blk_cell BK425.out 0).trans rfl, (blk_cell BK425.out 1).trans rfl, (blk_cell BK425.out 2).trans rfl, ((HB.out.cell (World.block_lt_of_cell? w _ hw433_0)).trans hw433_0)⟩ (fun hHeld => ?_)
               clear hK K
               refine zU (some 41) ?_
               refine one_ (i := 8) (N := some 42) #[true, true, true, true, true, true, true, true, true, false, false] rfl rfl (one_of HT_.out (by kernel_rfl)) (by decide) (fun K hK => ?_)
               refine value_ (w1 := ?_) (v := ?_) (by rfl) rfl ?_ ?_
               rotate_left 2
               · go_simp
                 constructor
                 · rfl
                 · rfl
               refine hK.out _ _ ⟨(blk_cell (blk_alloc BK425.out _) 0).trans rfl, (blk_cell (blk_alloc BK425.out _) 1).trans rfl, (blk_cell (blk_alloc BK425.out _) 2).trans rfl, (World.cell?_alloc_lt _ _ _ (World.block_lt_of_cell? _ _ (((HB.out.cell (World.block_lt_of_cell? w _ hw433_0)).trans hw433_0)))).trans (((HB.out.cell (World.block_lt_of_cell? w _ hw433_0)).trans hw433_0))⟩ (fun hHeld => ?_)
               clear hK K
               refine zU (some 42) ?_
               refine one_ (i := 9) (N := some 43) #[true, true, true, true, true, true, true, true, true, true, false] rfl rfl (one_of HT_.out (by kernel_rfl)) (by decide) (fun K hK => ?_)
               refine Kd.S_append_step (Kd.slice 3 (Kd.int .i64)) (w0 := w) w.heap.size (by rfl) (.tmp 34) (.tmp 42) 27 24 (.slice none 0 0) 24 rfl Try.underlying27 info24 rfl (by decide) (by omega) u6 x6_2 t434 [.slice Ao27 t434.length co27] (fun _ => True) (fun k_ => some k_ = (.slice Ao27 t434.length co27 : Value).ownBlock) rfl rfl ?aP (fun k_ hk_ => ((Kd.R_mono (ok' := fun k_ => ((fun _ => True)) k_ ∧ some k_ ≠ (u6 : Value).ownBlock) (Kd.R_apart' (HO436.out) (Kd.S_typed HO_6.out) (by decide)) (fun k_ hk => ⟨trivial, hk.2⟩))).1 k_ hk_.symm) ?aF ?aO ?aB ?aS ?aL ?_
               (case aP => exact Kd.M_row (Kd.R_mono (Kd.R_tight rfl (Kd.R_mono (ok' := fun k_ => ((fun _ => True)) k_ ∧ some k_ ≠ (u6 : Value).ownBlock) (Kd.R_apart' (HO436.out) (Kd.S_typed HO_6.out) (by decide)) (fun k_ hk => ⟨trivial, hk.2⟩))) (fun _ h_ => h_)))
               (case aB => exact (zH1 GE425.out))
               (case aF => exact (fun _ _ => trivial))
               (case aO => exact (by (with_reducible repeat (first | apply Kd.S_alloc | apply Kd.S_drewN | apply Kd.S_drew)); exact Kd.S_mono HO_6.out (fun k_ hk => ⟨trivial, fun e_ => hk.2 e_⟩)))
               (case aS => exact (below_size (zH1 GE425.out)))
               (case aL => have := LMc22.out; omega)
               intro v438 w26 ho hb hg hat
               rw [← Ny437.out] at ho
               have HO439 := Aside0.mk (ho)
               replace BK425 := Aside0.mk (blk_grown (g := gb425) (o := .cells #[.slice A0_0 l0_0.length c0_0, .slice A0_1 l0_1.length c0_1, .slice A0_2 l0_2.length c0_2] 26 (0, 0)) (zB BK425.out) hg (Kd.S_ne HO_6.out BK425.out (by decide)))
               replace HB := Aside0.mk (hb)
               clear HO_6 HO436
               clear ho hb hg hat
               refine hK.out _ _ ⟨(blk_cell BK425.out 0).trans rfl, (blk_cell BK425.out 1).trans rfl, (blk_cell BK425.out 2).trans rfl, ((HB.out.cell (World.block_lt_of_cell? w _ hw433_0)).trans hw433_0)⟩ (fun hHeld => ?_)
               clear hK K
               refine zU (some 43) ?_
               refine zP (i := 10) (N := some 6) #[true, true, true, true, true, true, true, true, true, true, true] (any_of HT_.out (by kernel_rfl)) ?_
               refine done_ (done_of HT_.out (by kernel_rfl)) ?_
               try go_wp2
               go_roundg k2
               case measure => have := HJ2.out; have := HK2.out; omega
               case rel => exact ⟨(y437), (wrap64 (x7_2 + 1)), z3, H', ⟨(by have := HJ2.out; have := HK2.out; omega)⟩, ⟨(zS HO439.out)⟩, ⟨(zB BK425.out)⟩, ⟨(zH1 GE425.out)⟩⟩
             · rw [if_neg c22] at H
               exact absurd H (by simp)
           · replace c20 := Bool.eq_false_iff.mpr c20
             subst c20
             have H1 : (some ((([] : List (List Int))), false)) = some (r1, r2) := by rw [if_neg (show ¬ (false = true) by decide)] at H; exact H
             clear H
             have H := H1
             clear H1
             obtain ⟨y440, hy440⟩ : ∃ y_ : List (List Int), y_ = (([] : List (List Int))) := ⟨_, rfl⟩
             replace H : (some (y440, false)) = some (r1, r2) := zY hy440
             have Ny440 := Aside0.mk hy440
             clear hy440
             simp only [Option.some.injEq, Prod.mk.injEq] at H
             obtain ⟨rfl, rfl⟩ := H
             try go_wp2
             replace HO_6 := Aside0.mk (Kd.S_drew HO_6.out)
             replace BK425 := Aside0.mk (blk_drew BK425.out)
             replace HB := Aside0.mk (below_drew1 HB.out)
             have p431 : 0 ≤ (x7_2 : Int) := of_decide_eq_true z1
             have q431 : x7_2 < (l1.length : Int) := of_decide_eq_true z1
             obtain ⟨ad431, A431_0, c431_0, e431, hx431_0, hl431_0, hi431_0⟩ := at_L2 HR1.out x7_2 p431 q431
             have hw431_0 := hx431_0
             cases e431
             replace hx431_0 := (HB.out.cell (World.block_lt_of_cell? w _ hx431_0)).trans hx431_0
             have HR431_0 := Aside0.mk hi431_0
             have HC431_0 := Aside0.mk hl431_0
             clear hi431_0 hl431_0
             replace p431 := eq_true p431
             replace q431 := eq_true q431
             refine start_ (n := 8) (S := fun w' => w'.cell? ⟨gb425, 0, none⟩ = some (.slice A0_0 l0_0.length c0_0) ∧ w'.cell? ⟨gb425, 1, none⟩ = some (.slice A0_1 l0_1.length c0_1) ∧ w'.cell? ⟨gb425, 2, none⟩ = some (.slice A0_2 l0_2.length c0_2) ∧ w'.cell? (ad431.add (x7_2).toNat) = some (.slice A431_0 (rd_L2 l1 x7_2).length c431_0)) (ds := []) #[false, false, false, false, false, false, false, false] (by kernel_rfl) rfl rfl ⟨(blk_cell BK425.out 0).trans rfl, (blk_cell BK425.out 1).trans rfl, (blk_cell BK425.out 2).trans rfl, ((HB.out.cell (World.block_lt_of_cell? w _ hw431_0)).trans hw431_0)⟩ (fun hHeld => ?_); refine with_tabW spec_NestedPlan.tab7 spec_NestedPlan.bits7 (fun HT_ HW_ => ?_)
             generalize wr.drew = w28 at HO_6 BK425 HB HR431_0 hx431_0 hHeld ⊢
             refine zP (i := 0) (N := some 25) #[true, false, false, false, false, false, false, false] (any_of HT_.out (by kernel_rfl)) ?_
             refine zP (i := 2) (N := some 27) #[true, false, true, false, false, false, false, false] (any_of HT_.out (by kernel_rfl)) ?_
             refine zP (i := 3) (N := some 28) #[true, false, true, true, false, false, false, false] (any_of HT_.out (by kernel_rfl)) ?_
             refine zP (i := 4) (N := some 29) #[true, false, true, true, true, false, false, false] (any_of HT_.out (by kernel_rfl)) ?_
             refine take_ (i := 1) (N := some 26) (v := ?_) (a' := ?_) #[true, true, true, true, true, false, false, false] rfl rfl (take_ofW HT_.out HW_.out (by kernel_rfl)) (fun _ _ _ h => h) (Or.inl ⟨(by rfl), ?_⟩) hHeld ?_ ?_
             rotate_left
             · rintro w' ⟨s0, s1, s2, s3⟩
               go_simp
               with_reducible rfl
             rotate_left
             · simp only [Act.put, List.setIfInBounds_toArray, List.set_cons_zero, List.set_cons_succ, i64_w, i32_w]
               rfl
             refine take_ (i := 5) (N := some 30) (v := ?_) (a' := ?_) #[true, true, true, true, true, true, false, false] rfl rfl (take_ofW HT_.out HW_.out (by kernel_rfl)) (fun _ _ _ h => h) (Or.inl ⟨(by rfl), ?_⟩) hHeld ?_ ?_
             rotate_left
             · rintro w' ⟨s0, s1, s2, s3⟩
               go_simp
               with_reducible rfl
             rotate_left
             · simp only [Act.put, List.setIfInBounds_toArray, List.set_cons_zero, List.set_cons_succ, i64_w, i32_w]
               rfl
             refine one_ (i := 6) (N := some 31) #[true, true, true, true, true, true, true, false] rfl rfl (one_of HT_.out (by kernel_rfl)) (by decide) (fun K hK => ?_)
             refine goes_ Try.func63 (by kernel_rfl) rfl #[.slice A0_0 l0_0.length c0_0, .slice A431_0 (rd_L2 l1 x7_2).length c431_0] (by rfl) rfl rfl z2 ?_
             with_reducible refine (spec_l7Fed.calls k2 _ _ l0_0 _ _ (rd_L2 l1 x7_2) false _ ?side1 ?side2 ?side3 ?side4 A19.out).mono ?_
             (case side1 => exact zC (Kd.C_below HR0_0.out HB.out))
             (case side2 => exact HC0_0.out)
             (case side3 => exact zC (Kd.C_below HR431_0.out HB.out))
             (case side4 => exact HC431_0.out)
             rintro e w' ⟨rfl, ⟨nd, rfl⟩⟩
             refine ⟨_, rfl, ?_⟩
             refine hK.out _ _ ⟨(blk_cell BK425.out 0).trans rfl, (blk_cell BK425.out 1).trans rfl, (blk_cell BK425.out 2).trans rfl, ((HB.out.cell (World.block_lt_of_cell? w _ hw431_0)).trans hw431_0)⟩ (fun hHeld => ?_)
             clear hK K
             refine zU (some 31) ?_
             refine zP (i := 7) (N := some 32) #[true, true, true, true, true, true, true, true] (any_of HT_.out (by kernel_rfl)) ?_
             refine done_ (done_of HT_.out (by kernel_rfl)) ?_
             try go_wp2_with (first | ((with_reducible refine gate_dst (N := 33) rfl ?_); refine Kd.S_lit (Kd.slice 3 (Kd.int .i64)) _ 24 ?hg (N := 33) ?hd (xs := ([] : List (List Int))) (inner := []) (ok := fun _ => True) (okp := fun _ => True) ?hr ?hp (fun _ hk => hk) trivial (Below.refl _ _) (Nat.le_refl _) (by simp) ?_; (case hd => rfl); (case hg => rfl); (case hr => first | (go_simp; done) | (go_simp; rfl)); (case hp => exact (Reps.none _ _)); intro v441 w29 ho30 hb hg_ hnew_; clear hg_ hnew_; (first | rw [← Ny440.out] at ho30 | (simp only [Int.reduceToNat] at ho30; rw [← Ny440.out] at ho30)); have HO442 := Aside0.mk (Kd.S_lower (Kd.S_new' ho30 (Kd.S_lt (zS HO_6.out))) (below_size (zH1 GE425.out))); replace HO_6 := zSe HO_6 (Kd.S_base ho30) hb; replace BK425 := zb BK425 hb; replace HB := zs1 GE425.out hb; clear hb ho30))
             go_ret2
             exact ⟨_, z5, (by (with_reducible repeat (first | apply Kd.S_alloc | apply Kd.S_drewN | apply Kd.S_drew)); exact Kd.S_mono HO442.out (fun _ hk => trivial)), (zH1 GE425.out)⟩
         · rw [if_neg c18] at H
           exact absurd H (by simp)
       · rw [if_neg c17] at H
         have c17b0 : decide (x7_2 < (l1.length : Int)) = false := decide_eq_false c17
         clear c17
         simp only [Option.some.injEq, Prod.mk.injEq] at H
         obtain ⟨rfl, rfl⟩ := H
         go_wp2
         go_ret2
         exact ⟨_, z5, (zS HO_6.out), (zH1 GE425.out)⟩
def spec_l7Many.l0 : Nat → List (List Int) → Int → Int → Option (Int)
 | 0, _, _, _ => none
 | k + 1, x0, x3, x4 => if x4 < (x0.length : Int) then (if 0 ≤ x4 then (spec_l7Many.l0 k x0 (wrap64 (x3 + ((rd_L2 x0 x4).length : Int))) (wrap64 (x4 + 1))) else (none)) else (some x3)
def spec_l7Many.f (k : Nat) (l0 : List (List Int)) : Option (Int) := spec_l7Many.l0 k l0 0 0
set_option maxHeartbeats 8000000 in
set_option maxRecDepth 100000 in
theorem spec_l7Many.calls (k : Nat) (A0 : Option Addr) (c0 : Nat) (l0 : List (List Int)) (r : Int) (w : World) (hr0 : Kd.C (Kd.slice 3 (Kd.int .i64)) w A0 l0.length l0) (hc0 : l0.length ≤ c0) (h : spec_l7Many.f k l0 = some r) :
 Calls Try.prog 120 #[.slice A0 l0.length c0] w fun e w' => e = .returned (.int .i64 r) ∧ Drawn0 w w' := by
 have HR0 := Aside0.mk hr0
 have HC0 := Aside0.mk hc0
 clear hr0 hc0
 have H : (spec_l7Many.l0 k l0 0 0) = some r := h
 clear h
 have H' := Aside0.mk H
 clear H
 go_enter Try.func120, Try.ntmps120
 go_wp2
 go_loopg [3, 4] k (fun kq v3 v4 w' => ∃ (x3_1 : Int) (x4_1 : Int), v3 = .int .i64 x3_1 ∧ v4 = .int .i64 x4_1 ∧ Aside0 (spec_l7Many.l0 kq l0 x3_1 x4_1 = some r) ∧ Aside0 (kq ≤ k) ∧ Drawn0 w w')
 case atStart => exact ⟨(0), (0), z3, z3, H', ⟨Nat.le_refl _⟩, z4⟩
 case round =>
  clear H'
  try clear c1
  obtain ⟨x3_1, x4_1, rfl, rfl, HA, HK1, ⟨m1, rfl⟩⟩ := hrel
  cases gk with
  | zero => exact absurd HA.out (by simp [spec_l7Many.l0])
  | succ k1 =>
   have H := HA.out
   clear HA
   simp only [spec_l7Many.l0] at H
   by_cases c2 : x4_1 < (l0.length : Int)
   · rw [if_pos c2] at H
     have c2b0 : decide (x4_1 < (l0.length : Int)) = true := decide_eq_true c2
     clear c2
     by_cases c3 : 0 ≤ x4_1
     · rw [if_pos c3] at H
       have c3b0 : decide (0 ≤ x4_1) = true := decide_eq_true c3
       clear c3
       have H' := Aside0.mk H
       clear H
       have p934 : 0 ≤ (x4_1 : Int) := of_decide_eq_true z1
       have q934 : x4_1 < (l0.length : Int) := of_decide_eq_true z1
       obtain ⟨ad934, A934_0, c934_0, e934, hx934_0, hl934_0, hi934_0⟩ := at_L2 HR0.out x4_1 p934 q934
       cases e934
       have HR934_0 := Aside0.mk hi934_0
       have HC934_0 := Aside0.mk hl934_0
       clear hi934_0 hl934_0
       replace p934 := eq_true p934
       replace q934 := eq_true q934
       go_wp2
       go_roundg k1
       case measure => have := HK1.out; omega
       case rel => exact ⟨(wrap64 (x3_1 + ((rd_L2 l0 x4_1).length : Int))), (wrap64 (x4_1 + 1)), z3, z3, H', ⟨z21⟩, z4⟩
     · rw [if_neg c3] at H
       exact absurd H (by simp)
   · rw [if_neg c2] at H
     have c2b0 : decide (x4_1 < (l0.length : Int)) = false := decide_eq_false c2
     clear c2
     obtain rfl := Option.some.inj H
     go_wp2
     go_ret
     exact ⟨z3, z4⟩
mutual
def spec_l7Less.l0 : Nat → List (List Int) → List (List Int) → Int → Option (Bool)
 | 0, _, _, _ => none
 | k + 1, x0, x1, x5 => if x5 < (x0.length : Int) then (spec_l7Less.l1 k x0 x1 x5 0) else (some false)
def spec_l7Less.l1 : Nat → List (List Int) → List (List Int) → Int → Int → Option (Bool)
 | 0, _, _, _, _ => none
 | k + 1, x0, x1, x5, x6 => if 0 ≤ x5 then (if x5 < (x0.length : Int) then (if x6 < ((rd_L2 x0 x5).length : Int) then (if x5 < (x1.length : Int) then (spec_l7Less.j2 k x0 x1 x5 x6 (decide (x6 < ((rd_L2 x1 x5).length : Int)))) else (none)) else (spec_l7Less.j2 k x0 x1 x5 x6 false)) else (none)) else (none)
def spec_l7Less.j2 : Nat → List (List Int) → List (List Int) → Int → Int → Bool → Option (Bool)
 | 0, _, _, _, _, _ => none
 | k + 1, x0, x1, x5, x6, x28 => if x28 = true then (if 0 ≤ x5 then (if x5 < (x0.length : Int) then (if 0 ≤ x6 then (if x6 < ((rd_L2 x0 x5).length : Int) then (if x5 < (x1.length : Int) then (if x6 < ((rd_L2 x1 x5).length : Int) then (if (rd (rd_L2 x0 x5) x6) = (rd (rd_L2 x1 x5) x6) then (spec_l7Less.l1 k x0 x1 x5 (wrap64 (x6 + 1))) else (some (decide ((rd (rd_L2 x0 x5) x6) < (rd (rd_L2 x1 x5) x6))))) else (none)) else (none)) else (none)) else (none)) else (none)) else (none)) else (if 0 ≤ x5 then (if x5 < (x0.length : Int) then (if x5 < (x1.length : Int) then (if ((rd_L2 x0 x5).length : Int) = ((rd_L2 x1 x5).length : Int) then (spec_l7Less.l0 k x0 x1 (wrap64 (x5 + 1))) else (some (decide (((rd_L2 x0 x5).length : Int) < ((rd_L2 x1 x5).length : Int))))) else (none)) else (none)) else (none))
end
def spec_l7Less.f (k : Nat) (l0 : List (List Int)) (l1 : List (List Int)) : Option (Bool) := spec_l7Less.l0 k l0 l1 0
set_option maxHeartbeats 8000000 in
set_option maxRecDepth 100000 in
theorem spec_l7Less.calls (k : Nat) (A0 : Option Addr) (c0 : Nat) (l0 : List (List Int)) (A1 : Option Addr) (c1 : Nat) (l1 : List (List Int)) (r : Bool) (w : World) (hr0 : Kd.C (Kd.slice 3 (Kd.int .i64)) w A0 l0.length l0) (hc0 : l0.length ≤ c0) (hr1 : Kd.C (Kd.slice 3 (Kd.int .i64)) w A1 l1.length l1) (hc1 : l1.length ≤ c1) (h : spec_l7Less.f k l0 l1 = some r) :
 Calls Try.prog 121 #[.slice A0 l0.length c0, .slice A1 l1.length c1] w fun e w' => e = .returned (.bool r) ∧ Drawn0 w w' := by
 have HR0 := Aside0.mk hr0
 have HC0 := Aside0.mk hc0
 clear hr0 hc0
 have HR1 := Aside0.mk hr1
 have HC1 := Aside0.mk hc1
 clear hr1 hc1
 have H : (spec_l7Less.l0 k l0 l1 0) = some r := h
 clear h
 have H' := Aside0.mk H
 clear H
 go_enter Try.func121, Try.ntmps121
 go_wp2
 repeat (go_quiet (fail); try go_wp2)
 go_loopg [5] k (fun kq v5 w' => ∃ (x5_1 : Int), v5 = .int .i64 x5_1 ∧ Aside0 (spec_l7Less.l0 kq l0 l1 x5_1 = some r) ∧ Aside0 (kq ≤ k) ∧ Drawn0 w w')
 case atStart => exact ⟨(0), z3, H', ⟨Nat.le_refl _⟩, z4⟩
 case round =>
  clear H'
  try clear c1
  try clear p2
  obtain ⟨x5_1, rfl, HA, HK1, ⟨m1, rfl⟩⟩ := hrel
  cases gk with
  | zero => exact absurd HA.out (by simp [spec_l7Less.l0])
  | succ k1 =>
   have H := HA.out
   clear HA
   simp only [spec_l7Less.l0] at H
   by_cases c3 : x5_1 < (l0.length : Int)
   · rw [if_pos c3] at H
     have c3b0 : decide (x5_1 < (l0.length : Int)) = true := decide_eq_true c3
     clear c3
     have H' := Aside0.mk H
     clear H
     go_wp2
     repeat (go_quiet (fail); try go_wp2)
     go_loopg [6] k1 (fun kq v6 w' => ∃ (x6_2 : Int), v6 = .int .i64 x6_2 ∧ Aside0 (spec_l7Less.l1 kq l0 l1 x5_1 x6_2 = some r) ∧ Aside0 (kq ≤ k1) ∧ Drawn0 w w')
     case atStart => exact ⟨(0), z3, H', ⟨Nat.le_refl _⟩, z4⟩
     case round =>
      clear H'
      try clear c1
      try clear p2
      try clear c3
      try clear c3b0
      try clear p2
      obtain ⟨x6_2, rfl, HA, HK2, ⟨m2, rfl⟩⟩ := hrel
      cases gk with
      | zero => exact absurd HA.out (by simp [spec_l7Less.l1])
      | succ k2 =>
       have H := HA.out
       clear HA
       simp only [spec_l7Less.l1] at H
       have HC4 := Aside0.mk H
       clear H
       go_upto_region 5 with (fail)
       repeat (go_quiet (fail); go_upto_region 5 with (fail))
       go_cut [28] (fun v28 wc => ∃ (kq : Nat) (x28_3 : Bool), v28 = .bool x28_3 ∧ Aside0 (spec_l7Less.j2 kq l0 l1 x5_1 x6_2 x28_3 = some r) ∧ Aside0 (kq ≤ k2) ∧ Drawn0 w wc)
       case first =>
        have H := HC4.out
        clear HC4
        by_cases c5 : 0 ≤ x5_1
        · rw [if_pos c5] at H
          have c5b0 : decide (0 ≤ x5_1) = true := decide_eq_true c5
          clear c5
          (first | rw [c5b0] | (simp only [i64_w, i32_w]; rw [c5b0]) | skip)
          by_cases c6 : x5_1 < (l0.length : Int)
          · rw [if_pos c6] at H
            have c6b0 : decide (x5_1 < (l0.length : Int)) = true := decide_eq_true c6
            clear c6
            by_cases c7 : x6_2 < ((rd_L2 l0 x5_1).length : Int)
            · rw [if_pos c7] at H
              have c7b0 : decide (x6_2 < ((rd_L2 l0 x5_1).length : Int)) = true := decide_eq_true c7
              clear c7
              by_cases c8 : x5_1 < (l1.length : Int)
              · rw [if_pos c8] at H
                have c8b0 : decide (x5_1 < (l1.length : Int)) = true := decide_eq_true c8
                clear c8
                have H' := Aside0.mk H
                clear H
                have p935 : 0 ≤ (x5_1 : Int) := of_decide_eq_true z1
                have q935 : x5_1 < (l0.length : Int) := of_decide_eq_true z1
                obtain ⟨ad935, A935_0, c935_0, e935, hx935_0, hl935_0, hi935_0⟩ := at_L2 HR0.out x5_1 p935 q935
                cases e935
                have HR935_0 := Aside0.mk hi935_0
                have HC935_0 := Aside0.mk hl935_0
                clear hi935_0 hl935_0
                replace p935 := eq_true p935
                replace q935 := eq_true q935
                have p936 : 0 ≤ (x5_1 : Int) := of_decide_eq_true z1
                have q936 : x5_1 < (l1.length : Int) := of_decide_eq_true z1
                obtain ⟨ad936, A936_0, c936_0, e936, hx936_0, hl936_0, hi936_0⟩ := at_L2 HR1.out x5_1 p936 q936
                cases e936
                have HR936_0 := Aside0.mk hi936_0
                have HC936_0 := Aside0.mk hl936_0
                clear hi936_0 hl936_0
                replace p936 := eq_true p936
                replace q936 := eq_true q936
                go_wp2
                repeat (go_quiet (fail); try go_wp2)
                go_meet
                case rel => exact ⟨_, (decide (x6_2 < ((rd_L2 l1 x5_1).length : Int))), z3, H', ⟨(by have := HK1.out; have := HK2.out; first | omega | exact Nat.le_refl _)⟩, z4⟩
              · rw [if_neg c8] at H
                exact absurd H (by simp)
            · rw [if_neg c7] at H
              have c7b0 : decide (x6_2 < ((rd_L2 l0 x5_1).length : Int)) = false := decide_eq_false c7
              clear c7
              have H' := Aside0.mk H
              clear H
              have p935 : 0 ≤ (x5_1 : Int) := of_decide_eq_true z1
              have q935 : x5_1 < (l0.length : Int) := of_decide_eq_true z1
              obtain ⟨ad935, A935_0, c935_0, e935, hx935_0, hl935_0, hi935_0⟩ := at_L2 HR0.out x5_1 p935 q935
              cases e935
              have HR935_0 := Aside0.mk hi935_0
              have HC935_0 := Aside0.mk hl935_0
              clear hi935_0 hl935_0
              replace p935 := eq_true p935
              replace q935 := eq_true q935
              go_wp2
              repeat (go_quiet (fail); try go_wp2)
              go_meet
              case rel => exact ⟨_, (false), z3, H', ⟨(by have := HK1.out; have := HK2.out; first | omega | exact Nat.le_refl _)⟩, z4⟩
          · rw [if_neg c6] at H
            exact absurd H (by simp)
        · rw [if_neg c5] at H
          exact absurd H (by simp)
       case rest =>
        clear HC4
        try clear c1
        try clear p2
        try clear c3
        try clear c3b0
        try clear c5
        try clear c5b0
        try clear c6
        try clear c6b0
        try clear c7
        try clear c7b0
        try clear c8
        try clear c8b0
        try clear hx935_0
        try clear hx936_0
        try clear p2
        try clear p935
        try clear p936
        try clear q935
        try clear q936
        obtain ⟨kq, x28_3, rfl, HA, HJ3, ⟨mc3, rfl⟩⟩ := hcut
        cases kq with
        | zero => exact absurd HA.out (by simp [spec_l7Less.j2])
        | succ kj3 =>
         have H := HA.out
         clear HA
         simp only [spec_l7Less.j2] at H
         by_cases c9 : x28_3 = true
         · subst c9
           have H1 : (if 0 ≤ x5_1 then (if x5_1 < (l0.length : Int) then (if 0 ≤ x6_2 then (if x6_2 < ((rd_L2 l0 x5_1).length : Int) then (if x5_1 < (l1.length : Int) then (if x6_2 < ((rd_L2 l1 x5_1).length : Int) then (if (rd (rd_L2 l0 x5_1) x6_2) = (rd (rd_L2 l1 x5_1) x6_2) then (spec_l7Less.l1 kj3 l0 l1 x5_1 (wrap64 (x6_2 + 1))) else (some (decide ((rd (rd_L2 l0 x5_1) x6_2) < (rd (rd_L2 l1 x5_1) x6_2))))) else (none)) else (none)) else (none)) else (none)) else (none)) else (none)) = some r := by rw [if_pos rfl] at H; exact H
           clear H
           have H := H1
           clear H1
           by_cases c10 : 0 ≤ x5_1
           · rw [if_pos c10] at H
             have c10b0 : decide (0 ≤ x5_1) = true := decide_eq_true c10
             clear c10
             by_cases c11 : x5_1 < (l0.length : Int)
             · rw [if_pos c11] at H
               have c11b0 : decide (x5_1 < (l0.length : Int)) = true := decide_eq_true c11
               clear c11
               by_cases c12 : 0 ≤ x6_2
               · rw [if_pos c12] at H
                 have c12b0 : decide (0 ≤ x6_2) = true := decide_eq_true c12
                 clear c12
                 by_cases c13 : x6_2 < ((rd_L2 l0 x5_1).length : Int)
                 · rw [if_pos c13] at H
                   have c13b0 : decide (x6_2 < ((rd_L2 l0 x5_1).length : Int)) = true := decide_eq_true c13
                   clear c13
                   by_cases c14 : x5_1 < (l1.length : Int)
                   · rw [if_pos c14] at H
                     have c14b0 : decide (x5_1 < (l1.length : Int)) = true := decide_eq_true c14
                     clear c14
                     by_cases c15 : x6_2 < ((rd_L2 l1 x5_1).length : Int)
                     · rw [if_pos c15] at H
                       have c15b0 : decide (x6_2 < ((rd_L2 l1 x5_1).length : Int)) = true := decide_eq_true c15
                       clear c15
                       by_cases c16 : (rd (rd_L2 l0 x5_1) x6_2) = (rd (rd_L2 l1 x5_1) x6_2)
                       · rw [if_pos c16] at H
                         have c16b0 : ((rd (rd_L2 l0 x5_1) x6_2) == (rd (rd_L2 l1 x5_1) x6_2)) = true := beq_iff_eq.mpr c16
                         have c16b1 : ((rd (rd_L2 l0 x5_1) x6_2) != (rd (rd_L2 l1 x5_1) x6_2)) = false := bne_eq_false_iff_eq.mpr c16
                         clear c16
                         have H' := Aside0.mk H
                         clear H
                         have p937 : 0 ≤ (x5_1 : Int) := of_decide_eq_true z1
                         have q937 : x5_1 < (l0.length : Int) := of_decide_eq_true z1
                         obtain ⟨ad937, A937_0, c937_0, e937, hx937_0, hl937_0, hi937_0⟩ := at_L2 HR0.out x5_1 p937 q937
                         cases e937
                         have HR937_0 := Aside0.mk hi937_0
                         have HC937_0 := Aside0.mk hl937_0
                         clear hi937_0 hl937_0
                         replace p937 := eq_true p937
                         replace q937 := eq_true q937
                         have p938 : 0 ≤ (x6_2 : Int) := of_decide_eq_true z1
                         have q938 : x6_2 < ((rd_L2 l0 x5_1).length : Int) := of_decide_eq_true z1
                         obtain ⟨ad938, e938, hx938_0⟩ := Kd.at_int HR937_0.out x6_2 p938 q938
                         cases e938
                         replace p938 := eq_true p938
                         replace q938 := eq_true q938
                         have p939 : 0 ≤ (x5_1 : Int) := of_decide_eq_true z1
                         have q939 : x5_1 < (l1.length : Int) := of_decide_eq_true z1
                         obtain ⟨ad939, A939_0, c939_0, e939, hx939_0, hl939_0, hi939_0⟩ := at_L2 HR1.out x5_1 p939 q939
                         cases e939
                         have HR939_0 := Aside0.mk hi939_0
                         have HC939_0 := Aside0.mk hl939_0
                         clear hi939_0 hl939_0
                         replace p939 := eq_true p939
                         replace q939 := eq_true q939
                         have p940 : 0 ≤ (x6_2 : Int) := of_decide_eq_true z1
                         have q940 : x6_2 < ((rd_L2 l1 x5_1).length : Int) := of_decide_eq_true z1
                         obtain ⟨ad940, e940, hx940_0⟩ := Kd.at_int HR939_0.out x6_2 p940 q940
                         cases e940
                         replace p940 := eq_true p940
                         replace q940 := eq_true q940
                         go_wp2
                         repeat (go_quiet (fail); try go_wp2)
                         go_roundg kj3
                         case measure => have := HK1.out; have := HK2.out; have := HJ3.out; omega
                         case rel => exact ⟨(wrap64 (x6_2 + 1)), z3, H', ⟨(by have := HK1.out; have := HK2.out; have := HJ3.out; omega)⟩, z4⟩
                       · rw [if_neg c16] at H
                         have c16b0 : ((rd (rd_L2 l0 x5_1) x6_2) == (rd (rd_L2 l1 x5_1) x6_2)) = false := beq_eq_false_iff_ne.mpr c16
                         have c16b1 : ((rd (rd_L2 l0 x5_1) x6_2) != (rd (rd_L2 l1 x5_1) x6_2)) = true := bne_iff_ne.mpr c16
                         obtain rfl := Option.some.inj H
                         have p937 : 0 ≤ (x5_1 : Int) := of_decide_eq_true z1
                         have q937 : x5_1 < (l0.length : Int) := of_decide_eq_true z1
                         obtain ⟨ad937, A937_0, c937_0, e937, hx937_0, hl937_0, hi937_0⟩ := at_L2 HR0.out x5_1 p937 q937
                         cases e937
                         have HR937_0 := Aside0.mk hi937_0
                         have HC937_0 := Aside0.mk hl937_0
                         clear hi937_0 hl937_0
                         replace p937 := eq_true p937
                         replace q937 := eq_true q937
                         have p938 : 0 ≤ (x6_2 : Int) := of_decide_eq_true z1
                         have q938 : x6_2 < ((rd_L2 l0 x5_1).length : Int) := of_decide_eq_true z1
                         obtain ⟨ad938, e938, hx938_0⟩ := Kd.at_int HR937_0.out x6_2 p938 q938
                         cases e938
                         replace p938 := eq_true p938
                         replace q938 := eq_true q938
                         have p939 : 0 ≤ (x5_1 : Int) := of_decide_eq_true z1
                         have q939 : x5_1 < (l1.length : Int) := of_decide_eq_true z1
                         obtain ⟨ad939, A939_0, c939_0, e939, hx939_0, hl939_0, hi939_0⟩ := at_L2 HR1.out x5_1 p939 q939
                         cases e939
                         have HR939_0 := Aside0.mk hi939_0
                         have HC939_0 := Aside0.mk hl939_0
                         clear hi939_0 hl939_0
                         replace p939 := eq_true p939
                         replace q939 := eq_true q939
                         have p940 : 0 ≤ (x6_2 : Int) := of_decide_eq_true z1
                         have q940 : x6_2 < ((rd_L2 l1 x5_1).length : Int) := of_decide_eq_true z1
                         obtain ⟨ad940, e940, hx940_0⟩ := Kd.at_int HR939_0.out x6_2 p940 q940
                         cases e940
                         replace p940 := eq_true p940
                         replace q940 := eq_true q940
                         have p941 : 0 ≤ (x5_1 : Int) := of_decide_eq_true z1
                         have q941 : x5_1 < (l0.length : Int) := of_decide_eq_true z1
                         obtain ⟨ad941, A941_0, c941_0, e941, hx941_0, hl941_0, hi941_0⟩ := at_L2 HR0.out x5_1 p941 q941
                         obtain rfl : ad937 = ad941 := (by injection e941)
                         have HR941_0 := Aside0.mk hi941_0
                         have HC941_0 := Aside0.mk hl941_0
                         clear hi941_0 hl941_0
                         replace p941 := eq_true p941
                         replace q941 := eq_true q941
                         have ea_ := Option.some.inj (hx937_0.symm.trans hx941_0)
                         injection ea_ with ea_ en_ ec_
                         subst ea_
                         subst ec_
                         clear en_
                         have p942 : 0 ≤ (x6_2 : Int) := of_decide_eq_true z1
                         have q942 : x6_2 < ((rd_L2 l0 x5_1).length : Int) := of_decide_eq_true z1
                         obtain ⟨ad942, e942, hx942_0⟩ := Kd.at_int HR941_0.out x6_2 p942 q942
                         cases e942
                         replace p942 := eq_true p942
                         replace q942 := eq_true q942
                         have p943 : 0 ≤ (x5_1 : Int) := of_decide_eq_true z1
                         have q943 : x5_1 < (l1.length : Int) := of_decide_eq_true z1
                         obtain ⟨ad943, A943_0, c943_0, e943, hx943_0, hl943_0, hi943_0⟩ := at_L2 HR1.out x5_1 p943 q943
                         obtain rfl : ad939 = ad943 := (by injection e943)
                         have HR943_0 := Aside0.mk hi943_0
                         have HC943_0 := Aside0.mk hl943_0
                         clear hi943_0 hl943_0
                         replace p943 := eq_true p943
                         replace q943 := eq_true q943
                         have ea_ := Option.some.inj (hx939_0.symm.trans hx943_0)
                         injection ea_ with ea_ en_ ec_
                         subst ea_
                         subst ec_
                         clear en_
                         have p944 : 0 ≤ (x6_2 : Int) := of_decide_eq_true z1
                         have q944 : x6_2 < ((rd_L2 l1 x5_1).length : Int) := of_decide_eq_true z1
                         obtain ⟨ad944, e944, hx944_0⟩ := Kd.at_int HR943_0.out x6_2 p944 q944
                         cases e944
                         replace p944 := eq_true p944
                         replace q944 := eq_true q944
                         go_wp2
                         repeat (go_quiet (fail); try go_wp2)
                         go_ret
                         exact ⟨z3, z4⟩
                     · rw [if_neg c15] at H
                       exact absurd H (by simp)
                   · rw [if_neg c14] at H
                     exact absurd H (by simp)
                 · rw [if_neg c13] at H
                   exact absurd H (by simp)
               · rw [if_neg c12] at H
                 exact absurd H (by simp)
             · rw [if_neg c11] at H
               exact absurd H (by simp)
           · rw [if_neg c10] at H
             exact absurd H (by simp)
         · replace c9 := Bool.eq_false_iff.mpr c9
           subst c9
           have H1 : (if 0 ≤ x5_1 then (if x5_1 < (l0.length : Int) then (if x5_1 < (l1.length : Int) then (if ((rd_L2 l0 x5_1).length : Int) = ((rd_L2 l1 x5_1).length : Int) then (spec_l7Less.l0 kj3 l0 l1 (wrap64 (x5_1 + 1))) else (some (decide (((rd_L2 l0 x5_1).length : Int) < ((rd_L2 l1 x5_1).length : Int))))) else (none)) else (none)) else (none)) = some r := by rw [if_neg (show ¬ (false = true) by decide)] at H; exact H
           clear H
           have H := H1
           clear H1
           by_cases c17 : 0 ≤ x5_1
           · rw [if_pos c17] at H
             have c17b0 : decide (0 ≤ x5_1) = true := decide_eq_true c17
             clear c17
             by_cases c18 : x5_1 < (l0.length : Int)
             · rw [if_pos c18] at H
               have c18b0 : decide (x5_1 < (l0.length : Int)) = true := decide_eq_true c18
               clear c18
               by_cases c19 : x5_1 < (l1.length : Int)
               · rw [if_pos c19] at H
                 have c19b0 : decide (x5_1 < (l1.length : Int)) = true := decide_eq_true c19
                 clear c19
                 by_cases c20 : ((rd_L2 l0 x5_1).length : Int) = ((rd_L2 l1 x5_1).length : Int)
                 · rw [if_pos c20] at H
                   have c20b0 : (((rd_L2 l0 x5_1).length : Int) == ((rd_L2 l1 x5_1).length : Int)) = true := beq_iff_eq.mpr c20
                   have c20b1 : (((rd_L2 l0 x5_1).length : Int) != ((rd_L2 l1 x5_1).length : Int)) = false := bne_eq_false_iff_eq.mpr c20
                   have c20b2 : ((rd_L2 l0 x5_1).length == (rd_L2 l1 x5_1).length) = true := by first | simpa using c20 | (simp at c20 ⊢; omega)
                   clear c20
                   have H' := Aside0.mk H
                   clear H
                   have p945 : 0 ≤ (x5_1 : Int) := of_decide_eq_true z1
                   have q945 : x5_1 < (l0.length : Int) := of_decide_eq_true z1
                   obtain ⟨ad945, A945_0, c945_0, e945, hx945_0, hl945_0, hi945_0⟩ := at_L2 HR0.out x5_1 p945 q945
                   cases e945
                   have HR945_0 := Aside0.mk hi945_0
                   have HC945_0 := Aside0.mk hl945_0
                   clear hi945_0 hl945_0
                   replace p945 := eq_true p945
                   replace q945 := eq_true q945
                   have p946 : 0 ≤ (x5_1 : Int) := of_decide_eq_true z1
                   have q946 : x5_1 < (l1.length : Int) := of_decide_eq_true z1
                   obtain ⟨ad946, A946_0, c946_0, e946, hx946_0, hl946_0, hi946_0⟩ := at_L2 HR1.out x5_1 p946 q946
                   cases e946
                   have HR946_0 := Aside0.mk hi946_0
                   have HC946_0 := Aside0.mk hl946_0
                   clear hi946_0 hl946_0
                   replace p946 := eq_true p946
                   replace q946 := eq_true q946
                   go_wp2
                   repeat (go_quiet (fail); try go_wp2)
                   go_roundg kj3
                   case measure => have := HK1.out; have := HK2.out; have := HJ3.out; omega
                   case rel => exact ⟨(wrap64 (x5_1 + 1)), z3, H', ⟨(by have := HK1.out; have := HK2.out; have := HJ3.out; omega)⟩, z4⟩
                 · rw [if_neg c20] at H
                   have c20b0 : (((rd_L2 l0 x5_1).length : Int) == ((rd_L2 l1 x5_1).length : Int)) = false := beq_eq_false_iff_ne.mpr c20
                   have c20b1 : (((rd_L2 l0 x5_1).length : Int) != ((rd_L2 l1 x5_1).length : Int)) = true := bne_iff_ne.mpr c20
                   have c20b2 : ((rd_L2 l0 x5_1).length == (rd_L2 l1 x5_1).length) = false := by first | simpa using c20 | (simp at c20 ⊢; omega)
                   obtain rfl := Option.some.inj H
                   have p945 : 0 ≤ (x5_1 : Int) := of_decide_eq_true z1
                   have q945 : x5_1 < (l0.length : Int) := of_decide_eq_true z1
                   obtain ⟨ad945, A945_0, c945_0, e945, hx945_0, hl945_0, hi945_0⟩ := at_L2 HR0.out x5_1 p945 q945
                   cases e945
                   have HR945_0 := Aside0.mk hi945_0
                   have HC945_0 := Aside0.mk hl945_0
                   clear hi945_0 hl945_0
                   replace p945 := eq_true p945
                   replace q945 := eq_true q945
                   have p946 : 0 ≤ (x5_1 : Int) := of_decide_eq_true z1
                   have q946 : x5_1 < (l1.length : Int) := of_decide_eq_true z1
                   obtain ⟨ad946, A946_0, c946_0, e946, hx946_0, hl946_0, hi946_0⟩ := at_L2 HR1.out x5_1 p946 q946
                   cases e946
                   have HR946_0 := Aside0.mk hi946_0
                   have HC946_0 := Aside0.mk hl946_0
                   clear hi946_0 hl946_0
                   replace p946 := eq_true p946
                   replace q946 := eq_true q946
                   have p947 : 0 ≤ (x5_1 : Int) := of_decide_eq_true z1
                   have q947 : x5_1 < (l0.length : Int) := of_decide_eq_true z1
                   obtain ⟨ad947, A947_0, c947_0, e947, hx947_0, hl947_0, hi947_0⟩ := at_L2 HR0.out x5_1 p947 q947
                   obtain rfl : ad945 = ad947 := (by injection e947)
                   have HR947_0 := Aside0.mk hi947_0
                   have HC947_0 := Aside0.mk hl947_0
                   clear hi947_0 hl947_0
                   replace p947 := eq_true p947
                   replace q947 := eq_true q947
                   have ea_ := Option.some.inj (hx945_0.symm.trans hx947_0)
                   injection ea_ with ea_ en_ ec_
                   subst ea_
                   subst ec_
                   clear en_
                   have p948 : 0 ≤ (x5_1 : Int) := of_decide_eq_true z1
                   have q948 : x5_1 < (l1.length : Int) := of_decide_eq_true z1
                   obtain ⟨ad948, A948_0, c948_0, e948, hx948_0, hl948_0, hi948_0⟩ := at_L2 HR1.out x5_1 p948 q948
                   obtain rfl : ad946 = ad948 := (by injection e948)
                   have HR948_0 := Aside0.mk hi948_0
                   have HC948_0 := Aside0.mk hl948_0
                   clear hi948_0 hl948_0
                   replace p948 := eq_true p948
                   replace q948 := eq_true q948
                   have ea_ := Option.some.inj (hx946_0.symm.trans hx948_0)
                   injection ea_ with ea_ en_ ec_
                   subst ea_
                   subst ec_
                   clear en_
                   go_wp2
                   repeat (go_quiet (fail); try go_wp2)
                   go_ret
                   exact ⟨z3, z4⟩
               · rw [if_neg c19] at H
                 exact absurd H (by simp)
             · rw [if_neg c18] at H
               exact absurd H (by simp)
           · rw [if_neg c17] at H
             exact absurd H (by simp)
   · rw [if_neg c3] at H
     have c3b0 : decide (x5_1 < (l0.length : Int)) = false := decide_eq_false c3
     clear c3
     obtain rfl := Option.some.inj H
     go_wp2
     repeat (go_quiet (fail); try go_wp2)
     go_ret
     exact ⟨z3, z4⟩
def impl_BestNested.f (k : Nat) (l0_0 : List Int) (l0_1 : List Int) (l0_2 : List Int) : Option ((List (List Int)) × Bool) := (impl_IsChain.f k l0_0 l0_1 l0_2).bind fun t899 => (if t899 = true then ((impl_Chain_bestNested.f k l0_0 l0_1 l0_2).bind fun bt900 => (some (bt900.1, true))) else (some (([] : List (List Int)), false)))
set_option maxHeartbeats 8000000 in
set_option maxRecDepth 100000 in
theorem impl_BestNested.calls (k : Nat) (A0_0 : Option Addr) (c0_0 : Nat) (l0_0 : List Int) (A0_1 : Option Addr) (c0_1 : Nat) (l0_1 : List Int) (A0_2 : Option Addr) (c0_2 : Nat) (l0_2 : List Int) (r1 : List (List Int)) (r2 : Bool) (w : World) (hr0_0 : Kd.C (Kd.int .i64) w A0_0 l0_0.length l0_0) (hc0_0 : l0_0.length ≤ c0_0) (hr0_1 : Kd.C (Kd.int .i64) w A0_1 l0_1.length l0_1) (hc0_1 : l0_1.length ≤ c0_1) (hr0_2 : Kd.C (Kd.int .i64) w A0_2 l0_2.length l0_2) (hc0_2 : l0_2.length ≤ c0_2) (h : impl_BestNested.f k l0_0 l0_1 l0_2 = some (r1, r2)) :
 Calls Try.prog 13 #[.agg #[.slice A0_0 l0_0.length c0_0, .slice A0_1 l0_1.length c0_1, .slice A0_2 l0_2.length c0_2]] w fun e w' => ∃ v0_ : Value, e = .returned (.tuple #[v0_, .bool r2]) ∧ Kd.S (Kd.slice 3 (Kd.int .i64)) 24 w' w.heap.size (fun _ => True) v0_ r1 ∧ Below w.heap.size w w' := by
 have hu26 := Try.underlying26
 have HR0_0 := Aside0.mk hr0_0
 have HC0_0 := Aside0.mk hc0_0
 clear hr0_0 hc0_0
 have HR0_1 := Aside0.mk hr0_1
 have HC0_1 := Aside0.mk hc0_1
 clear hr0_1 hc0_1
 have HR0_2 := Aside0.mk hr0_2
 have HC0_2 := Aside0.mk hc0_2
 clear hr0_2 hc0_2
 have HB := Aside0.mk (Below.refl w.heap.size w)
 have H : ((impl_IsChain.f k l0_0 l0_1 l0_2).bind fun t899 => (if t899 = true then ((impl_Chain_bestNested.f k l0_0 l0_1 l0_2).bind fun bt900 => (some (bt900.1, true))) else (some (([] : List (List Int)), false)))) = some (r1, r2) := h
 clear h
 replace H := Option.bind_eq_some_iff.mp H
 obtain ⟨t899, A20, H⟩ := H
 replace H : (if t899 = true then ((impl_Chain_bestNested.f k l0_0 l0_1 l0_2).bind fun bt900 => (some (bt900.1, true))) else (some (([] : List (List Int)), false))) = some (r1, r2) := H
 have A2 := Aside0.mk A20
 clear A20
 by_cases c3 : t899 = true
 · subst c3
   have H1 : ((impl_Chain_bestNested.f k l0_0 l0_1 l0_2).bind fun bt900 => (some (bt900.1, true))) = some (r1, r2) := by rw [if_pos rfl] at H; exact H
   clear H
   have H := H1
   clear H1
   replace H := Option.bind_eq_some_iff.mp H
   obtain ⟨⟨t900, t903⟩, A40, H⟩ := H
   replace H : (some (t900, true)) = some (r1, r2) := H
   have A4 := Aside0.mk A40
   clear A40
   simp only [Option.some.injEq, Prod.mk.injEq] at H
   obtain ⟨rfl, rfl⟩ := H
   go_enter Try.func13, Try.ntmps13
   go_wp2_with (first | ((with_reducible refine gate_dst (N := 1) rfl ?_); refine box_event ?hg (N := 1) ?hd (cs := #[.slice A0_0 l0_0.length c0_0, .slice A0_1 l0_1.length c0_1, .slice A0_2 l0_2.length c0_2]) (t := 26) ?hr ?_; (case hd => rfl); (case hg => rfl); (case hr => first | (go_simp; done) | (go_simp; rfl)); intro gb898 hg w5 hbox hb; have BK898 := Aside0.mk (hbox); have GW898 := Aside0.mk ((z6 : w.heap.size ≤ gb898)); have GE898 := Aside0.mk ((z6 : w.heap.size ≤ gb898)); replace HB := zs0 hb; clear hb hbox hg; obtain ⟨hcz6_0, hcz6_1, hcz6_2, hfz6_0, hfz6_1, hfz6_2⟩ := zc3 BK898.out) | ((with_reducible refine gate_callee (f := 50) rfl ?_); refine goesL_ (some 7) rfl rfl Try.func50 (by kernel_rfl) rfl #[.agg #[.slice A0_0 l0_0.length c0_0, .slice A0_1 l0_1.length c0_1, .slice A0_2 l0_2.length c0_2]] rfl z2 ?_; (with_reducible refine (impl_IsChain.calls k _ _ l0_0 _ _ l0_1 _ _ l0_2 true _ ?side1 ?side2 ?side3 ?side4 ?side5 ?side6 A2.out).mono ?_); (case side1 => exact zC (Kd.C_below HR0_0.out HB.out)); (case side2 => exact HC0_0.out); (case side3 => exact zC (Kd.C_below HR0_1.out HB.out)); (case side4 => exact HC0_1.out); (case side5 => exact zC (Kd.C_below HR0_2.out HB.out)); (case side6 => exact HC0_2.out); rintro e w7 ⟨rfl, hb⟩; refine ⟨_, rfl, ?_⟩; replace BK898 := zb BK898 hb; replace HB := zs1 GE898.out hb; (try clear hb); (try clear hb2); (try clear hk); (try clear hi); obtain ⟨hcz8_0, hcz8_1, hcz8_2, hfz8_0, hfz8_1, hfz8_2⟩ := zc3 BK898.out) | ((with_reducible refine gate_callee (f := 65) rfl ?_); refine goesL_ (some 11) rfl rfl Try.func65 (by kernel_rfl) rfl #[.agg #[.slice A0_0 l0_0.length c0_0, .slice A0_1 l0_1.length c0_1, .slice A0_2 l0_2.length c0_2]] rfl z2 ?_; (with_reducible refine (impl_Chain_bestNested.calls k _ _ l0_0 _ _ l0_1 _ _ l0_2 t900 t903 _ ?side1 ?side2 ?side3 ?side4 ?side5 ?side6 A4.out).mono ?_); (case side1 => exact zC (Kd.C_below HR0_0.out HB.out)); (case side2 => exact HC0_0.out); (case side3 => exact zC (Kd.C_below HR0_1.out HB.out)); (case side4 => exact HC0_1.out); (case side5 => exact zC (Kd.C_below HR0_2.out HB.out)); (case side6 => exact HC0_2.out); rintro e w9 ⟨v901, rfl, ho0, hb⟩; refine ⟨_, rfl, ?_⟩; have HO902 := Aside0.mk (Kd.S_lower ho0 (below_size (zH1 GE898.out))); replace BK898 := zb BK898 hb; replace HB := zs1 GE898.out hb; (try clear hb); (try clear hb2); (try clear hk); (try clear hi); (try clear ho0)))
   go_ret2
   exact ⟨_, z5, (zS HO902.out), (zH1 GE898.out)⟩
 · replace c3 := Bool.eq_false_iff.mpr c3
   subst c3
   have H1 : (some (([] : List (List Int)), false)) = some (r1, r2) := by rw [if_neg (show ¬ (false = true) by decide)] at H; exact H
   clear H
   have H := H1
   clear H1
   simp only [Option.some.injEq, Prod.mk.injEq] at H
   obtain ⟨rfl, rfl⟩ := H
   go_enter Try.func13, Try.ntmps13
   go_wp2_with (first | ((with_reducible refine gate_dst (N := 1) rfl ?_); refine box_event ?hg (N := 1) ?hd (cs := #[.slice A0_0 l0_0.length c0_0, .slice A0_1 l0_1.length c0_1, .slice A0_2 l0_2.length c0_2]) (t := 26) ?hr ?_; (case hd => rfl); (case hg => rfl); (case hr => first | (go_simp; done) | (go_simp; rfl)); intro gb898 hg w10 hbox hb; have BK898 := Aside0.mk (hbox); have GW898 := Aside0.mk ((z6 : w.heap.size ≤ gb898)); have GE898 := Aside0.mk ((z6 : w.heap.size ≤ gb898)); replace HB := zs0 hb; clear hb hbox hg; obtain ⟨hcz11_0, hcz11_1, hcz11_2, hfz11_0, hfz11_1, hfz11_2⟩ := zc3 BK898.out) | ((with_reducible refine gate_callee (f := 50) rfl ?_); refine goesL_ (some 7) rfl rfl Try.func50 (by kernel_rfl) rfl #[.agg #[.slice A0_0 l0_0.length c0_0, .slice A0_1 l0_1.length c0_1, .slice A0_2 l0_2.length c0_2]] rfl z2 ?_; (with_reducible refine (impl_IsChain.calls k _ _ l0_0 _ _ l0_1 _ _ l0_2 false _ ?side1 ?side2 ?side3 ?side4 ?side5 ?side6 A2.out).mono ?_); (case side1 => exact zC (Kd.C_below HR0_0.out HB.out)); (case side2 => exact HC0_0.out); (case side3 => exact zC (Kd.C_below HR0_1.out HB.out)); (case side4 => exact HC0_1.out); (case side5 => exact zC (Kd.C_below HR0_2.out HB.out)); (case side6 => exact HC0_2.out); rintro e w12 ⟨rfl, hb⟩; refine ⟨_, rfl, ?_⟩; replace BK898 := zb BK898 hb; replace HB := zs1 GE898.out hb; (try clear hb); (try clear hb2); (try clear hk); (try clear hi)))
   go_ret2
   exact ⟨_, z5, z9, (zH1 GE898.out)⟩
end Go.Proofs.Ythlmmcmpllgflaa.P
