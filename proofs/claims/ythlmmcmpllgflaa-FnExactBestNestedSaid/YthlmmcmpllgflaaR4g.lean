/- The law FnExactBestNested: for every chain the program and the reference find the same nested order periods, which leave the arguments as they are and share no memory; no condition. -/
import Derived.Test.YthlmmcmpllgflaaR4f
namespace Go.Proofs.Ythlmmcmpllgflaa.P
open Go.RowKit Go.Proofs.YthlmmcmpllgflaaW.PrintWords Go.Proofs.YthlmmcmpllgflaaW.PrintLast Go.Proofs.YthlmmcmpllgflaaW.PrintMore
attribute [local go_sem] max2_int min2_int max_two min_two max_three min_three max_four min_four
set_option linter.unusedVariables false
set_option linter.unusedSimpArgs false
mutual
def spec_l7Try.j0 : Nat → List (List Int) → Int → Bool → List (List Int) → Int → Bool → Option ((List (List Int)) × Int × Bool)
 | 0, _, _, _, _, _, _ => none
 | k + 1, x1, x9, x67, x951000, x951001, x951002 => if x67 = true then (some (x1, x9, true)) else (some (x951000, x951001, x951002))
def spec_l7Try.l0 : Nat → List (List Int) → Int → List Int → List Int → List Int → List (List Int) → Int → Bool → Option ((List (List Int)) × Int × Bool)
 | 0, _, _, _, _, _, _, _, _ => none
 | k + 1, x1, x12, x950000, x950001, x950002, x951000, x951001, x951002 => if x12 < (shl .i64 1 (x950000.length : Int)) then ((spec_l2Bits.f k (x950000.length : Int) x12).bind fun t960 => (if (x1.length : Int) = 0 then ((some (([t960] : List (List Int)) : List (List Int))).bind fun y965 => (if y965.length + x1.length < 5864062014805 then ((spec_l7Try.f k x950000 x950001 x950002 (y965 ++ x1) x951000 x951001 x951002).bind fun bt971 => (spec_l7Try.l0 k x1 (wrap64 (x12 + 1)) x950000 x950001 x950002 bt971.1 bt971.2.1 bt971.2.2)) else (none))) else (if 0 < (x1.length : Int) then ((spec_l7Within.f k t960 (rd_L2 x1 0)).bind fun t964 => (if t964 = true then ((some (([t960] : List (List Int)) : List (List Int))).bind fun y976 => (if y976.length + x1.length < 5864062014805 then ((spec_l7Try.f k x950000 x950001 x950002 (y976 ++ x1) x951000 x951001 x951002).bind fun bt982 => (spec_l7Try.l0 k x1 (wrap64 (x12 + 1)) x950000 x950001 x950002 bt982.1 bt982.2.1 bt982.2.2)) else (none))) else (spec_l7Try.l0 k x1 (wrap64 (x12 + 1)) x950000 x950001 x950002 x951000 x951001 x951002))) else (none)))) else (some (x951000, x951001, x951002))
def spec_l7Try.f : Nat → List Int → List Int → List Int → List (List Int) → List (List Int) → Int → Bool → Option ((List (List Int)) × Int × Bool)
 | 0, _, _, _, _, _, _, _ => none
 | k + 1, l0_0, l0_1, l0_2, l1, l2_0, a2_1, a2_2 => if (l1.length : Int) = (l0_1.length : Int) then ((spec_NestedPlan.f k l0_0 l0_1 l0_2 l1).bind fun bt952 => (if bt952.2 = true then ((spec_l7Cost.f k l0_0 l0_1 l0_2 bt952.1).bind fun t956 => ((spec_l7Many.f k l1).bind fun t957 => ((spec_l7Many.f k l2_0).bind fun t958 => (if a2_2 = true then (if t956 < a2_1 then (spec_l7Try.j0 k l1 t956 true l2_0 a2_1 a2_2) else (if t956 = a2_1 then (if t957 < t958 then (spec_l7Try.j0 k l1 t956 true l2_0 a2_1 a2_2) else (if t957 = t958 then ((spec_l7Less.f k l1 l2_0).bind fun t959 => (spec_l7Try.j0 k l1 t956 t959 l2_0 a2_1 a2_2)) else (spec_l7Try.j0 k l1 t956 false l2_0 a2_1 a2_2))) else (spec_l7Try.j0 k l1 t956 false l2_0 a2_1 a2_2))) else (spec_l7Try.j0 k l1 t956 true l2_0 a2_1 a2_2))))) else (some (l2_0, a2_1, a2_2)))) else (spec_l7Try.l0 k l1 0 l0_0 l0_1 l0_2 l2_0 a2_1 a2_2)
end
def spec_l7Try.T15 : Bool × List (List Nat × List Nat) := (true, [([], []), ([], []), ([1], [1]), ([], []), ([2, 3], [2, 3]), ([], []), ([0, 4, 5, 4], [0, 4, 5]), ([6, 6, 0, 1, 2, 3, 4, 5, 6], [6])])
def spec_l7Try.B15 : List Nat := [0, 0, 2, 0, 14, 0, 63, 127]
theorem spec_l7Try.tab15 : rtab .any (opsOf Try.f66 15) = spec_l7Try.T15 := by kernel_rfl
theorem spec_l7Try.bits15 : waitsOk spec_l7Try.T15.2 spec_l7Try.B15 = true := by kernel_rfl
set_option maxHeartbeats 8000000 in
set_option maxRecDepth 100000 in
theorem spec_l7Try.calls (k : Nat) : ∀ (A0_0 : Option Addr) (c0_0 : Nat) (l0_0 : List Int) (A0_1 : Option Addr) (c0_1 : Nat) (l0_1 : List Int) (A0_2 : Option Addr) (c0_2 : Nat) (l0_2 : List Int) (P1_ : Nat → Prop) (A1 : Option Addr) (c1 : Nat) (l1 : List (List Int)) (P2_0_ : Nat → Prop) (A2_0 : Option Addr) (c2_0 : Nat) (l2_0 : List (List Int)) (a2_1 : Int) (a2_2 : Bool) (r1 : List (List Int)) (r2 : Int) (r3 : Bool) (w : World) (hr0_0 : Kd.C (Kd.int .i64) w A0_0 l0_0.length l0_0) (hc0_0 : l0_0.length ≤ c0_0) (hr0_1 : Kd.C (Kd.int .i64) w A0_1 l0_1.length l0_1) (hc0_1 : l0_1.length ≤ c0_1) (hr0_2 : Kd.C (Kd.int .i64) w A0_2 l0_2.length l0_2) (hc0_2 : l0_2.length ≤ c0_2) (hs1 : Kd.V (Kd.slice 3 (Kd.int .i64)) 24 w w.heap.size (fun k_ => P1_ k_) (.slice A1 l1.length c1) l1) (hs2_0 : Kd.V (Kd.slice 3 (Kd.int .i64)) 24 w w.heap.size (fun k_ => P2_0_ k_) (.slice A2_0 l2_0.length c2_0) l2_0) (h : spec_l7Try.f k l0_0 l0_1 l0_2 l1 l2_0 a2_1 a2_2 = some (r1, r2, r3)),
 Calls Try.prog 66 #[.agg #[.slice A0_0 l0_0.length c0_0, .slice A0_1 l0_1.length c0_1, .slice A0_2 l0_2.length c0_2], .slice A1 l1.length c1, .agg #[.slice A2_0 l2_0.length c2_0, .int .i64 a2_1, .bool a2_2]] w fun e w' => ∃ v0_ : Value, e = .returned (.agg #[v0_, .int .i64 r2, .bool r3]) ∧ Kd.V (Kd.slice 3 (Kd.int .i64)) 24 w' w.heap.size (fun k_ => ((P1_ k_ ∨ P2_0_ k_) ∨ w.heap.size ≤ k_)) v0_ r1 ∧ Below w.heap.size w w' := by
 induction k using Nat.strongRecOn with
 | _ k ih =>
 intro A0_0 c0_0 l0_0 A0_1 c0_1 l0_1 A0_2 c0_2 l0_2 P1_ A1 c1 l1 P2_0_ A2_0 c2_0 l2_0 a2_1 a2_2 r1 r2 r3 w hr0_0 hc0_0 hr0_1 hc0_1 hr0_2 hc0_2 hs1 hs2_0 h
 cases k with
 | zero => exact absurd h (by simp [spec_l7Try.f])
 | succ k =>
 simp only [spec_l7Try.f] at h
 have hu26 := Try.underlying26
 have hu78 := Try.underlying78
 have HR0_0 := Aside0.mk hr0_0
 have HC0_0 := Aside0.mk hc0_0
 clear hr0_0 hc0_0
 have HR0_1 := Aside0.mk hr0_1
 have HC0_1 := Aside0.mk hc0_1
 clear hr0_1 hc0_1
 have HR0_2 := Aside0.mk hr0_2
 have HC0_2 := Aside0.mk hc0_2
 clear hr0_2 hc0_2
 have HO1 := Aside0.mk (show Kd.V (Kd.slice 3 (Kd.int .i64)) 24 w w.heap.size (fun k_ => ((P1_ k_ ∨ P2_0_ k_) ∨ w.heap.size ≤ k_)) (.slice A1 l1.length c1) l1 from Kd.V_mono hs1 (fun k_ hk => .inl (.inl hk)))
 have HO2_0 := Aside0.mk (show Kd.V (Kd.slice 3 (Kd.int .i64)) 24 w w.heap.size (fun k_ => ((P1_ k_ ∨ P2_0_ k_) ∨ w.heap.size ≤ k_)) (.slice A2_0 l2_0.length c2_0) l2_0 from Kd.V_mono hs2_0 (fun k_ hk => .inl (.inr hk)))
 have HB := Aside0.mk (Below.refl w.heap.size w)
 have H : (if (l1.length : Int) = (l0_1.length : Int) then ((spec_NestedPlan.f k l0_0 l0_1 l0_2 l1).bind fun bt952 => (if bt952.2 = true then ((spec_l7Cost.f k l0_0 l0_1 l0_2 bt952.1).bind fun t956 => ((spec_l7Many.f k l1).bind fun t957 => ((spec_l7Many.f k l2_0).bind fun t958 => (if a2_2 = true then (if t956 < a2_1 then (spec_l7Try.j0 k l1 t956 true l2_0 a2_1 a2_2) else (if t956 = a2_1 then (if t957 < t958 then (spec_l7Try.j0 k l1 t956 true l2_0 a2_1 a2_2) else (if t957 = t958 then ((spec_l7Less.f k l1 l2_0).bind fun t959 => (spec_l7Try.j0 k l1 t956 t959 l2_0 a2_1 a2_2)) else (spec_l7Try.j0 k l1 t956 false l2_0 a2_1 a2_2))) else (spec_l7Try.j0 k l1 t956 false l2_0 a2_1 a2_2))) else (spec_l7Try.j0 k l1 t956 true l2_0 a2_1 a2_2))))) else (some (l2_0, a2_1, a2_2)))) else (spec_l7Try.l0 k l1 0 l0_0 l0_1 l0_2 l2_0 a2_1 a2_2)) = some (r1, r2, r3) := h
 clear h
 by_cases c4 : (l1.length : Int) = (l0_1.length : Int)
 · rw [if_pos c4] at H
   have c4b0 : ((l1.length : Int) == (l0_1.length : Int)) = true := beq_iff_eq.mpr c4
   have c4b1 : ((l1.length : Int) != (l0_1.length : Int)) = false := bne_eq_false_iff_eq.mpr c4
   have c4b2 : (l1.length == l0_1.length) = true := by first | simpa using c4 | (simp at c4 ⊢; omega)
   clear c4
   replace H := Option.bind_eq_some_iff.mp H
   obtain ⟨⟨t952, t955⟩, A50, H⟩ := H
   replace H : (if t955 = true then ((spec_l7Cost.f k l0_0 l0_1 l0_2 t952).bind fun t956 => ((spec_l7Many.f k l1).bind fun t957 => ((spec_l7Many.f k l2_0).bind fun t958 => (if a2_2 = true then (if t956 < a2_1 then (spec_l7Try.j0 k l1 t956 true l2_0 a2_1 a2_2) else (if t956 = a2_1 then (if t957 < t958 then (spec_l7Try.j0 k l1 t956 true l2_0 a2_1 a2_2) else (if t957 = t958 then ((spec_l7Less.f k l1 l2_0).bind fun t959 => (spec_l7Try.j0 k l1 t956 t959 l2_0 a2_1 a2_2)) else (spec_l7Try.j0 k l1 t956 false l2_0 a2_1 a2_2))) else (spec_l7Try.j0 k l1 t956 false l2_0 a2_1 a2_2))) else (spec_l7Try.j0 k l1 t956 true l2_0 a2_1 a2_2))))) else (some (l2_0, a2_1, a2_2))) = some (r1, r2, r3) := H
   have A5 := Aside0.mk A50
   clear A50
   by_cases c6 : t955 = true
   · subst c6
     have H1 : ((spec_l7Cost.f k l0_0 l0_1 l0_2 t952).bind fun t956 => ((spec_l7Many.f k l1).bind fun t957 => ((spec_l7Many.f k l2_0).bind fun t958 => (if a2_2 = true then (if t956 < a2_1 then (spec_l7Try.j0 k l1 t956 true l2_0 a2_1 a2_2) else (if t956 = a2_1 then (if t957 < t958 then (spec_l7Try.j0 k l1 t956 true l2_0 a2_1 a2_2) else (if t957 = t958 then ((spec_l7Less.f k l1 l2_0).bind fun t959 => (spec_l7Try.j0 k l1 t956 t959 l2_0 a2_1 a2_2)) else (spec_l7Try.j0 k l1 t956 false l2_0 a2_1 a2_2))) else (spec_l7Try.j0 k l1 t956 false l2_0 a2_1 a2_2))) else (spec_l7Try.j0 k l1 t956 true l2_0 a2_1 a2_2))))) = some (r1, r2, r3) := by rw [if_pos rfl] at H; exact H
     clear H
     have H := H1
     clear H1
     replace H := Option.bind_eq_some_iff.mp H
     obtain ⟨t956, A70, H⟩ := H
     replace H : ((spec_l7Many.f k l1).bind fun t957 => ((spec_l7Many.f k l2_0).bind fun t958 => (if a2_2 = true then (if t956 < a2_1 then (spec_l7Try.j0 k l1 t956 true l2_0 a2_1 a2_2) else (if t956 = a2_1 then (if t957 < t958 then (spec_l7Try.j0 k l1 t956 true l2_0 a2_1 a2_2) else (if t957 = t958 then ((spec_l7Less.f k l1 l2_0).bind fun t959 => (spec_l7Try.j0 k l1 t956 t959 l2_0 a2_1 a2_2)) else (spec_l7Try.j0 k l1 t956 false l2_0 a2_1 a2_2))) else (spec_l7Try.j0 k l1 t956 false l2_0 a2_1 a2_2))) else (spec_l7Try.j0 k l1 t956 true l2_0 a2_1 a2_2)))) = some (r1, r2, r3) := H
     have A7 := Aside0.mk A70
     clear A70
     replace H := Option.bind_eq_some_iff.mp H
     obtain ⟨t957, A80, H⟩ := H
     replace H : ((spec_l7Many.f k l2_0).bind fun t958 => (if a2_2 = true then (if t956 < a2_1 then (spec_l7Try.j0 k l1 t956 true l2_0 a2_1 a2_2) else (if t956 = a2_1 then (if t957 < t958 then (spec_l7Try.j0 k l1 t956 true l2_0 a2_1 a2_2) else (if t957 = t958 then ((spec_l7Less.f k l1 l2_0).bind fun t959 => (spec_l7Try.j0 k l1 t956 t959 l2_0 a2_1 a2_2)) else (spec_l7Try.j0 k l1 t956 false l2_0 a2_1 a2_2))) else (spec_l7Try.j0 k l1 t956 false l2_0 a2_1 a2_2))) else (spec_l7Try.j0 k l1 t956 true l2_0 a2_1 a2_2))) = some (r1, r2, r3) := H
     have A8 := Aside0.mk A80
     clear A80
     replace H := Option.bind_eq_some_iff.mp H
     obtain ⟨t958, A90, H⟩ := H
     replace H : (if a2_2 = true then (if t956 < a2_1 then (spec_l7Try.j0 k l1 t956 true l2_0 a2_1 a2_2) else (if t956 = a2_1 then (if t957 < t958 then (spec_l7Try.j0 k l1 t956 true l2_0 a2_1 a2_2) else (if t957 = t958 then ((spec_l7Less.f k l1 l2_0).bind fun t959 => (spec_l7Try.j0 k l1 t956 t959 l2_0 a2_1 a2_2)) else (spec_l7Try.j0 k l1 t956 false l2_0 a2_1 a2_2))) else (spec_l7Try.j0 k l1 t956 false l2_0 a2_1 a2_2))) else (spec_l7Try.j0 k l1 t956 true l2_0 a2_1 a2_2)) = some (r1, r2, r3) := H
     have A9 := Aside0.mk A90
     clear A90
     have HC10 := Aside0.mk H
     clear H
     go_enter Try.func66, Try.ntmps66
     try go_wp2_with (first | ((with_reducible refine gate_dst (N := 3) rfl ?_); refine box_event ?hg (N := 3) ?hd (cs := #[.slice A0_0 l0_0.length c0_0, .slice A0_1 l0_1.length c0_1, .slice A0_2 l0_2.length c0_2]) (t := 26) ?hr ?_; (case hd => rfl); (case hg => rfl); (case hr => first | (go_simp; done) | (go_simp; rfl)); intro gb949 hg w11 hbox hb; have BK949 := Aside0.mk (hbox); have GW949 := Aside0.mk ((z6 : w.heap.size ≤ gb949)); have GE949 := Aside0.mk ((z6 : w.heap.size ≤ gb949)); replace HO1 := Aside0.mk (Kd.V_below (Kd.V_elderB (zV HO1.out) gb949 (Nat.le_of_eq hg.symm)) hb); replace HO2_0 := Aside0.mk (Kd.V_below (Kd.V_elderB (zV HO2_0.out) gb949 (Nat.le_of_eq hg.symm)) hb); replace HB := zs0 hb; clear hb hbox hg) | ((with_reducible refine gate_dst (N := 5) rfl ?_); refine box_event ?hg (N := 5) ?hd (cs := #[.slice A2_0 l2_0.length c2_0, .int .i64 a2_1, .bool a2_2]) (t := 78) ?hr ?_; (case hd => rfl); (case hg => rfl); (case hr => first | (go_simp; done) | (go_simp; rfl)); intro gb950 hg w12 hbox hb; have BK950 := Aside0.mk (hbox); have GW950 := Aside0.mk ((z49 : w.heap.size ≤ gb950)); have GE950 := Aside0.mk ((z49 : w.heap.size ≤ gb950)); have NB949_950 := Aside0.mk ((z18 : gb949 ≠ gb950)); have NB950_949 := Aside0.mk ((z19 : gb950 ≠ gb949)); replace HO1 := Aside0.mk (Kd.V_below (Kd.V_elderB (zV HO1.out) gb950 (Nat.le_of_eq hg.symm)) hb); replace HO2_0 := Aside0.mk (Kd.V_below (Kd.V_elderB (zV HO2_0.out) gb950 (Nat.le_of_eq hg.symm)) hb); replace BK949 := zb BK949 hb; replace HB := zs1 GE949.out hb; clear hb hbox hg) | ((with_reducible refine gate_dst (N := 6) rfl ?_); refine box_event ?hg (N := 6) ?hd (cs := #[.slice none 0 0, .int .i64 0, .bool false]) (t := 78) ?hr ?_; (case hd => rfl); (case hg => rfl); (case hr => first | (go_simp; done) | (go_simp; rfl)); intro gb951 hg w13 hbox hb; have BK951 := Aside0.mk (hbox); have GW951 := Aside0.mk ((z47 : w.heap.size ≤ gb951)); have GE951 := Aside0.mk ((z47 : w.heap.size ≤ gb951)); have NB949_951 := Aside0.mk ((z18 : gb949 ≠ gb951)); have NB951_949 := Aside0.mk ((z19 : gb951 ≠ gb949)); have NB950_951 := Aside0.mk ((z40 : gb950 ≠ gb951)); have NB951_950 := Aside0.mk ((z41 : gb951 ≠ gb950)); replace HO1 := Aside0.mk (Kd.V_below (Kd.V_elderB (zV HO1.out) gb951 (Nat.le_of_eq hg.symm)) hb); replace HO2_0 := Aside0.mk (Kd.V_below (Kd.V_elderB (zV HO2_0.out) gb951 (Nat.le_of_eq hg.symm)) hb); replace BK949 := zb BK949 hb; replace BK950 := zb BK950 hb; replace HB := zs2 GE949.out GE950.out hb; clear hb hbox hg; have hnb14 := NB949_950.out; have hnc14 := NB950_949.out; have hnb15 := NB949_951.out; have hnc15 := NB951_949.out; obtain ⟨hcz16_0, hcz16_1, hcz16_2, hfz16_0, hfz16_1, hfz16_2⟩ := zc3 BK949.out) | ((with_reducible refine gate_callee (f := 12) rfl ?_); refine goesL_ (some 23) rfl rfl Try.func12 (by kernel_rfl) rfl #[.agg #[.slice A0_0 l0_0.length c0_0, .slice A0_1 l0_1.length c0_1, .slice A0_2 l0_2.length c0_2], .slice A1 l1.length c1] rfl z2 ?_; (with_reducible refine (spec_NestedPlan.calls k _ _ l0_0 _ _ l0_1 _ _ l0_2 _ _ l1 t952 true _ ?side1 ?side2 ?side3 ?side4 ?side5 ?side6 ?side7 ?side8 A5.out).mono ?_); (case side1 => exact zC (Kd.C_below HR0_0.out HB.out)); (case side2 => exact HC0_0.out); (case side3 => exact zC (Kd.C_below HR0_1.out HB.out)); (case side4 => exact HC0_1.out); (case side5 => exact zC (Kd.C_below HR0_2.out HB.out)); (case side6 => exact HC0_2.out); (case side7 => exact zC (Kd.V_reads' HO1.out).2.2); (case side8 => exact (Kd.V_reads' HO1.out).2.1); rintro e w17 ⟨v953, rfl, ho0, hb⟩; refine ⟨_, rfl, ?_⟩; have HO954 := Aside0.mk (Kd.N_lower (Kd.N_mono (ok' := fun k_ => ((P1_ k_ ∨ P2_0_ k_) ∨ w.heap.size ≤ k_) ∧ k_ ≠ gb949 ∧ k_ ≠ gb950 ∧ k_ ≠ gb951) (Kd.S_N (Kd.S_bound ho0)) (fun k_ hk_ => ⟨(.inr (Nat.le_trans (below_size (zH3 GE949.out GE950.out GE951.out)) hk_.2.1)), (Kd.freshB (g := gb949) (o := .cells #[.slice A0_0 l0_0.length c0_0, .slice A0_1 l0_1.length c0_1, .slice A0_2 l0_2.length c0_2] 26 (0, 0)) (zB BK949.out) k_ hk_.2.1), (Kd.freshB (g := gb950) (o := .cells #[.slice A2_0 l2_0.length c2_0, .int .i64 a2_1, .bool a2_2] 78 (0, 0)) (zB BK950.out) k_ hk_.2.1), (Kd.freshB (g := gb951) (o := .cells #[.slice none 0 0, .int .i64 0, .bool false] 78 (0, 0)) (zB BK951.out) k_ hk_.2.1)⟩)) (below_size (zH3 GE949.out GE950.out GE951.out))); replace HO1 := zVe HO1 (Kd.S_base ho0) hb; replace HO2_0 := zVe HO2_0 (Kd.S_base ho0) hb; replace BK949 := zb BK949 hb; replace BK950 := zb BK950 hb; replace BK951 := zb BK951 hb; replace HB := zs3 GE949.out GE950.out GE951.out hb; (try clear hb); (try clear hb2); (try clear hk); (try clear hi); (try clear ho0); obtain ⟨hcz18_0, hcz18_1, hcz18_2, hfz18_0, hfz18_1, hfz18_2⟩ := zc3 BK949.out; obtain ⟨Ao19, co19, eo19⟩ := Kd.N_slice HO954.out; subst eo19) | ((with_reducible refine gate_callee (f := 101) rfl ?_); refine goesL_ (some 31) rfl rfl Try.func101 (by kernel_rfl) rfl #[.agg #[.slice A0_0 l0_0.length c0_0, .slice A0_1 l0_1.length c0_1, .slice A0_2 l0_2.length c0_2], .slice Ao19 t952.length co19] rfl z2 ?_; (with_reducible refine (spec_l7Cost.calls k _ _ l0_0 _ _ l0_1 _ _ l0_2 _ _ t952 t956 _ ?side1 ?side2 ?side3 ?side4 ?side5 ?side6 ?side7 ?side8 A7.out).mono ?_); (case side1 => exact zC (Kd.C_below HR0_0.out HB.out)); (case side2 => exact HC0_0.out); (case side3 => exact zC (Kd.C_below HR0_1.out HB.out)); (case side4 => exact HC0_1.out); (case side5 => exact zC (Kd.C_below HR0_2.out HB.out)); (case side6 => exact HC0_2.out); (case side7 => exact zC (Kd.N_reads' HO954.out).2.2); (case side8 => exact (Kd.N_reads' HO954.out).2.1); rintro e w20 ⟨rfl, hb⟩; refine ⟨_, rfl, ?_⟩; replace HO1 := zVb HO1 hb; replace HO2_0 := zVb HO2_0 hb; replace HO954 := zNb HO954 hb; replace BK949 := zb BK949 hb; replace BK950 := zb BK950 hb; replace BK951 := zb BK951 hb; replace HB := zs3 GE949.out GE950.out GE951.out hb; (try clear hb); (try clear hb2); (try clear hk); (try clear hi)))
     replace HO1 := Aside0.mk (Kd.V_drew HO1.out)
     replace HO2_0 := Aside0.mk (Kd.V_drew HO2_0.out)
     replace HO954 := Aside0.mk (Kd.N_drew HO954.out)
     replace BK949 := Aside0.mk (blk_drew BK949.out)
     replace BK950 := Aside0.mk (blk_drew BK950.out)
     replace BK951 := Aside0.mk (blk_drew BK951.out)
     replace HB := Aside0.mk (below_drew1 HB.out)
     refine start_ (n := 7) (S := fun w' => w'.cell? ⟨gb950, 0, none⟩ = some (.slice A2_0 l2_0.length c2_0) ∧ w'.cell? ⟨gb950, 1, none⟩ = some (.int .i64 a2_1) ∧ w'.cell? ⟨gb950, 2, none⟩ = some (.bool a2_2)) (ds := []) #[false, false, false, false, false, false, false] (by kernel_rfl) rfl rfl ⟨(blk_cell BK950.out 0).trans rfl, (blk_cell BK950.out 1).trans rfl, (blk_cell BK950.out 2).trans rfl⟩ (fun hHeld => ?_)
     generalize w20.drew = w21 at HO1 HO2_0 HO954 BK949 BK950 BK951 HB hHeld ⊢
     refine zP (i := 0) (N := some 32) #[true, false, false, false, false, false, false] (by kernel_rfl) ?_
     refine zP (i := 2) (N := some 34) #[true, false, true, false, false, false, false] (by kernel_rfl) ?_
     refine take_ (i := 3) (N := some 35) (v := ?_) (a' := ?_) #[true, false, true, true, false, false, false] rfl rfl (by kernel_rfl) (fun _ _ _ h => h) (Or.inl ⟨(by rfl), ?_⟩) hHeld ?_ ?_
     rotate_left
     · rintro w' ⟨s0, s1, s2⟩
       go_simp
       with_reducible rfl
     rotate_left
     · simp only [Act.put, List.setIfInBounds_toArray, List.set_cons_zero, List.set_cons_succ, i64_w, i32_w]
       rfl
     refine one_ (i := 1) (N := some 33) #[true, true, true, true, false, false, false] rfl rfl (by kernel_rfl) (by decide) (fun K hK => ?_)
     refine goes_ Try.func120 (by kernel_rfl) rfl #[.slice A1 l1.length c1] (by rfl) rfl rfl z2 ?_
     with_reducible refine (spec_l7Many.calls k _ _ l1 t957 _ ?side1 ?side2 A8.out).mono ?_
     (case side1 => exact zC (Kd.V_reads' HO1.out).2.2)
     (case side2 => exact (Kd.V_reads' HO1.out).2.1)
     rintro e w' ⟨rfl, ⟨nd, rfl⟩⟩
     refine ⟨_, rfl, ?_⟩
     refine hK.out _ _ ⟨(blk_cell BK950.out 0).trans rfl, (blk_cell BK950.out 1).trans rfl, (blk_cell BK950.out 2).trans rfl⟩ (fun hHeld => ?_)
     clear hK K
     refine zU (some 33) ?_
     refine one_ (i := 4) (N := some 36) #[true, true, true, true, true, false, false] rfl rfl (by kernel_rfl) (by decide) (fun K hK => ?_)
     refine goes_ Try.func120 (by kernel_rfl) rfl #[.slice A2_0 l2_0.length c2_0] (by rfl) rfl rfl z2 ?_
     with_reducible refine (spec_l7Many.calls k _ _ l2_0 t958 _ ?side1 ?side2 A9.out).mono ?_
     (case side1 => exact zC (Kd.V_reads' HO2_0.out).2.2)
     (case side2 => exact (Kd.V_reads' HO2_0.out).2.1)
     rintro e w' ⟨rfl, ⟨nd, rfl⟩⟩
     refine ⟨_, rfl, ?_⟩
     refine hK.out _ _ ⟨(blk_cell BK950.out 0).trans rfl, (blk_cell BK950.out 1).trans rfl, (blk_cell BK950.out 2).trans rfl⟩ (fun hHeld => ?_)
     clear hK K
     refine zU (some 36) ?_
     refine zP (i := 5) (N := some 10) #[true, true, true, true, true, true, false] (by kernel_rfl) ?_
     refine zP (i := 6) (N := some 11) #[true, true, true, true, true, true, true] (by kernel_rfl) ?_
     refine done_ (by kernel_rfl) ?_
     go_upto_region 7 with (fail)
     go_cut [67] (fun v67 wc => ∃ (kq : Nat) (x67_9 : Bool), v67 = .bool x67_9 ∧ Aside0 (spec_l7Try.j0 kq l1 t956 x67_9 l2_0 a2_1 a2_2 = some (r1, r2, r3)) ∧ Aside0 (kq ≤ k) ∧ Aside0 (Kd.V (Kd.slice 3 (Kd.int .i64)) 24 wc w.heap.size (fun k_ => ((P1_ k_ ∨ P2_0_ k_) ∨ w.heap.size ≤ k_) ∧ k_ ≠ gb949 ∧ k_ ≠ gb950 ∧ k_ ≠ gb951) (.slice A1 l1.length c1) l1) ∧ Aside0 (Kd.V (Kd.slice 3 (Kd.int .i64)) 24 wc w.heap.size (fun k_ => ((P1_ k_ ∨ P2_0_ k_) ∨ w.heap.size ≤ k_) ∧ k_ ≠ gb949 ∧ k_ ≠ gb950 ∧ k_ ≠ gb951) (.slice A2_0 l2_0.length c2_0) l2_0) ∧ Aside0 (wc.heap[gb949]? = some (.cells #[(.slice A0_0 l0_0.length c0_0), (.slice A0_1 l0_1.length c0_1), (.slice A0_2 l0_2.length c0_2)] 26 (0, 0))) ∧ Aside0 (wc.heap[gb950]? = some (.cells #[(.slice A2_0 l2_0.length c2_0), .int .i64 a2_1, .bool a2_2] 78 (0, 0))) ∧ Aside0 (wc.heap[gb951]? = some (.cells #[(.slice none 0 0), .int .i64 0, .bool false] 78 (0, 0))) ∧ Aside0 (Below w.heap.size w wc))
     case first =>
      have H := HC10.out
      clear HC10
      by_cases c22 : a2_2 = true
      · subst c22
        have H1 : (if t956 < a2_1 then (spec_l7Try.j0 k l1 t956 true l2_0 a2_1 true) else (if t956 = a2_1 then (if t957 < t958 then (spec_l7Try.j0 k l1 t956 true l2_0 a2_1 true) else (if t957 = t958 then ((spec_l7Less.f k l1 l2_0).bind fun t959 => (spec_l7Try.j0 k l1 t956 t959 l2_0 a2_1 true)) else (spec_l7Try.j0 k l1 t956 false l2_0 a2_1 true))) else (spec_l7Try.j0 k l1 t956 false l2_0 a2_1 true))) = some (r1, r2, r3) := by rw [if_pos rfl] at H; exact H
        clear H
        have H := H1
        clear H1
        by_cases c23 : t956 < a2_1
        · rw [if_pos c23] at H
          have c23b0 : decide (t956 < a2_1) = true := decide_eq_true c23
          clear c23
          (first | rw [c23b0] | (simp only [i64_w, i32_w]; rw [c23b0]) | skip)
          have H' := Aside0.mk H
          clear H
          have hnb24 := NB950_949.out
          have hnc24 := NB949_950.out
          have hnb25 := NB950_951.out
          have hnc25 := NB951_950.out
          obtain ⟨hcz26_0, hcz26_1, hcz26_2, hfz26_0, hfz26_1, hfz26_2⟩ := zc3 BK950.out
          go_wp2
          go_meet
          case rel => exact ⟨_, (true), z3, H', ⟨z37⟩, ⟨z14⟩, ⟨z13⟩, ⟨(zB BK949.out)⟩, ⟨(zB BK950.out)⟩, ⟨(zB BK951.out)⟩, ⟨(zH3 GE949.out GE950.out GE951.out)⟩⟩
        · rw [if_neg c23] at H
          have c23b0 : decide (t956 < a2_1) = false := decide_eq_false c23
          clear c23
          (first | rw [c23b0] | (simp only [i64_w, i32_w]; rw [c23b0]) | skip)
          by_cases c27 : t956 = a2_1
          · rw [if_pos c27] at H
            have c27b0 : (t956 == a2_1) = true := beq_iff_eq.mpr c27
            have c27b1 : (t956 != a2_1) = false := bne_eq_false_iff_eq.mpr c27
            clear c27
            by_cases c28 : t957 < t958
            · rw [if_pos c28] at H
              have c28b0 : decide (t957 < t958) = true := decide_eq_true c28
              clear c28
              have H' := Aside0.mk H
              clear H
              have hnb29 := NB950_949.out
              have hnc29 := NB949_950.out
              have hnb30 := NB950_951.out
              have hnc30 := NB951_950.out
              obtain ⟨hcz31_0, hcz31_1, hcz31_2, hfz31_0, hfz31_1, hfz31_2⟩ := zc3 BK950.out
              go_wp2
              go_meet
              case rel => exact ⟨_, (true), z3, H', ⟨z37⟩, ⟨z14⟩, ⟨z13⟩, ⟨(zB BK949.out)⟩, ⟨(zB BK950.out)⟩, ⟨(zB BK951.out)⟩, ⟨(zH3 GE949.out GE950.out GE951.out)⟩⟩
            · rw [if_neg c28] at H
              have c28b0 : decide (t957 < t958) = false := decide_eq_false c28
              clear c28
              by_cases c32 : t957 = t958
              · rw [if_pos c32] at H
                have c32b0 : (t957 == t958) = true := beq_iff_eq.mpr c32
                have c32b1 : (t957 != t958) = false := bne_eq_false_iff_eq.mpr c32
                clear c32
                replace H := Option.bind_eq_some_iff.mp H
                obtain ⟨t959, A330, H⟩ := H
                replace H : (spec_l7Try.j0 k l1 t956 t959 l2_0 a2_1 true) = some (r1, r2, r3) := H
                have A33 := Aside0.mk A330
                clear A330
                have H' := Aside0.mk H
                clear H
                have hnb34 := NB950_949.out
                have hnc34 := NB949_950.out
                have hnb35 := NB950_951.out
                have hnc35 := NB951_950.out
                obtain ⟨hcz36_0, hcz36_1, hcz36_2, hfz36_0, hfz36_1, hfz36_2⟩ := zc3 BK950.out
                go_wp2_with (first | (go_at_call 121; (with_reducible refine (spec_l7Less.calls k _ _ l1 _ _ l2_0 t959 _ ?side1 ?side2 ?side3 ?side4 A33.out).mono ?_); (case side1 => exact zC (Kd.V_reads' HO1.out).2.2); (case side2 => exact (Kd.V_reads' HO1.out).2.1); (case side3 => exact zC (Kd.V_reads' HO2_0.out).2.2); (case side4 => exact (Kd.V_reads' HO2_0.out).2.1); rintro e w' ⟨rfl, ⟨nd, rfl⟩⟩))
                go_meet
                case rel => exact ⟨_, (t959), z3, H', ⟨z37⟩, ⟨z14⟩, ⟨z13⟩, ⟨(zB BK949.out)⟩, ⟨(zB BK950.out)⟩, ⟨(zB BK951.out)⟩, ⟨(zH3 GE949.out GE950.out GE951.out)⟩⟩
              · rw [if_neg c32] at H
                have c32b0 : (t957 == t958) = false := beq_eq_false_iff_ne.mpr c32
                have c32b1 : (t957 != t958) = true := bne_iff_ne.mpr c32
                have H' := Aside0.mk H
                clear H
                have hnb37 := NB950_949.out
                have hnc37 := NB949_950.out
                have hnb38 := NB950_951.out
                have hnc38 := NB951_950.out
                obtain ⟨hcz39_0, hcz39_1, hcz39_2, hfz39_0, hfz39_1, hfz39_2⟩ := zc3 BK950.out
                go_wp2
                go_meet
                case rel => exact ⟨_, (false), z3, H', ⟨z37⟩, ⟨z14⟩, ⟨z13⟩, ⟨(zB BK949.out)⟩, ⟨(zB BK950.out)⟩, ⟨(zB BK951.out)⟩, ⟨(zH3 GE949.out GE950.out GE951.out)⟩⟩
          · rw [if_neg c27] at H
            have c27b0 : (t956 == a2_1) = false := beq_eq_false_iff_ne.mpr c27
            have c27b1 : (t956 != a2_1) = true := bne_iff_ne.mpr c27
            have H' := Aside0.mk H
            clear H
            have hnb40 := NB950_949.out
            have hnc40 := NB949_950.out
            have hnb41 := NB950_951.out
            have hnc41 := NB951_950.out
            obtain ⟨hcz42_0, hcz42_1, hcz42_2, hfz42_0, hfz42_1, hfz42_2⟩ := zc3 BK950.out
            go_wp2
            go_meet
            case rel => exact ⟨_, (false), z3, H', ⟨z37⟩, ⟨z14⟩, ⟨z13⟩, ⟨(zB BK949.out)⟩, ⟨(zB BK950.out)⟩, ⟨(zB BK951.out)⟩, ⟨(zH3 GE949.out GE950.out GE951.out)⟩⟩
      · replace c22 := Bool.eq_false_iff.mpr c22
        subst c22
        have H1 : (spec_l7Try.j0 k l1 t956 true l2_0 a2_1 false) = some (r1, r2, r3) := by rw [if_neg (show ¬ (false = true) by decide)] at H; exact H
        clear H
        have H := H1
        clear H1
        have H' := Aside0.mk H
        clear H
        have hnb43 := NB950_949.out
        have hnc43 := NB949_950.out
        have hnb44 := NB950_951.out
        have hnc44 := NB951_950.out
        obtain ⟨hcz45_0, hcz45_1, hcz45_2, hfz45_0, hfz45_1, hfz45_2⟩ := zc3 BK950.out
        go_wp2
        go_meet
        case rel => exact ⟨_, (true), z3, H', ⟨z37⟩, ⟨z14⟩, ⟨z13⟩, ⟨(zB BK949.out)⟩, ⟨(zB BK950.out)⟩, ⟨(zB BK951.out)⟩, ⟨(zH3 GE949.out GE950.out GE951.out)⟩⟩
     case rest =>
      clear HC10
      try clear c1
      try clear c2
      try clear p2
      try clear c3
      try clear c4
      try clear c4b0
      try clear c4b1
      try clear c4b2
      try clear c6
      try clear c10
      try clear c12
      try clear c14
      try clear c15
      try clear c22
      try clear c23
      try clear c23b0
      try clear c24
      try clear c25
      try clear c27
      try clear c27b0
      try clear c27b1
      try clear c28
      try clear c28b0
      try clear c29
      try clear c30
      try clear c32
      try clear c32b0
      try clear c32b1
      try clear c34
      try clear c35
      try clear c37
      try clear c38
      try clear c40
      try clear c41
      try clear c43
      try clear c44
      try clear hcz16_0
      try clear hcz16_1
      try clear hcz16_2
      try clear hcz18_0
      try clear hcz18_1
      try clear hcz18_2
      try clear hcz26_0
      try clear hcz26_1
      try clear hcz26_2
      try clear hcz31_0
      try clear hcz31_1
      try clear hcz31_2
      try clear hcz36_0
      try clear hcz36_1
      try clear hcz36_2
      try clear hcz39_0
      try clear hcz39_1
      try clear hcz39_2
      try clear hcz42_0
      try clear hcz42_1
      try clear hcz42_2
      try clear hcz45_0
      try clear hcz45_1
      try clear hcz45_2
      try clear hfz16_0
      try clear hfz16_1
      try clear hfz16_2
      try clear hfz18_0
      try clear hfz18_1
      try clear hfz18_2
      try clear hfz26_0
      try clear hfz26_1
      try clear hfz26_2
      try clear hfz31_0
      try clear hfz31_1
      try clear hfz31_2
      try clear hfz36_0
      try clear hfz36_1
      try clear hfz36_2
      try clear hfz39_0
      try clear hfz39_1
      try clear hfz39_2
      try clear hfz42_0
      try clear hfz42_1
      try clear hfz42_2
      try clear hfz45_0
      try clear hfz45_1
      try clear hfz45_2
      obtain ⟨kq, x67_9, rfl, HA, HJ9, HO_1, HO_951000, BK949, BK950, BK951, HB⟩ := hcut
      cases kq with
      | zero => exact absurd HA.out (by simp [spec_l7Try.j0])
      | succ kj9 =>
       have H := HA.out
       clear HA
       simp only [spec_l7Try.j0] at H
       by_cases c46 : x67_9 = true
       · subst c46
         have H1 : (some (l1, t956, true)) = some (r1, r2, r3) := by rw [if_pos rfl] at H; exact H
         clear H
         have H := H1
         clear H1
         simp only [Option.some.injEq, Prod.mk.injEq] at H
         obtain ⟨rfl, rfl, rfl⟩ := H
         have hnb47 := NB951_949.out
         have hnc47 := NB949_951.out
         have hnb48 := NB951_950.out
         have hnc48 := NB950_951.out
         obtain ⟨hcz49_0, hcz49_1, hcz49_2, hfz49_0, hfz49_1, hfz49_2⟩ := zc3 BK951.out
         go_wp2
         refine bodyPost_ret (results_cell_row rfl _ _ gb951 78 #[.slice A1 l1.length c1, .int .i64 t956, .bool true] (0, 0) _ rfl (by (with_reducible repeat (first | refine blk_drewN ?_ _ | refine blk_drew ?_ | refine blk_alloc ?_ _)); refine blk_put (cs := #[.slice A1 l1.length c1, .int .i64 t956, .bool false]) ?_ 2 _ rfl; (with_reducible repeat (first | refine blk_drewN ?_ _ | refine blk_drew ?_ | refine blk_alloc ?_ _)); refine blk_put (cs := #[.slice A1 l1.length c1, .int .i64 0, .bool false]) ?_ 1 _ rfl; (with_reducible repeat (first | refine blk_drewN ?_ _ | refine blk_drew ?_ | refine blk_alloc ?_ _)); refine blk_put (cs := #[.slice none 0 0, .int .i64 0, .bool false]) ?_ 0 _ rfl; (with_reducible repeat (first | refine blk_drewN ?_ _ | refine blk_drew ?_ | refine blk_alloc ?_ _)); exact BK951.out) Try.underlying78 rfl (by kernel_rfl)) rfl ?_
         exact ⟨_, z5, (by (with_reducible repeat (first | apply Kd.V_alloc | apply Kd.V_drewN | apply Kd.V_drew)); exact Kd.V_mono (Kd.V_far (p := ⟨gb951, 2, none⟩) (Kd.V_far (p := ⟨gb951, 1, none⟩) (Kd.V_far (p := ⟨gb951, 0, none⟩) (Kd.V_mono HO_1.out (fun k_ hk => (⟨hk, hk.2.2.2⟩ : _ ∧ k_ ≠ gb951))) (fun _ hk => hk.2) (.slice A1 l1.length c1)) (fun _ hk => hk.2) (.int .i64 t956)) (fun _ hk => hk.2) (.bool true)) (fun _ hk => hk.1.1)), (zH3 GE949.out GE950.out GE951.out)⟩
       · replace c46 := Bool.eq_false_iff.mpr c46
         subst c46
         have H1 : (some (l2_0, a2_1, a2_2)) = some (r1, r2, r3) := by rw [if_neg (show ¬ (false = true) by decide)] at H; exact H
         clear H
         have H := H1
         clear H1
         simp only [Option.some.injEq, Prod.mk.injEq] at H
         obtain ⟨rfl, rfl, rfl⟩ := H
         have hnb50 := NB950_949.out
         have hnc50 := NB949_950.out
         have hnb51 := NB950_951.out
         have hnc51 := NB951_950.out
         obtain ⟨hcz52_0, hcz52_1, hcz52_2, hfz52_0, hfz52_1, hfz52_2⟩ := zc3 BK950.out
         have hnb53 := NB951_949.out
         have hnc53 := NB949_951.out
         obtain ⟨hcz54_0, hcz54_1, hcz54_2, hfz54_0, hfz54_1, hfz54_2⟩ := zc3 BK951.out
         go_wp2
         refine bodyPost_ret (results_cell_row rfl _ _ gb951 78 #[.slice A2_0 l2_0.length c2_0, .int .i64 a2_1, .bool a2_2] (0, 0) _ rfl (by (with_reducible repeat (first | refine blk_drewN ?_ _ | refine blk_drew ?_ | refine blk_alloc ?_ _)); refine blk_put (cs := #[.slice A2_0 l2_0.length c2_0, .int .i64 a2_1, .bool false]) ?_ 2 _ rfl; (with_reducible repeat (first | refine blk_drewN ?_ _ | refine blk_drew ?_ | refine blk_alloc ?_ _)); refine blk_put (cs := #[.slice A2_0 l2_0.length c2_0, .int .i64 0, .bool false]) ?_ 1 _ rfl; (with_reducible repeat (first | refine blk_drewN ?_ _ | refine blk_drew ?_ | refine blk_alloc ?_ _)); refine blk_put (cs := #[.slice none 0 0, .int .i64 0, .bool false]) ?_ 0 _ rfl; (with_reducible repeat (first | refine blk_drewN ?_ _ | refine blk_drew ?_ | refine blk_alloc ?_ _)); exact BK951.out) Try.underlying78 rfl (by kernel_rfl)) rfl ?_
         exact ⟨_, z5, (by (with_reducible repeat (first | apply Kd.V_alloc | apply Kd.V_drewN | apply Kd.V_drew)); exact Kd.V_mono (Kd.V_far (p := ⟨gb951, 2, none⟩) (Kd.V_far (p := ⟨gb951, 1, none⟩) (Kd.V_far (p := ⟨gb951, 0, none⟩) (Kd.V_mono HO_951000.out (fun k_ hk => (⟨hk, hk.2.2.2⟩ : _ ∧ k_ ≠ gb951))) (fun _ hk => hk.2) (.slice A2_0 l2_0.length c2_0)) (fun _ hk => hk.2) (.int .i64 a2_1)) (fun _ hk => hk.2) (.bool a2_2)) (fun _ hk => hk.1.1)), (zH3 GE949.out GE950.out GE951.out)⟩
   · replace c6 := Bool.eq_false_iff.mpr c6
     subst c6
     have H1 : (some (l2_0, a2_1, a2_2)) = some (r1, r2, r3) := by rw [if_neg (show ¬ (false = true) by decide)] at H; exact H
     clear H
     have H := H1
     clear H1
     simp only [Option.some.injEq, Prod.mk.injEq] at H
     obtain ⟨rfl, rfl, rfl⟩ := H
     go_enter Try.func66, Try.ntmps66
     go_wp2_with (first | ((with_reducible refine gate_dst (N := 3) rfl ?_); refine box_event ?hg (N := 3) ?hd (cs := #[.slice A0_0 l0_0.length c0_0, .slice A0_1 l0_1.length c0_1, .slice A0_2 l0_2.length c0_2]) (t := 26) ?hr ?_; (case hd => rfl); (case hg => rfl); (case hr => first | (go_simp; done) | (go_simp; rfl)); intro gb949 hg w55 hbox hb; have BK949 := Aside0.mk (hbox); have GW949 := Aside0.mk ((z6 : w.heap.size ≤ gb949)); have GE949 := Aside0.mk ((z6 : w.heap.size ≤ gb949)); replace HO1 := Aside0.mk (Kd.V_below (Kd.V_elderB (zV HO1.out) gb949 (Nat.le_of_eq hg.symm)) hb); replace HO2_0 := Aside0.mk (Kd.V_below (Kd.V_elderB (zV HO2_0.out) gb949 (Nat.le_of_eq hg.symm)) hb); replace HB := zs0 hb; clear hb hbox hg) | ((with_reducible refine gate_dst (N := 5) rfl ?_); refine box_event ?hg (N := 5) ?hd (cs := #[.slice A2_0 l2_0.length c2_0, .int .i64 a2_1, .bool a2_2]) (t := 78) ?hr ?_; (case hd => rfl); (case hg => rfl); (case hr => first | (go_simp; done) | (go_simp; rfl)); intro gb950 hg w56 hbox hb; have BK950 := Aside0.mk (hbox); have GW950 := Aside0.mk ((z49 : w.heap.size ≤ gb950)); have GE950 := Aside0.mk ((z49 : w.heap.size ≤ gb950)); have NB949_950 := Aside0.mk ((z18 : gb949 ≠ gb950)); have NB950_949 := Aside0.mk ((z19 : gb950 ≠ gb949)); replace HO1 := Aside0.mk (Kd.V_below (Kd.V_elderB (zV HO1.out) gb950 (Nat.le_of_eq hg.symm)) hb); replace HO2_0 := Aside0.mk (Kd.V_below (Kd.V_elderB (zV HO2_0.out) gb950 (Nat.le_of_eq hg.symm)) hb); replace BK949 := zb BK949 hb; replace HB := zs1 GE949.out hb; clear hb hbox hg) | ((with_reducible refine gate_dst (N := 6) rfl ?_); refine box_event ?hg (N := 6) ?hd (cs := #[.slice none 0 0, .int .i64 0, .bool false]) (t := 78) ?hr ?_; (case hd => rfl); (case hg => rfl); (case hr => first | (go_simp; done) | (go_simp; rfl)); intro gb951 hg w57 hbox hb; have BK951 := Aside0.mk (hbox); have GW951 := Aside0.mk ((z47 : w.heap.size ≤ gb951)); have GE951 := Aside0.mk ((z47 : w.heap.size ≤ gb951)); have NB949_951 := Aside0.mk ((z18 : gb949 ≠ gb951)); have NB951_949 := Aside0.mk ((z19 : gb951 ≠ gb949)); have NB950_951 := Aside0.mk ((z40 : gb950 ≠ gb951)); have NB951_950 := Aside0.mk ((z41 : gb951 ≠ gb950)); replace HO1 := Aside0.mk (Kd.V_below (Kd.V_elderB (zV HO1.out) gb951 (Nat.le_of_eq hg.symm)) hb); replace HO2_0 := Aside0.mk (Kd.V_below (Kd.V_elderB (zV HO2_0.out) gb951 (Nat.le_of_eq hg.symm)) hb); replace BK949 := zb BK949 hb; replace BK950 := zb BK950 hb; replace HB := zs2 GE949.out GE950.out hb; clear hb hbox hg; have hnb58 := NB949_950.out; have hnc58 := NB950_949.out; have hnb59 := NB949_951.out; have hnc59 := NB951_949.out; obtain ⟨hcz60_0, hcz60_1, hcz60_2, hfz60_0, hfz60_1, hfz60_2⟩ := zc3 BK949.out) | ((with_reducible refine gate_callee (f := 12) rfl ?_); refine goesL_ (some 23) rfl rfl Try.func12 (by kernel_rfl) rfl #[.agg #[.slice A0_0 l0_0.length c0_0, .slice A0_1 l0_1.length c0_1, .slice A0_2 l0_2.length c0_2], .slice A1 l1.length c1] rfl z2 ?_; (with_reducible refine (spec_NestedPlan.calls k _ _ l0_0 _ _ l0_1 _ _ l0_2 _ _ l1 t952 false _ ?side1 ?side2 ?side3 ?side4 ?side5 ?side6 ?side7 ?side8 A5.out).mono ?_); (case side1 => exact zC (Kd.C_below HR0_0.out HB.out)); (case side2 => exact HC0_0.out); (case side3 => exact zC (Kd.C_below HR0_1.out HB.out)); (case side4 => exact HC0_1.out); (case side5 => exact zC (Kd.C_below HR0_2.out HB.out)); (case side6 => exact HC0_2.out); (case side7 => exact zC (Kd.V_reads' HO1.out).2.2); (case side8 => exact (Kd.V_reads' HO1.out).2.1); rintro e w61 ⟨v953, rfl, ho0, hb⟩; refine ⟨_, rfl, ?_⟩; have HO954 := Aside0.mk (Kd.N_lower (Kd.N_mono (ok' := fun k_ => ((P1_ k_ ∨ P2_0_ k_) ∨ w.heap.size ≤ k_) ∧ k_ ≠ gb949 ∧ k_ ≠ gb950 ∧ k_ ≠ gb951) (Kd.S_N (Kd.S_bound ho0)) (fun k_ hk_ => ⟨(.inr (Nat.le_trans (below_size (zH3 GE949.out GE950.out GE951.out)) hk_.2.1)), (Kd.freshB (g := gb949) (o := .cells #[.slice A0_0 l0_0.length c0_0, .slice A0_1 l0_1.length c0_1, .slice A0_2 l0_2.length c0_2] 26 (0, 0)) (zB BK949.out) k_ hk_.2.1), (Kd.freshB (g := gb950) (o := .cells #[.slice A2_0 l2_0.length c2_0, .int .i64 a2_1, .bool a2_2] 78 (0, 0)) (zB BK950.out) k_ hk_.2.1), (Kd.freshB (g := gb951) (o := .cells #[.slice none 0 0, .int .i64 0, .bool false] 78 (0, 0)) (zB BK951.out) k_ hk_.2.1)⟩)) (below_size (zH3 GE949.out GE950.out GE951.out))); replace HO1 := zVe HO1 (Kd.S_base ho0) hb; replace HO2_0 := zVe HO2_0 (Kd.S_base ho0) hb; replace BK949 := zb BK949 hb; replace BK950 := zb BK950 hb; replace BK951 := zb BK951 hb; replace HB := zs3 GE949.out GE950.out GE951.out hb; (try clear hb); (try clear hb2); (try clear hk); (try clear hi); (try clear ho0); have hnb62 := NB950_951.out; have hnc62 := NB951_950.out; obtain ⟨hcz63_0, hcz63_1, hcz63_2, hfz63_0, hfz63_1, hfz63_2⟩ := zc3 BK950.out; obtain ⟨hcz64_0, hcz64_1, hcz64_2, hfz64_0, hfz64_1, hfz64_2⟩ := zc3 BK951.out))
     refine bodyPost_ret (results_cell_row rfl _ _ gb951 78 #[.slice A2_0 l2_0.length c2_0, .int .i64 a2_1, .bool a2_2] (0, 0) _ rfl (by (with_reducible repeat (first | refine blk_drewN ?_ _ | refine blk_drew ?_ | refine blk_alloc ?_ _)); refine blk_put (cs := #[.slice A2_0 l2_0.length c2_0, .int .i64 a2_1, .bool false]) ?_ 2 _ rfl; (with_reducible repeat (first | refine blk_drewN ?_ _ | refine blk_drew ?_ | refine blk_alloc ?_ _)); refine blk_put (cs := #[.slice A2_0 l2_0.length c2_0, .int .i64 0, .bool false]) ?_ 1 _ rfl; (with_reducible repeat (first | refine blk_drewN ?_ _ | refine blk_drew ?_ | refine blk_alloc ?_ _)); refine blk_put (cs := #[.slice none 0 0, .int .i64 0, .bool false]) ?_ 0 _ rfl; (with_reducible repeat (first | refine blk_drewN ?_ _ | refine blk_drew ?_ | refine blk_alloc ?_ _)); exact BK951.out) Try.underlying78 rfl (by kernel_rfl)) rfl ?_
     exact ⟨_, z5, (by (with_reducible repeat (first | apply Kd.V_alloc | apply Kd.V_drewN | apply Kd.V_drew)); exact Kd.V_mono (Kd.V_far (p := ⟨gb951, 2, none⟩) (Kd.V_far (p := ⟨gb951, 1, none⟩) (Kd.V_far (p := ⟨gb951, 0, none⟩) (Kd.V_mono HO2_0.out (fun k_ hk => (⟨hk, hk.1.2⟩ : _ ∧ k_ ≠ gb951))) (fun _ hk => hk.2) (.slice A2_0 l2_0.length c2_0)) (fun _ hk => hk.2) (.int .i64 a2_1)) (fun _ hk => hk.2) (.bool a2_2)) (fun _ hk => hk.1.1.1.1.1)), (zH3 GE949.out GE950.out GE951.out)⟩
 · rw [if_neg c4] at H
   have c4b0 : ((l1.length : Int) == (l0_1.length : Int)) = false := beq_eq_false_iff_ne.mpr c4
   have c4b1 : ((l1.length : Int) != (l0_1.length : Int)) = true := bne_iff_ne.mpr c4
   have c4b2 : (l1.length == l0_1.length) = false := by first | simpa using c4 | (simp at c4 ⊢; omega)
   have H' := Aside0.mk H
   clear H
   go_enter Try.func66, Try.ntmps66
   go_wp2_with (first | ((with_reducible refine gate_dst (N := 3) rfl ?_); refine box_event ?hg (N := 3) ?hd (cs := #[.slice A0_0 l0_0.length c0_0, .slice A0_1 l0_1.length c0_1, .slice A0_2 l0_2.length c0_2]) (t := 26) ?hr ?_; (case hd => rfl); (case hg => rfl); (case hr => first | (go_simp; done) | (go_simp; rfl)); intro gb949 hg w65 hbox hb; have BK949 := Aside0.mk (hbox); have GW949 := Aside0.mk ((z6 : w.heap.size ≤ gb949)); have GE949 := Aside0.mk ((z6 : w.heap.size ≤ gb949)); replace HO1 := Aside0.mk (Kd.V_below (Kd.V_elderB (zV HO1.out) gb949 (Nat.le_of_eq hg.symm)) hb); replace HO2_0 := Aside0.mk (Kd.V_below (Kd.V_elderB (zV HO2_0.out) gb949 (Nat.le_of_eq hg.symm)) hb); replace HB := zs0 hb; clear hb hbox hg) | ((with_reducible refine gate_dst (N := 5) rfl ?_); refine box_event ?hg (N := 5) ?hd (cs := #[.slice A2_0 l2_0.length c2_0, .int .i64 a2_1, .bool a2_2]) (t := 78) ?hr ?_; (case hd => rfl); (case hg => rfl); (case hr => first | (go_simp; done) | (go_simp; rfl)); intro gb950 hg w66 hbox hb; have BK950 := Aside0.mk (hbox); have GW950 := Aside0.mk ((z49 : w.heap.size ≤ gb950)); have GE950 := Aside0.mk ((z49 : w.heap.size ≤ gb950)); have NB949_950 := Aside0.mk ((z18 : gb949 ≠ gb950)); have NB950_949 := Aside0.mk ((z19 : gb950 ≠ gb949)); replace HO1 := Aside0.mk (Kd.V_below (Kd.V_elderB (zV HO1.out) gb950 (Nat.le_of_eq hg.symm)) hb); replace HO2_0 := Aside0.mk (Kd.V_below (Kd.V_elderB (zV HO2_0.out) gb950 (Nat.le_of_eq hg.symm)) hb); replace BK949 := zb BK949 hb; replace HB := zs1 GE949.out hb; clear hb hbox hg) | ((with_reducible refine gate_dst (N := 6) rfl ?_); refine box_event ?hg (N := 6) ?hd (cs := #[.slice none 0 0, .int .i64 0, .bool false]) (t := 78) ?hr ?_; (case hd => rfl); (case hg => rfl); (case hr => first | (go_simp; done) | (go_simp; rfl)); intro gb951 hg w67 hbox hb; have BK951 := Aside0.mk (hbox); have GW951 := Aside0.mk ((z47 : w.heap.size ≤ gb951)); have GE951 := Aside0.mk ((z47 : w.heap.size ≤ gb951)); have NB949_951 := Aside0.mk ((z18 : gb949 ≠ gb951)); have NB951_949 := Aside0.mk ((z19 : gb951 ≠ gb949)); have NB950_951 := Aside0.mk ((z40 : gb950 ≠ gb951)); have NB951_950 := Aside0.mk ((z41 : gb951 ≠ gb950)); replace HO1 := Aside0.mk (Kd.V_below (Kd.V_elderB (zV HO1.out) gb951 (Nat.le_of_eq hg.symm)) hb); replace HO2_0 := Aside0.mk (Kd.V_below (Kd.V_elderB (zV HO2_0.out) gb951 (Nat.le_of_eq hg.symm)) hb); replace BK949 := zb BK949 hb; replace BK950 := zb BK950 hb; replace HB := zs2 GE949.out GE950.out hb; clear hb hbox hg; have hnb68 := NB949_950.out; have hnc68 := NB950_949.out; have hnb69 := NB949_951.out; have hnc69 := NB951_949.out; obtain ⟨hcz70_0, hcz70_1, hcz70_2, hfz70_0, hfz70_1, hfz70_2⟩ := zc3 BK949.out))
   go_loopg [12] k (fun kq v12 w' => ∃ (x12_1 : Int) (x951000_1 : List (List Int)) (x951001_1 : Int) (x951002_1 : Bool) (u951000 : Value), v12 = .int .i64 x12_1 ∧ Aside0 (spec_l7Try.l0 kq l1 x12_1 l0_0 l0_1 l0_2 x951000_1 x951001_1 x951002_1 = some (r1, r2, r3)) ∧ Aside0 (kq ≤ k) ∧ Aside0 (Kd.V (Kd.slice 3 (Kd.int .i64)) 24 w' w.heap.size (fun k_ => ((P1_ k_ ∨ P2_0_ k_) ∨ w.heap.size ≤ k_) ∧ k_ ≠ gb949 ∧ k_ ≠ gb950 ∧ k_ ≠ gb951) (.slice A1 l1.length c1) l1) ∧ Aside0 (Kd.V (Kd.slice 3 (Kd.int .i64)) 24 w' w.heap.size (fun k_ => ((P1_ k_ ∨ P2_0_ k_) ∨ w.heap.size ≤ k_) ∧ k_ ≠ gb949 ∧ k_ ≠ gb950 ∧ k_ ≠ gb951) u951000 x951000_1) ∧ Aside0 (w'.heap[gb949]? = some (.cells #[(.slice A0_0 l0_0.length c0_0), (.slice A0_1 l0_1.length c0_1), (.slice A0_2 l0_2.length c0_2)] 26 (0, 0))) ∧ Aside0 (w'.heap[gb950]? = some (.cells #[u951000, .int .i64 x951001_1, .bool x951002_1] 78 (0, 0))) ∧ Aside0 (w'.heap[gb951]? = some (.cells #[(.slice none 0 0), .int .i64 0, .bool false] 78 (0, 0))) ∧ Aside0 (Below w.heap.size w w'))
   case atStart => exact ⟨(0), (l2_0), (a2_1), (a2_2), (.slice A2_0 l2_0.length c2_0), z3, H', ⟨Nat.le_refl _⟩, ⟨(by (with_reducible repeat (first | apply Kd.V_alloc | apply Kd.V_drewN | apply Kd.V_drew)); exact Kd.V_mono HO1.out (fun _ hk => ⟨hk.1.1.1, ⟨hk.1.1.2, ⟨hk.1.2, hk.2⟩⟩⟩))⟩, ⟨(by (with_reducible repeat (first | apply Kd.V_alloc | apply Kd.V_drewN | apply Kd.V_drew)); exact Kd.V_mono HO2_0.out (fun _ hk => ⟨hk.1.1.1, ⟨hk.1.1.2, ⟨hk.1.2, hk.2⟩⟩⟩))⟩, ⟨(zB BK949.out)⟩, ⟨(zB BK950.out)⟩, ⟨(zB BK951.out)⟩, ⟨(zH3 GE949.out GE950.out GE951.out)⟩⟩
   case round =>
    clear H'
    try clear c1
    try clear c2
    try clear p2
    try clear c3
    try clear c4
    try clear c4b0
    try clear c4b1
    try clear c4b2
    try clear c5
    try clear c6
    try clear c10
    try clear c12
    try clear c14
    try clear c15
    try clear c22
    try clear c23
    try clear c23b0
    try clear c24
    try clear c25
    try clear c27
    try clear c27b0
    try clear c27b1
    try clear c28
    try clear c28b0
    try clear c29
    try clear c30
    try clear c32
    try clear c32b0
    try clear c32b1
    try clear c34
    try clear c35
    try clear c37
    try clear c38
    try clear c40
    try clear c41
    try clear c43
    try clear c44
    try clear c46
    try clear c47
    try clear c48
    try clear c50
    try clear c51
    try clear c53
    try clear c58
    try clear c59
    try clear c62
    try clear c66
    try clear c68
    try clear c69
    try clear hcz16_0
    try clear hcz16_1
    try clear hcz16_2
    try clear hcz18_0
    try clear hcz18_1
    try clear hcz18_2
    try clear hcz26_0
    try clear hcz26_1
    try clear hcz26_2
    try clear hcz31_0
    try clear hcz31_1
    try clear hcz31_2
    try clear hcz36_0
    try clear hcz36_1
    try clear hcz36_2
    try clear hcz39_0
    try clear hcz39_1
    try clear hcz39_2
    try clear hcz42_0
    try clear hcz42_1
    try clear hcz42_2
    try clear hcz45_0
    try clear hcz45_1
    try clear hcz45_2
    try clear hcz49_0
    try clear hcz49_1
    try clear hcz49_2
    try clear hcz52_0
    try clear hcz52_1
    try clear hcz52_2
    try clear hcz54_0
    try clear hcz54_1
    try clear hcz54_2
    try clear hcz60_0
    try clear hcz60_1
    try clear hcz60_2
    try clear hcz63_0
    try clear hcz63_1
    try clear hcz63_2
    try clear hcz64_0
    try clear hcz64_1
    try clear hcz64_2
    try clear hcz70_0
    try clear hcz70_1
    try clear hcz70_2
    try clear hfz16_0
    try clear hfz16_1
    try clear hfz16_2
    try clear hfz18_0
    try clear hfz18_1
    try clear hfz18_2
    try clear hfz26_0
    try clear hfz26_1
    try clear hfz26_2
    try clear hfz31_0
    try clear hfz31_1
    try clear hfz31_2
    try clear hfz36_0
    try clear hfz36_1
    try clear hfz36_2
    try clear hfz39_0
    try clear hfz39_1
    try clear hfz39_2
    try clear hfz42_0
    try clear hfz42_1
    try clear hfz42_2
    try clear hfz45_0
    try clear hfz45_1
    try clear hfz45_2
    try clear hfz49_0
    try clear hfz49_1
    try clear hfz49_2
    try clear hfz52_0
    try clear hfz52_1
    try clear hfz52_2
    try clear hfz54_0
    try clear hfz54_1
    try clear hfz54_2
    try clear hfz60_0
    try clear hfz60_1
    try clear hfz60_2
    try clear hfz63_0
    try clear hfz63_1
    try clear hfz63_2
    try clear hfz64_0
    try clear hfz64_1
    try clear hfz64_2
    try clear hfz70_0
    try clear hfz70_1
    try clear hfz70_2
    try clear p2
    obtain ⟨x12_1, x951000_1, x951001_1, x951002_1, u951000, rfl, HA, HK1, HO_1, HO_951000, BK949, BK950, BK951, HB⟩ := hrel
    cases gk with
    | zero => exact absurd HA.out (by simp [spec_l7Try.l0])
    | succ k1 =>
     have H := HA.out
     clear HA
     simp only [spec_l7Try.l0] at H
     obtain ⟨ji71, hji71⟩ : ∃ j_ : Int, (shl .i64 1 (l0_0.length : Int)) = j_ := ⟨_, rfl⟩
     replace H : (if x12_1 < (ji71) then ((spec_l2Bits.f k1 (l0_0.length : Int) x12_1).bind fun t960 => (if (l1.length : Int) = 0 then ((some (([t960] : List (List Int)) : List (List Int))).bind fun y965 => (if y965.length + l1.length < 5864062014805 then ((spec_l7Try.f k1 l0_0 l0_1 l0_2 (y965 ++ l1) x951000_1 x951001_1 x951002_1).bind fun bt971 => (spec_l7Try.l0 k1 l1 (wrap64 (x12_1 + 1)) l0_0 l0_1 l0_2 bt971.1 bt971.2.1 bt971.2.2)) else (none))) else (if 0 < (l1.length : Int) then ((spec_l7Within.f k1 t960 (rd_L2 l1 0)).bind fun t964 => (if t964 = true then ((some (([t960] : List (List Int)) : List (List Int))).bind fun y976 => (if y976.length + l1.length < 5864062014805 then ((spec_l7Try.f k1 l0_0 l0_1 l0_2 (y976 ++ l1) x951000_1 x951001_1 x951002_1).bind fun bt982 => (spec_l7Try.l0 k1 l1 (wrap64 (x12_1 + 1)) l0_0 l0_1 l0_2 bt982.1 bt982.2.1 bt982.2.2)) else (none))) else (spec_l7Try.l0 k1 l1 (wrap64 (x12_1 + 1)) l0_0 l0_1 l0_2 x951000_1 x951001_1 x951002_1))) else (none)))) else (some (x951000_1, x951001_1, x951002_1))) = some (r1, r2, r3) := by first | (rw [hji71] at H; exact H) | (simp only [hji71] at H ⊢; exact H)
     have hji71_ : (IntKind.i64.wrap (1 * 2 ^ min (l0_0.length : Int).toNat 64)) = ji71 := hji71
     have hji71z : (l0_0.length : Int) ≤ 64 → (IntKind.i64.wrap (1 * 2 ^ (l0_0.length : Int).toNat)) = ji71 := shl_small hji71
     have hji71p : (IntKind.i64.wrap (1 * 2 ^ min l0_0.length 64)) = ji71 := hji71_
     have hji71q : (l0_0.length : Int) ≤ 64 → (IntKind.i64.wrap (1 * 2 ^ l0_0.length)) = ji71 := hji71z
     have hji71r : (IntKind.i64.wrap (2 ^ min l0_0.length 64)) = ji71 := by have h_ := hji71p; rw [Int.one_mul] at h_; exact h_
     have hji71s : (l0_0.length : Int) ≤ 64 → (IntKind.i64.wrap (2 ^ l0_0.length)) = ji71 := fun hle_ => by have h_ := hji71q hle_; rw [Int.one_mul] at h_; exact h_
     have hji71u : (IntKind.i64.wrap (2 ^ min (l0_0.length : Int).toNat 64)) = ji71 := by have h_ := hji71_; rw [Int.one_mul] at h_; exact h_
     have hji71v : (l0_0.length : Int) ≤ 64 → (IntKind.i64.wrap (2 ^ (l0_0.length : Int).toNat)) = ji71 := fun hle_ => by have h_ := hji71z hle_; rw [Int.one_mul] at h_; exact h_
     have hji71y : (wrap64 (1 * 2 ^ min (l0_0.length : Int).toNat 64)) = ji71 := (i64_w _).symm.trans hji71_
     have hji71x : (l0_0.length : Int) ≤ 64 → (wrap64 (1 * 2 ^ (l0_0.length : Int).toNat)) = ji71 := fun h_ => (i64_w _).symm.trans (hji71z h_)
     by_cases c72 : x12_1 < (ji71)
     · rw [if_pos c72] at H
       have c72b0 : decide (x12_1 < (ji71)) = true := decide_eq_true c72
       clear c72
       replace H := Option.bind_eq_some_iff.mp H
       obtain ⟨t960, A730, H⟩ := H
       replace H : (if (l1.length : Int) = 0 then ((some (([t960] : List (List Int)) : List (List Int))).bind fun y965 => (if y965.length + l1.length < 5864062014805 then ((spec_l7Try.f k1 l0_0 l0_1 l0_2 (y965 ++ l1) x951000_1 x951001_1 x951002_1).bind fun bt971 => (spec_l7Try.l0 k1 l1 (wrap64 (x12_1 + 1)) l0_0 l0_1 l0_2 bt971.1 bt971.2.1 bt971.2.2)) else (none))) else (if 0 < (l1.length : Int) then ((spec_l7Within.f k1 t960 (rd_L2 l1 0)).bind fun t964 => (if t964 = true then ((some (([t960] : List (List Int)) : List (List Int))).bind fun y976 => (if y976.length + l1.length < 5864062014805 then ((spec_l7Try.f k1 l0_0 l0_1 l0_2 (y976 ++ l1) x951000_1 x951001_1 x951002_1).bind fun bt982 => (spec_l7Try.l0 k1 l1 (wrap64 (x12_1 + 1)) l0_0 l0_1 l0_2 bt982.1 bt982.2.1 bt982.2.2)) else (none))) else (spec_l7Try.l0 k1 l1 (wrap64 (x12_1 + 1)) l0_0 l0_1 l0_2 x951000_1 x951001_1 x951002_1))) else (none))) = some (r1, r2, r3) := H
       have A73 := Aside0.mk A730
       clear A730
       by_cases c74 : (l1.length : Int) = 0
       · rw [if_pos c74] at H
         have c74b0 : ((l1.length : Int) == 0) = true := beq_iff_eq.mpr c74
         have c74b1 : ((l1.length : Int) != 0) = false := bne_eq_false_iff_eq.mpr c74
         clear c74
         obtain ⟨y965, hy965⟩ : ∃ y_ : List (List Int), y_ = (([t960] : List (List Int))) := ⟨_, rfl⟩
         replace H : (if y965.length + l1.length < 5864062014805 then ((spec_l7Try.f k1 l0_0 l0_1 l0_2 (y965 ++ l1) x951000_1 x951001_1 x951002_1).bind fun bt971 => (spec_l7Try.l0 k1 l1 (wrap64 (x12_1 + 1)) l0_0 l0_1 l0_2 bt971.1 bt971.2.1 bt971.2.2)) else (none)) = some (r1, r2, r3) := zY hy965
         have Ny965 := Aside0.mk hy965
         clear hy965
         by_cases c75 : y965.length + l1.length < 5864062014805
         · rw [if_pos c75] at H
           have LMc75 := Aside0.mk c75
           clear c75
           obtain ⟨y968, hy968⟩ : ∃ y_ : List (List Int), y_ = (y965 ++ l1) := ⟨_, rfl⟩
           replace H : ((spec_l7Try.f k1 l0_0 l0_1 l0_2 y968 x951000_1 x951001_1 x951002_1).bind fun bt971 => (spec_l7Try.l0 k1 l1 (wrap64 (x12_1 + 1)) l0_0 l0_1 l0_2 bt971.1 bt971.2.1 bt971.2.2)) = some (r1, r2, r3) := zY hy968
           have Ny968 := Aside0.mk hy968
           clear hy968
           replace H := Option.bind_eq_some_iff.mp H
           obtain ⟨⟨t971, t974, t975⟩, A760, H⟩ := H
           replace H : (spec_l7Try.l0 k1 l1 (wrap64 (x12_1 + 1)) l0_0 l0_1 l0_2 t971 t974 t975) = some (r1, r2, r3) := H
           have A76 := Aside0.mk A760
           clear A760
           have H' := Aside0.mk H
           clear H
           have hnb77 := NB949_950.out
           have hnc77 := NB950_949.out
           have hnb78 := NB949_951.out
           have hnc78 := NB951_949.out
           obtain ⟨hcz79_0, hcz79_1, hcz79_2, hfz79_0, hfz79_1, hfz79_2⟩ := zc3 BK949.out
           try go_wp2_with (first | ((with_reducible refine gate_callee (f := 95) rfl ?_); refine goesL_ (some 84) rfl rfl Try.func95 (by kernel_rfl) rfl #[.int .i64 (l0_0.length : Int), .int .i64 x12_1] rfl z2 ?_; (with_reducible refine (spec_l2Bits.calls k1 (l0_0.length : Int) x12_1 t960 _ A73.out).mono ?_); rintro e w80 ⟨v961, rfl, ho0, hb⟩; refine ⟨_, rfl, ?_⟩; have HO962 := Aside0.mk (Kd.R_lower (Kd.R_newM (M := fun k_ => (w.heap.size ≤ k_)) ho0 (below_size (zH3 GE949.out GE950.out GE951.out)) (fun k_ h_ => h_)) (below_size (zH3 GE949.out GE950.out GE951.out))); replace HO_1 := zVe HO_1 (Kd.R_base ho0) hb; replace HO_951000 := zVe HO_951000 (Kd.R_base ho0) hb; replace BK949 := zb BK949 hb; replace BK950 := zb BK950 hb; replace BK951 := zb BK951 hb; replace HB := zs3 GE949.out GE950.out GE951.out hb; (try clear hb); (try clear hb2); (try clear hk); (try clear hi); (try clear ho0)))
           replace HO_1 := Aside0.mk (Kd.V_drew HO_1.out)
           replace HO_951000 := Aside0.mk (Kd.V_drew HO_951000.out)
           replace HO962 := Aside0.mk (Kd.R_drew HO962.out)
           replace BK949 := Aside0.mk (blk_drew BK949.out)
           replace BK950 := Aside0.mk (blk_drew BK950.out)
           replace BK951 := Aside0.mk (blk_drew BK951.out)
           replace HB := Aside0.mk (below_drew1 HB.out)
           obtain ⟨Ao82, co82, eo82⟩ := Kd.R_slice HO962.out
           (first | subst eo82 | (injection eo82 with f1_ f2_ f3_; have f4_ := f1_.symm; have f5_ := f3_.symm; clear f1_ f2_ f3_; subst f4_; subst f5_))
           refine start_ (n := 8) (S := fun w' => w'.cell? ⟨gb949, 0, none⟩ = some (.slice A0_0 l0_0.length c0_0) ∧ w'.cell? ⟨gb949, 1, none⟩ = some (.slice A0_1 l0_1.length c0_1) ∧ w'.cell? ⟨gb949, 2, none⟩ = some (.slice A0_2 l0_2.length c0_2) ∧ w'.cell? ⟨gb950, 0, none⟩ = some (u951000) ∧ w'.cell? ⟨gb950, 1, none⟩ = some (.int .i64 x951001_1) ∧ w'.cell? ⟨gb950, 2, none⟩ = some (.bool x951002_1)) (ds := [7]) #[false, false, false, false, false, false, false, false] (by kernel_rfl) rfl rfl ⟨(blk_cell BK949.out 0).trans rfl, (blk_cell BK949.out 1).trans rfl, (blk_cell BK949.out 2).trans rfl, (blk_cell BK950.out 0).trans rfl, (blk_cell BK950.out 1).trans rfl, (blk_cell BK950.out 2).trans rfl⟩ (fun hHeld => ?_); refine with_tabW spec_l7Try.tab15 spec_l7Try.bits15 (fun HT_ HW_ => ?_)
           generalize w80.drew = w81 at HO_1 HO_951000 HO962 BK949 BK950 BK951 HB hHeld ⊢
           refine zP (i := 1) (N := some 96) #[false, true, false, false, false, false, false, false] (any_of HT_.out (by kernel_rfl)) ?_
           refine zP (i := 3) (N := some 98) #[false, true, false, true, false, false, false, false] (any_of HT_.out (by kernel_rfl)) ?_
           refine take_ (i := 0) (N := some 95) (v := ?_) (a' := ?_) #[true, true, false, true, false, false, false, false] rfl rfl (take_ofW HT_.out HW_.out (by kernel_rfl)) (fun _ _ _ h => h) (Or.inl ⟨(by rfl), ?_⟩) hHeld ?_ ?_
           rotate_left
           · rintro w' ⟨s0, s1, s2, s3, s4, s5⟩
             go_simp
             with_reducible rfl
           rotate_left
           · simp only [Act.put, List.setIfInBounds_toArray, List.set_cons_zero, List.set_cons_succ, i64_w, i32_w]
             rfl
           refine take_ (i := 5) (N := some 100) (v := ?_) (a' := ?_) #[true, true, false, true, false, true, false, false] rfl rfl (take_ofW HT_.out HW_.out (by kernel_rfl)) (fun _ _ _ h => h) (Or.inl ⟨(by rfl), ?_⟩) hHeld ?_ ?_
           rotate_left
           · rintro w' ⟨s0, s1, s2, s3, s4, s5⟩
             go_simp
             with_reducible rfl
           rotate_left
           · simp only [Act.put, List.setIfInBounds_toArray, List.set_cons_zero, List.set_cons_succ, i64_w, i32_w]
             rfl
           refine one_ (i := 2) (N := some 97) #[true, true, true, true, false, true, false, false] rfl rfl (one_of HT_.out (by kernel_rfl)) (by decide) (fun K hK => ?_)
           refine Kd.N_lit_step (Kd.slice 3 (Kd.int .i64)) _ 24 ?hg (N' := 97) ?hd (xs := ([t960] : List (List Int))) (inner := [.slice Ao82 t960.length co82]) (ok := (fun k_ => ((P1_ k_ ∨ P2_0_ k_) ∨ w.heap.size ≤ k_) ∧ k_ ≠ gb949 ∧ k_ ≠ gb950 ∧ k_ ≠ gb951)) (okp := (fun k_ => ((P1_ k_ ∨ P2_0_ k_) ∨ w.heap.size ≤ k_) ∧ k_ ≠ gb949 ∧ k_ ≠ gb950 ∧ k_ ≠ gb951)) ?hr ?hp (fun _ hk => hk) ((show ∀ k_, w81.heap.size ≤ k_ → (fun k_ => ((P1_ k_ ∨ P2_0_ k_) ∨ w.heap.size ≤ k_) ∧ k_ ≠ gb949 ∧ k_ ≠ gb950 ∧ k_ ≠ gb951) k_ from fun k_ hk => ⟨(.inr (Nat.le_trans (below_size (zH3 GE949.out GE950.out GE951.out)) hk)), Kd.freshB (g := gb949) (o := .cells #[.slice A0_0 l0_0.length c0_0, .slice A0_1 l0_1.length c0_1, .slice A0_2 l0_2.length c0_2] 26 (0, 0)) (zB BK949.out) k_ hk, Kd.freshB (g := gb950) (o := .cells #[u951000, .int .i64 x951001_1, .bool x951002_1] 78 (0, 0)) (zB BK950.out) k_ hk, Kd.freshB (g := gb951) (o := .cells #[.slice none 0 0, .int .i64 0, .bool false] 78 (0, 0)) (zB BK951.out) k_ hk⟩) _ (Nat.le_refl _)) (Below.refl _ _) (Nat.le_refl _) (by simp) ?_; (case hd => rfl); (case hg => rfl); (case hr => first | (go_simp; done) | (go_simp; rfl)); (case hp => exact (Reps.one (show Kd.FK (Kd.slice 3 (Kd.int .i64)) _ _ t960 [.slice Ao82 t960.length co82] from (Kd.FK_slice_mk (Kd.R_reads' (Kd.R_mono (ok' := (fun k_ => ((P1_ k_ ∨ P2_0_ k_) ∨ w.heap.size ≤ k_) ∧ k_ ≠ gb949 ∧ k_ ≠ gb950 ∧ k_ ≠ gb951)) (Kd.R_types (Kd.R_types (Kd.R_types (HO962.out) BK949.out (by decide)) BK950.out (by decide)) BK951.out (by decide)) (fun k_ hk => ⟨z51, ⟨hk.1.1.2, ⟨hk.1.2, hk.2⟩⟩⟩))).2.1 (Kd.R_F (Kd.R_mono (ok' := (fun k_ => ((P1_ k_ ∨ P2_0_ k_) ∨ w.heap.size ≤ k_) ∧ k_ ≠ gb949 ∧ k_ ≠ gb950 ∧ k_ ≠ gb951)) (Kd.R_types (Kd.R_types (Kd.R_types (HO962.out) BK949.out (by decide)) BK950.out (by decide)) BK951.out (by decide)) (fun k_ hk => ⟨z51, ⟨hk.1.1.2, ⟨hk.1.2, hk.2⟩⟩⟩))))) (Reps.none _ _)))
           intro v966 w83 ho84 hb hg_ hnew_
           clear hg_ hnew_
           (first | rw [← Ny965.out] at ho84 | (simp only [Int.reduceToNat] at ho84; rw [← Ny965.out] at ho84))
           have HO967 := Aside0.mk (Kd.N_lower ho84 (below_size (zH3 GE949.out GE950.out GE951.out)))
           replace HO_1 := zVe HO_1 (Kd.N_base ho84) hb
           replace HO_951000 := zVe HO_951000 (Kd.N_base ho84) hb
           replace BK949 := zb BK949 hb
           replace BK950 := zb BK950 hb
           replace BK951 := zb BK951 hb
           replace HB := zs3 GE949.out GE950.out GE951.out hb
           clear HO962
           clear hb ho84
           refine hK.out _ _ ⟨(blk_cell BK949.out 0).trans rfl, (blk_cell BK949.out 1).trans rfl, (blk_cell BK949.out 2).trans rfl, (blk_cell BK950.out 0).trans rfl, (blk_cell BK950.out 1).trans rfl, (blk_cell BK950.out 2).trans rfl⟩ (fun hHeld => ?_)
           clear hK K
           refine zU (some 97) ?_
           refine one_ (i := 4) (N := some 99) #[true, true, true, true, true, true, false, false] rfl rfl (one_of HT_.out (by kernel_rfl)) (by decide) (fun K hK => ?_)
           refine Kd.N_append_rows_step (Kd.slice 3 (Kd.int .i64)) (w0 := w) w.heap.size (by rfl) (.tmp 97) (.tmp 98) 27 24 (.slice none 0 0) 24 rfl Try.underlying27 info24 rfl (by decide) (by omega) v966 y965 l1 _ _ _ (fun k_ => ((P1_ k_ ∨ P2_0_ k_) ∨ w.heap.size ≤ k_) ∧ k_ ≠ gb949 ∧ k_ ≠ gb950 ∧ k_ ≠ gb951) (fun k_ => ((fun k_ => ((P1_ k_ ∨ P2_0_ k_) ∨ w.heap.size ≤ k_) ∧ k_ ≠ gb949 ∧ k_ ≠ gb950 ∧ k_ ≠ gb951)) k_ ∧ some k_ ≠ (v966 : Value).ownBlock) rfl rfl ?aO ?aR (fun _ hk => hk) ?aF ?aB ?aS ?aL ?_
           (case aR => exact (by skip; exact Kd.V_F (Kd.V_mono (ok' := (fun k_ => ((fun k_ => ((P1_ k_ ∨ P2_0_ k_) ∨ w.heap.size ≤ k_) ∧ k_ ≠ gb949 ∧ k_ ≠ gb950 ∧ k_ ≠ gb951)) k_ ∧ some k_ ≠ (v966 : Value).ownBlock)) (HO_1.out) (fun k_ hk => by first | exact ⟨⟨hk.1.1.1, ⟨hk.1.1.2.1, ⟨hk.1.1.2.2.1, hk.1.1.2.2.2⟩⟩⟩, hk.2⟩ | exact hk | exact ⟨⟨hk.1.1, ⟨hk.1.2.2.1, ⟨hk.1.2.2.2.1, hk.1.2.2.2.2⟩⟩⟩, hk.2⟩))))
           (case aB => exact (zH3 GE949.out GE950.out GE951.out))
           (case aF => exact (fun k_ hk => ⟨(.inr (Nat.le_trans (below_size (zH3 GE949.out GE950.out GE951.out)) hk)), Kd.freshB (g := gb949) (o := .cells #[.slice A0_0 l0_0.length c0_0, .slice A0_1 l0_1.length c0_1, .slice A0_2 l0_2.length c0_2] 26 (0, 0)) (zB BK949.out) k_ hk, Kd.freshB (g := gb950) (o := .cells #[u951000, .int .i64 x951001_1, .bool x951002_1] 78 (0, 0)) (zB BK950.out) k_ hk, Kd.freshB (g := gb951) (o := .cells #[.slice none 0 0, .int .i64 0, .bool false] 78 (0, 0)) (zB BK951.out) k_ hk⟩))
           (case aO => exact (zN HO967.out))
           (case aS => exact (below_size (zH3 GE949.out GE950.out GE951.out)))
           (case aL => have := LMc75.out; omega)
           intro v969 w85 ho hb hg hat
           rw [← Ny968.out] at ho
           have HO970 := Aside0.mk (ho)
           replace HO_1 := Aside0.mk (Kd.V_afterv (ok := (fun k_ => ((P1_ k_ ∨ P2_0_ k_) ∨ w.heap.size ≤ k_) ∧ k_ ≠ gb949 ∧ k_ ≠ gb950 ∧ k_ ≠ gb951)) (by (with_reducible repeat (first | apply Kd.V_alloc | apply Kd.V_drewN | apply Kd.V_drew)); exact Kd.V_mono HO_1.out (fun _ hk => by first | exact ⟨⟨hk.1.1.1, ⟨hk.1.1.2.1, ⟨hk.1.1.2.2.1, hk.1.1.2.2.2⟩⟩⟩, hk.2⟩ | exact hk | exact ⟨⟨hk.1.1, ⟨hk.1.2.2.1, ⟨hk.1.2.2.2.1, hk.1.2.2.2.2⟩⟩⟩, hk.2⟩)) hg hat)
           replace HO_951000 := Aside0.mk (Kd.V_afterv (ok := (fun k_ => ((P1_ k_ ∨ P2_0_ k_) ∨ w.heap.size ≤ k_) ∧ k_ ≠ gb949 ∧ k_ ≠ gb950 ∧ k_ ≠ gb951)) (by (with_reducible repeat (first | apply Kd.V_alloc | apply Kd.V_drewN | apply Kd.V_drew)); exact Kd.V_mono HO_951000.out (fun _ hk => by first | exact ⟨⟨hk.1.1.1, ⟨hk.1.1.2.1, ⟨hk.1.1.2.2.1, hk.1.1.2.2.2⟩⟩⟩, hk.2⟩ | exact hk | exact ⟨⟨hk.1.1, ⟨hk.1.2.2.1, ⟨hk.1.2.2.2.1, hk.1.2.2.2.2⟩⟩⟩, hk.2⟩)) hg hat)
           replace BK949 := Aside0.mk (blk_grown (g := gb949) (o := .cells #[.slice A0_0 l0_0.length c0_0, .slice A0_1 l0_1.length c0_1, .slice A0_2 l0_2.length c0_2] 26 (0, 0)) (zB BK949.out) hg (Kd.N_ne HO967.out BK949.out (by decide)))
           replace BK950 := Aside0.mk (blk_grown (g := gb950) (o := .cells #[u951000, .int .i64 x951001_1, .bool x951002_1] 78 (0, 0)) (zB BK950.out) hg (Kd.N_ne HO967.out BK950.out (by decide)))
           replace BK951 := Aside0.mk (blk_grown (g := gb951) (o := .cells #[.slice none 0 0, .int .i64 0, .bool false] 78 (0, 0)) (zB BK951.out) hg (Kd.N_ne HO967.out BK951.out (by decide)))
           replace HB := Aside0.mk (hb)
           clear HO967
           clear ho hb hg hat
           obtain ⟨Ao86, co86, eo86⟩ := Kd.N_slice HO970.out
           (first | subst eo86 | (injection eo86 with f1_ f2_ f3_; have f4_ := f1_.symm; have f5_ := f3_.symm; clear f1_ f2_ f3_; subst f4_; subst f5_))
           obtain ⟨Ao87, co87, eo87⟩ := Kd.V_slice HO_951000.out
           (first | subst eo87 | (injection eo87 with f1_ f2_ f3_; have f4_ := f1_.symm; have f5_ := f3_.symm; clear f1_ f2_ f3_; subst f4_; subst f5_))
           refine hK.out _ _ ⟨(blk_cell BK949.out 0).trans rfl, (blk_cell BK949.out 1).trans rfl, (blk_cell BK949.out 2).trans rfl, (blk_cell BK950.out 0).trans rfl, (blk_cell BK950.out 1).trans rfl, (blk_cell BK950.out 2).trans rfl⟩ (fun hHeld => ?_)
           clear hK K
           refine zU (some 99) ?_
           refine one_ (i := 6) (N := some 101) #[true, true, true, true, true, true, true, false] rfl rfl (one_of HT_.out (by kernel_rfl)) (by decide) (fun K hK => ?_)
           refine goes_ Try.func66 (by kernel_rfl) rfl #[.agg #[.slice A0_0 l0_0.length c0_0, .slice A0_1 l0_1.length c0_1, .slice A0_2 l0_2.length c0_2], .slice Ao86 y968.length co86, .agg #[.slice Ao87 x951000_1.length co87, .int .i64 x951001_1, .bool x951002_1]] (by rfl) rfl rfl z2 ?_
           with_reducible refine (ih k1 z21 _ _ l0_0 _ _ l0_1 _ _ l0_2 (fun k_ => (((P1_ k_ ∨ P2_0_ k_) ∨ w.heap.size ≤ k_) ∧ (k_ ≠ gb949 ∧ (k_ ≠ gb950 ∧ k_ ≠ gb951)))) _ _ y968 (fun k_ => ((((P1_ k_ ∨ P2_0_ k_) ∨ w.heap.size ≤ k_) ∧ (k_ ≠ gb949 ∧ (k_ ≠ gb950 ∧ k_ ≠ gb951))) ∧ some k_ ≠ (.slice Ao86 y968.length co86 : Value).ownBlock)) _ _ x951000_1 x951001_1 x951002_1 t971 t974 t975 _ ?side1 ?side2 ?side3 ?side4 ?side5 ?side6 ?side7 ?side8 A76.out).mono ?_
           (case side1 => exact zC (Kd.C_below HR0_0.out HB.out))
           (case side2 => exact HC0_0.out)
           (case side3 => exact zC (Kd.C_below HR0_1.out HB.out))
           (case side4 => exact HC0_1.out)
           (case side5 => exact zC (Kd.C_below HR0_2.out HB.out))
           (case side6 => exact HC0_2.out)
           (case side7 => exact Kd.N_V (HO970.out))
           (case side8 => exact HO_951000.out)
           rintro e w88 ⟨v972, rfl, ho0, hb⟩
           refine ⟨_, rfl, ?_⟩
           have HO973 := Aside0.mk (Kd.V_lower (Kd.V_mono (ok' := fun k_ => ((P1_ k_ ∨ P2_0_ k_) ∨ w.heap.size ≤ k_) ∧ k_ ≠ gb949 ∧ k_ ≠ gb950 ∧ k_ ≠ gb951) ho0 (fun k_ hk_ => ⟨Or.elim hk_ (fun hs_ => Or.elim hs_ (fun hs_ => hs_.1) (fun hs_ => hs_.1.1)) (fun hn_ => (.inr (Nat.le_trans (below_size (zH3 GE949.out GE950.out GE951.out)) hn_))), Or.elim hk_ (fun hs_ => Or.elim hs_ (fun hs_ => hs_.2.1) (fun hs_ => hs_.1.2.1)) (fun hn_ => (Kd.freshB (g := gb949) (o := .cells #[.slice A0_0 l0_0.length c0_0, .slice A0_1 l0_1.length c0_1, .slice A0_2 l0_2.length c0_2] 26 (0, 0)) (zB BK949.out) k_ hn_)), Or.elim hk_ (fun hs_ => Or.elim hs_ (fun hs_ => hs_.2.2.1) (fun hs_ => hs_.1.2.2.1)) (fun hn_ => (Kd.freshB (g := gb950) (o := .cells #[.slice Ao87 x951000_1.length co87, .int .i64 x951001_1, .bool x951002_1] 78 (0, 0)) (zB BK950.out) k_ hn_)), Or.elim hk_ (fun hs_ => Or.elim hs_ (fun hs_ => hs_.2.2.2) (fun hs_ => hs_.1.2.2.2)) (fun hn_ => (Kd.freshB (g := gb951) (o := .cells #[.slice none 0 0, .int .i64 0, .bool false] 78 (0, 0)) (zB BK951.out) k_ hn_))⟩)) (below_size (zH3 GE949.out GE950.out GE951.out)))
           replace HO_1 := zVb HO_1 hb
           replace HO_951000 := zVb HO_951000 hb
           replace HO970 := zNb HO970 hb
           replace BK949 := zb BK949 hb
           replace BK950 := zb BK950 hb
           replace BK951 := zb BK951 hb
           replace HB := zs3 GE949.out GE950.out GE951.out hb
           (try clear hb)
           (try clear hb2)
           (try clear hk)
           (try clear hi)
           (try clear ho0)
           obtain ⟨Ao89, co89, eo89⟩ := Kd.V_slice HO973.out
           (first | subst eo89 | (injection eo89 with f1_ f2_ f3_; have f4_ := f1_.symm; have f5_ := f3_.symm; clear f1_ f2_ f3_; subst f4_; subst f5_))
           refine hK.out _ _ ⟨(blk_cell BK949.out 0).trans rfl, (blk_cell BK949.out 1).trans rfl, (blk_cell BK949.out 2).trans rfl, (blk_cell BK950.out 0).trans rfl, (blk_cell BK950.out 1).trans rfl, (blk_cell BK950.out 2).trans rfl⟩ (fun hHeld => ?_)
           clear hK K
           refine zU (some 101) ?_
           refine last_ (i := 7) (N := none) #[true, true, true, true, true, true, true, true] rfl rfl (one_of HT_.out (by kernel_rfl)) (by decide) (fun K hK => ?_)
           have hs90 : w88.cell? ⟨gb950, 0, none⟩ = some (.slice Ao87 x951000_1.length co87) := (blk_cell BK950.out 0).trans rfl
           have hfs90 := blk_frozen BK950.out 0
           have hns90_0 := NB949_950.out
           have hns90_2 := NB951_950.out
           have hms90_0 := NB950_949.out
           have hms90_2 := NB950_951.out
           have hs91 : w88.cell? ⟨gb950, 1, none⟩ = some (.int .i64 x951001_1) := (blk_cell BK950.out 1).trans rfl
           have hfs91 := blk_frozen BK950.out 1
           have hns91_0 := NB949_950.out
           have hns91_2 := NB951_950.out
           have hms91_0 := NB950_949.out
           have hms91_2 := NB950_951.out
           have hs92 : w88.cell? ⟨gb950, 2, none⟩ = some (.bool x951002_1) := (blk_cell BK950.out 2).trans rfl
           have hfs92 := blk_frozen BK950.out 2
           have hns92_0 := NB949_950.out
           have hns92_2 := NB951_950.out
           have hms92_0 := NB950_949.out
           have hms92_2 := NB950_951.out
           refine skip_ (w1 := ?_) (by rfl) rfl ?_ ?_
           rotate_left
           · go_simp
             rfl
           refine hK.out _ _ ?_
           clear hK K
           refine done_ (done_of HT_.out (by kernel_rfl)) ?_
           try go_wp2
           go_roundg k1
           case measure => have := HK1.out; omega
           case rel => exact ⟨(wrap64 (x12_1 + 1)), (t971), (t974), (t975), (.slice Ao89 t971.length co89), z3, H', ⟨z21⟩, ⟨(by (with_reducible repeat (first | apply Kd.V_alloc | apply Kd.V_drewN | apply Kd.V_drew)); exact Kd.V_mono (Kd.V_far (p := ⟨gb950, 2, none⟩) (Kd.V_far (p := ⟨gb950, 1, none⟩) (Kd.V_far (p := ⟨gb950, 0, none⟩) (Kd.V_mono HO_1.out (fun k_ hk => (⟨hk, hk.1.2.2.1⟩ : _ ∧ k_ ≠ gb950))) (fun _ hk => hk.2) (.slice Ao89 t971.length co89)) (fun _ hk => hk.2) (.int .i64 t974)) (fun _ hk => hk.2) (.bool t975)) (fun _ hk => ⟨hk.1.1.1, ⟨hk.1.1.2.1, ⟨hk.1.1.2.2.1, hk.1.1.2.2.2⟩⟩⟩))⟩, ⟨(by (with_reducible repeat (first | apply Kd.V_alloc | apply Kd.V_drewN | apply Kd.V_drew)); exact Kd.V_mono (Kd.V_far (p := ⟨gb950, 2, none⟩) (Kd.V_far (p := ⟨gb950, 1, none⟩) (Kd.V_far (p := ⟨gb950, 0, none⟩) (Kd.V_mono HO973.out (fun k_ hk => (⟨hk, hk.2.2.1⟩ : _ ∧ k_ ≠ gb950))) (fun _ hk => hk.2) (.slice Ao89 t971.length co89)) (fun _ hk => hk.2) (.int .i64 t974)) (fun _ hk => hk.2) (.bool t975)) (fun _ hk => ⟨hk.1.1, ⟨hk.1.2.1, ⟨hk.1.2.2.1, hk.1.2.2.2⟩⟩⟩))⟩, ⟨(by (with_reducible repeat (first | refine blk_drewN ?_ _ | refine blk_drew ?_ | refine blk_alloc ?_ _)); refine blk_far ?_ NB949_950.out _; (with_reducible repeat (first | refine blk_drewN ?_ _ | refine blk_drew ?_ | refine blk_alloc ?_ _)); refine blk_far ?_ NB949_950.out _; (with_reducible repeat (first | refine blk_drewN ?_ _ | refine blk_drew ?_ | refine blk_alloc ?_ _)); refine blk_far ?_ NB949_950.out _; (with_reducible repeat (first | refine blk_drewN ?_ _ | refine blk_drew ?_ | refine blk_alloc ?_ _)); exact BK949.out)⟩, ⟨(by (with_reducible repeat (first | refine blk_drewN ?_ _ | refine blk_drew ?_ | refine blk_alloc ?_ _)); refine blk_put (cs := #[.slice Ao89 t971.length co89, .int .i64 t974, .bool x951002_1]) ?_ 2 _ rfl; (with_reducible repeat (first | refine blk_drewN ?_ _ | refine blk_drew ?_ | refine blk_alloc ?_ _)); refine blk_put (cs := #[.slice Ao89 t971.length co89, .int .i64 x951001_1, .bool x951002_1]) ?_ 1 _ rfl; (with_reducible repeat (first | refine blk_drewN ?_ _ | refine blk_drew ?_ | refine blk_alloc ?_ _)); refine blk_put (cs := #[.slice Ao87 x951000_1.length co87, .int .i64 x951001_1, .bool x951002_1]) ?_ 0 _ rfl; (with_reducible repeat (first | refine blk_drewN ?_ _ | refine blk_drew ?_ | refine blk_alloc ?_ _)); exact BK950.out)⟩, ⟨(by (with_reducible repeat (first | refine blk_drewN ?_ _ | refine blk_drew ?_ | refine blk_alloc ?_ _)); refine blk_far ?_ NB951_950.out _; (with_reducible repeat (first | refine blk_drewN ?_ _ | refine blk_drew ?_ | refine blk_alloc ?_ _)); refine blk_far ?_ NB951_950.out _; (with_reducible repeat (first | refine blk_drewN ?_ _ | refine blk_drew ?_ | refine blk_alloc ?_ _)); refine blk_far ?_ NB951_950.out _; (with_reducible repeat (first | refine blk_drewN ?_ _ | refine blk_drew ?_ | refine blk_alloc ?_ _)); exact BK951.out)⟩, ⟨(zH3 GE949.out GE950.out GE951.out)⟩⟩
         · rw [if_neg c75] at H
           exact absurd H (by simp)
       · rw [if_neg c74] at H
         have c74b0 : ((l1.length : Int) == 0) = false := beq_eq_false_iff_ne.mpr c74
         have c74b1 : ((l1.length : Int) != 0) = true := bne_iff_ne.mpr c74
         have c74b2 : ¬ (l1 = []) := fun h_ => c74 (by rw [h_]; rfl)
         by_cases c93 : 0 < (l1.length : Int)
         · rw [if_pos c93] at H
           have c93b0 : decide (0 < (l1.length : Int)) = true := decide_eq_true c93
           have c93b1 : decide (0 < l1.length) = true := decide_eq_true (by omega)
           clear c93
           replace H := Option.bind_eq_some_iff.mp H
           obtain ⟨t964, A940, H⟩ := H
           replace H : (if t964 = true then ((some (([t960] : List (List Int)) : List (List Int))).bind fun y976 => (if y976.length + l1.length < 5864062014805 then ((spec_l7Try.f k1 l0_0 l0_1 l0_2 (y976 ++ l1) x951000_1 x951001_1 x951002_1).bind fun bt982 => (spec_l7Try.l0 k1 l1 (wrap64 (x12_1 + 1)) l0_0 l0_1 l0_2 bt982.1 bt982.2.1 bt982.2.2)) else (none))) else (spec_l7Try.l0 k1 l1 (wrap64 (x12_1 + 1)) l0_0 l0_1 l0_2 x951000_1 x951001_1 x951002_1)) = some (r1, r2, r3) := H
           have A94 := Aside0.mk A940
           clear A940
           by_cases c95 : t964 = true
           · subst c95
             have H1 : ((some (([t960] : List (List Int)) : List (List Int))).bind fun y976 => (if y976.length + l1.length < 5864062014805 then ((spec_l7Try.f k1 l0_0 l0_1 l0_2 (y976 ++ l1) x951000_1 x951001_1 x951002_1).bind fun bt982 => (spec_l7Try.l0 k1 l1 (wrap64 (x12_1 + 1)) l0_0 l0_1 l0_2 bt982.1 bt982.2.1 bt982.2.2)) else (none))) = some (r1, r2, r3) := by rw [if_pos rfl] at H; exact H
             clear H
             have H := H1
             clear H1
             obtain ⟨y976, hy976⟩ : ∃ y_ : List (List Int), y_ = (([t960] : List (List Int))) := ⟨_, rfl⟩
             replace H : (if y976.length + l1.length < 5864062014805 then ((spec_l7Try.f k1 l0_0 l0_1 l0_2 (y976 ++ l1) x951000_1 x951001_1 x951002_1).bind fun bt982 => (spec_l7Try.l0 k1 l1 (wrap64 (x12_1 + 1)) l0_0 l0_1 l0_2 bt982.1 bt982.2.1 bt982.2.2)) else (none)) = some (r1, r2, r3) := zY hy976
             have Ny976 := Aside0.mk hy976
             clear hy976
             by_cases c96 : y976.length + l1.length < 5864062014805
             · rw [if_pos c96] at H
               have LMc96 := Aside0.mk c96
               clear c96
               obtain ⟨y979, hy979⟩ : ∃ y_ : List (List Int), y_ = (y976 ++ l1) := ⟨_, rfl⟩
               replace H : ((spec_l7Try.f k1 l0_0 l0_1 l0_2 y979 x951000_1 x951001_1 x951002_1).bind fun bt982 => (spec_l7Try.l0 k1 l1 (wrap64 (x12_1 + 1)) l0_0 l0_1 l0_2 bt982.1 bt982.2.1 bt982.2.2)) = some (r1, r2, r3) := zY hy979
               have Ny979 := Aside0.mk hy979
               clear hy979
               replace H := Option.bind_eq_some_iff.mp H
               obtain ⟨⟨t982, t985, t986⟩, A970, H⟩ := H
               replace H : (spec_l7Try.l0 k1 l1 (wrap64 (x12_1 + 1)) l0_0 l0_1 l0_2 t982 t985 t986) = some (r1, r2, r3) := H
               have A97 := Aside0.mk A970
               clear A970
               have H' := Aside0.mk H
               clear H
               have hnb98 := NB949_950.out
               have hnc98 := NB950_949.out
               have hnb99 := NB949_951.out
               have hnc99 := NB951_949.out
               obtain ⟨hcz100_0, hcz100_1, hcz100_2, hfz100_0, hfz100_1, hfz100_2⟩ := zc3 BK949.out
               try go_wp2_with (first | ((with_reducible refine gate_callee (f := 95) rfl ?_); refine goesL_ (some 84) rfl rfl Try.func95 (by kernel_rfl) rfl #[.int .i64 (l0_0.length : Int), .int .i64 x12_1] rfl z2 ?_; (with_reducible refine (spec_l2Bits.calls k1 (l0_0.length : Int) x12_1 t960 _ A73.out).mono ?_); rintro e w101 ⟨v961, rfl, ho0, hb⟩; refine ⟨_, rfl, ?_⟩; have HO962 := Aside0.mk (Kd.R_lower (Kd.R_newM (M := fun k_ => (w.heap.size ≤ k_)) ho0 (below_size (zH3 GE949.out GE950.out GE951.out)) (fun k_ h_ => h_)) (below_size (zH3 GE949.out GE950.out GE951.out))); replace HO_1 := zVe HO_1 (Kd.R_base ho0) hb; replace HO_951000 := zVe HO_951000 (Kd.R_base ho0) hb; replace BK949 := zb BK949 hb; replace BK950 := zb BK950 hb; replace BK951 := zb BK951 hb; replace HB := zs3 GE949.out GE950.out GE951.out hb; (try clear hb); (try clear hb2); (try clear hk); (try clear hi); (try clear ho0); have p963 : 0 ≤ (0 : Int) := (by omega); have q963 : 0 < (l1.length : Int) := of_decide_eq_true z1; obtain ⟨ad963, A963_0, c963_0, e963, hx963_0, hl963_0, hi963_0⟩ := at_L2 (Kd.V_reads' HO_1.out).2.2 0 p963 q963; cases e963; obtain ⟨ce963, hce963, hMe963, hcc963⟩ := Kd.V_get HO_1.out [] 0 p963 (by first | exact q963 | exact of_decide_eq_true z1 | (have e_ := (Kd.V_reads' HO_1.out).1; omega)); obtain ⟨ua963_0, uc963_0, rfl, ul963_0, ge963_0⟩ := Kd.FK_slice_open hMe963; have hv963_0 := hcc963 0 _ rfl; rw [Nat.add_zero, show ((Kd.slice 3 (Kd.int .i64))).sz = 1 from rfl, Nat.mul_one] at hv963_0; replace hv963_0 := Option.some.inj (hv963_0.symm.trans hx963_0); injection hv963_0 with hva_ hvn_ hvc_; rw [hva_] at ge963_0; rw [hvc_] at ul963_0; have HL963_0 := Aside0.mk (show Kd.V (Kd.int .i64) 3 _ w.heap.size _ _ (rd_L2 l1 0) from Kd.V_mk ul963_0 ge963_0); clear hva_ hvn_ hvc_ ge963_0 ul963_0; clear hcc963 hce963; have qi963 : (0 < l1.length) = True := eq_true (by omega); (try rw [show ((0 : Int)).toNat = 0 from rfl] at hx963_0); (try rw [Addr.add_zero'] at hx963_0); have HR963_0 := Aside0.mk hi963_0; have HC963_0 := Aside0.mk hl963_0; clear hi963_0 hl963_0; replace p963 := eq_true p963; replace q963 := eq_true q963; obtain ⟨Ao102, co102, eo102⟩ := Kd.R_slice HO962.out; subst eo102) | (go_at_call 114; (with_reducible refine (spec_l7Within.calls k1 _ _ t960 _ _ (rd_L2 l1 0) true _ ?side1 ?side2 ?side3 ?side4 A94.out).mono ?_); (case side1 => exact zC (Kd.R_reads' HO962.out).2.2); (case side2 => exact (Kd.R_reads' HO962.out).2.1); (case side3 => repeat (first | exact z26 | (with_reducible refine Kd.C_alloc ?_ _) | (with_reducible refine Kd.C_drewN ?_ _) | (with_reducible refine Kd.C_drew ?_))); (case side4 => exact HC963_0.out); rintro e w' ⟨rfl, ⟨nd, rfl⟩⟩; (try (rw [drewN_self w101]; generalize hq_ : World.drewN w101 _ = w101; have n0_ : Aside0 (Kd.V (Kd.int .i64) 3 w101 w.heap.size (fun k_ => ((P1_ k_ ∨ P2_0_ k_) ∨ w.heap.size ≤ k_) ∧ some k_ ≠ (.slice Ao102 t960.length co102 : Value).ownBlock ∧ k_ ≠ gb949 ∧ k_ ≠ gb950 ∧ k_ ≠ gb951) (.slice A963_0 (rd_L2 l1 0).length c963_0) (rd_L2 l1 0)) := ⟨(by rw [← hq_]; exact (by (with_reducible repeat (first | apply Kd.V_alloc | apply Kd.V_drewN | apply Kd.V_drew)); exact Kd.V_mono HL963_0.out (fun _ hk => ⟨hk.1.1, ⟨hk.2, ⟨hk.1.2.1, ⟨hk.1.2.2.1, hk.1.2.2.2⟩⟩⟩⟩)))⟩; have n1_ : Aside0 (Kd.R (Kd.int .i64) 3 w101 w.heap.size (fun k_ => (w.heap.size ≤ k_)) (.slice Ao102 t960.length co102) t960) := ⟨(by rw [← hq_]; exact (by (with_reducible repeat (first | apply Kd.R_alloc | apply Kd.R_drewN | apply Kd.R_drew)); exact Kd.R_mono HO962.out (fun _ hk => hk.1)))⟩; have n2_ : Aside0 (Kd.V (Kd.slice 3 (Kd.int .i64)) 24 w101 w.heap.size (fun k_ => ((P1_ k_ ∨ P2_0_ k_) ∨ w.heap.size ≤ k_) ∧ some k_ ≠ (.slice Ao102 t960.length co102 : Value).ownBlock ∧ k_ ≠ gb949 ∧ k_ ≠ gb950 ∧ k_ ≠ gb951) (.slice (some ad963) l1.length c1) l1) := ⟨(by rw [← hq_]; exact (by (with_reducible repeat (first | apply Kd.V_alloc | apply Kd.V_drewN | apply Kd.V_drew)); exact Kd.V_mono HO_1.out (fun _ hk => ⟨hk.1.1, ⟨hk.2, ⟨hk.1.2.1, ⟨hk.1.2.2.1, hk.1.2.2.2⟩⟩⟩⟩)))⟩; have n3_ : Aside0 (Kd.V (Kd.slice 3 (Kd.int .i64)) 24 w101 w.heap.size (fun k_ => ((P1_ k_ ∨ P2_0_ k_) ∨ w.heap.size ≤ k_) ∧ some k_ ≠ (.slice Ao102 t960.length co102 : Value).ownBlock ∧ k_ ≠ gb949 ∧ k_ ≠ gb950 ∧ k_ ≠ gb951) u951000 x951000_1) := ⟨(by rw [← hq_]; exact (by (with_reducible repeat (first | apply Kd.V_alloc | apply Kd.V_drewN | apply Kd.V_drew)); exact Kd.V_mono HO_951000.out (fun _ hk => ⟨hk.1.1, ⟨hk.2, ⟨hk.1.2.1, ⟨hk.1.2.2.1, hk.1.2.2.2⟩⟩⟩⟩)))⟩; have n4_ : Aside0 (w101.heap[gb949]? = some (.cells #[.slice A0_0 l0_0.length c0_0, .slice A0_1 l0_1.length c0_1, .slice A0_2 l0_2.length c0_2] 26 (0, 0))) := ⟨(by rw [← hq_]; exact (zB BK949.out))⟩; have n5_ : Aside0 (w101.heap[gb950]? = some (.cells #[u951000, .int .i64 x951001_1, .bool x951002_1] 78 (0, 0))) := ⟨(by rw [← hq_]; exact (zB BK950.out))⟩; have n6_ : Aside0 (w101.heap[gb951]? = some (.cells #[.slice none 0 0, .int .i64 0, .bool false] 78 (0, 0))) := ⟨(by rw [← hq_]; exact (zB BK951.out))⟩; have n7_ : Aside0 (Below w.heap.size w w101) := ⟨(by rw [← hq_]; exact (zH3 GE949.out GE950.out GE951.out))⟩; have n8_ : Aside0 (Kd.C (Kd.int .i64) w101 A963_0 (rd_L2 l1 0).length (rd_L2 l1 0)) := ⟨(by rw [← hq_]; exact z26)⟩; clear HL963_0 HO962 HO_1 HO_951000 BK949 BK950 BK951 HB HR963_0 hq_; have HL963_0 := n0_; have HO962 := n1_; have HO_1 := n2_; have HO_951000 := n3_; have BK949 := n4_; have BK950 := n5_; have BK951 := n6_; have HB := n7_; have HR963_0 := n8_; clear n0_ n1_ n2_ n3_ n4_ n5_ n6_ n7_ n8_))))
               replace HO_1 := Aside0.mk (Kd.V_drew HO_1.out)
               replace HO_951000 := Aside0.mk (Kd.V_drew HO_951000.out)
               replace HO962 := Aside0.mk (Kd.R_drew HO962.out)
               replace HL963_0 := Aside0.mk (Kd.V_drew HL963_0.out)
               replace BK949 := Aside0.mk (blk_drew BK949.out)
               replace BK950 := Aside0.mk (blk_drew BK950.out)
               replace BK951 := Aside0.mk (blk_drew BK951.out)
               replace HR963_0 := Aside0.mk (Kd.C_drew HR963_0.out)
               replace HB := Aside0.mk (below_drew1 HB.out)
               refine start_ (n := 8) (S := fun w' => w'.cell? ⟨gb949, 0, none⟩ = some (.slice A0_0 l0_0.length c0_0) ∧ w'.cell? ⟨gb949, 1, none⟩ = some (.slice A0_1 l0_1.length c0_1) ∧ w'.cell? ⟨gb949, 2, none⟩ = some (.slice A0_2 l0_2.length c0_2) ∧ w'.cell? ⟨gb950, 0, none⟩ = some (u951000) ∧ w'.cell? ⟨gb950, 1, none⟩ = some (.int .i64 x951001_1) ∧ w'.cell? ⟨gb950, 2, none⟩ = some (.bool x951002_1)) (ds := [7]) #[false, false, false, false, false, false, false, false] (by kernel_rfl) rfl rfl ⟨(blk_cell BK949.out 0).trans rfl, (blk_cell BK949.out 1).trans rfl, (blk_cell BK949.out 2).trans rfl, (blk_cell BK950.out 0).trans rfl, (blk_cell BK950.out 1).trans rfl, (blk_cell BK950.out 2).trans rfl⟩ (fun hHeld => ?_); refine with_tabW spec_l7Try.tab15 spec_l7Try.bits15 (fun HT_ HW_ => ?_)
               generalize w101.drew = w103 at HO_1 HO_951000 HO962 HL963_0 BK949 BK950 BK951 HR963_0 HB hHeld ⊢
               refine zP (i := 1) (N := some 96) #[false, true, false, false, false, false, false, false] (any_of HT_.out (by kernel_rfl)) ?_
               refine zP (i := 3) (N := some 98) #[false, true, false, true, false, false, false, false] (any_of HT_.out (by kernel_rfl)) ?_
               refine take_ (i := 0) (N := some 95) (v := ?_) (a' := ?_) #[true, true, false, true, false, false, false, false] rfl rfl (take_ofW HT_.out HW_.out (by kernel_rfl)) (fun _ _ _ h => h) (Or.inl ⟨(by rfl), ?_⟩) hHeld ?_ ?_
               rotate_left
               · rintro w' ⟨s0, s1, s2, s3, s4, s5⟩
                 go_simp
                 with_reducible rfl
               rotate_left
               · simp only [Act.put, List.setIfInBounds_toArray, List.set_cons_zero, List.set_cons_succ, i64_w, i32_w]
                 rfl
               refine take_ (i := 5) (N := some 100) (v := ?_) (a' := ?_) #[true, true, false, true, false, true, false, false] rfl rfl (take_ofW HT_.out HW_.out (by kernel_rfl)) (fun _ _ _ h => h) (Or.inl ⟨(by rfl), ?_⟩) hHeld ?_ ?_
               rotate_left
               · rintro w' ⟨s0, s1, s2, s3, s4, s5⟩
                 go_simp
                 with_reducible rfl
               rotate_left
               · simp only [Act.put, List.setIfInBounds_toArray, List.set_cons_zero, List.set_cons_succ, i64_w, i32_w]
                 rfl
               refine one_ (i := 2) (N := some 97) #[true, true, true, true, false, true, false, false] rfl rfl (one_of HT_.out (by kernel_rfl)) (by decide) (fun K hK => ?_)
               refine Kd.N_lit_step (Kd.slice 3 (Kd.int .i64)) _ 24 ?hg (N' := 97) ?hd (xs := ([t960] : List (List Int))) (inner := [.slice Ao102 t960.length co102]) (ok := (fun k_ => ((P1_ k_ ∨ P2_0_ k_) ∨ w.heap.size ≤ k_) ∧ k_ ≠ gb949 ∧ k_ ≠ gb950 ∧ k_ ≠ gb951)) (okp := (fun k_ => ((P1_ k_ ∨ P2_0_ k_) ∨ w.heap.size ≤ k_) ∧ k_ ≠ gb949 ∧ k_ ≠ gb950 ∧ k_ ≠ gb951)) ?hr ?hp (fun _ hk => hk) ((show ∀ k_, w103.heap.size ≤ k_ → (fun k_ => ((P1_ k_ ∨ P2_0_ k_) ∨ w.heap.size ≤ k_) ∧ k_ ≠ gb949 ∧ k_ ≠ gb950 ∧ k_ ≠ gb951) k_ from fun k_ hk => ⟨(.inr (Nat.le_trans (below_size (zH3 GE949.out GE950.out GE951.out)) hk)), Kd.freshB (g := gb949) (o := .cells #[.slice A0_0 l0_0.length c0_0, .slice A0_1 l0_1.length c0_1, .slice A0_2 l0_2.length c0_2] 26 (0, 0)) (zB BK949.out) k_ hk, Kd.freshB (g := gb950) (o := .cells #[u951000, .int .i64 x951001_1, .bool x951002_1] 78 (0, 0)) (zB BK950.out) k_ hk, Kd.freshB (g := gb951) (o := .cells #[.slice none 0 0, .int .i64 0, .bool false] 78 (0, 0)) (zB BK951.out) k_ hk⟩) _ (Nat.le_refl _)) (Below.refl _ _) (Nat.le_refl _) (by simp) ?_; (case hd => rfl); (case hg => rfl); (case hr => first | (go_simp; done) | (go_simp; rfl)); (case hp => exact (Reps.one (show Kd.FK (Kd.slice 3 (Kd.int .i64)) _ _ t960 [.slice Ao102 t960.length co102] from (Kd.FK_slice_mk (Kd.R_reads' (Kd.R_mono (ok' := (fun k_ => ((P1_ k_ ∨ P2_0_ k_) ∨ w.heap.size ≤ k_) ∧ k_ ≠ gb949 ∧ k_ ≠ gb950 ∧ k_ ≠ gb951)) (Kd.R_types (Kd.R_types (Kd.R_types (HO962.out) BK949.out (by decide)) BK950.out (by decide)) BK951.out (by decide)) (fun k_ hk => ⟨z51, ⟨hk.1.1.2, ⟨hk.1.2, hk.2⟩⟩⟩))).2.1 (Kd.R_F (Kd.R_mono (ok' := (fun k_ => ((P1_ k_ ∨ P2_0_ k_) ∨ w.heap.size ≤ k_) ∧ k_ ≠ gb949 ∧ k_ ≠ gb950 ∧ k_ ≠ gb951)) (Kd.R_types (Kd.R_types (Kd.R_types (HO962.out) BK949.out (by decide)) BK950.out (by decide)) BK951.out (by decide)) (fun k_ hk => ⟨z51, ⟨hk.1.1.2, ⟨hk.1.2, hk.2⟩⟩⟩))))) (Reps.none _ _)))
               intro v977 w104 ho105 hb hg_ hnew_
               clear hg_ hnew_
               (first | rw [← Ny976.out] at ho105 | (simp only [Int.reduceToNat] at ho105; rw [← Ny976.out] at ho105))
               have HO978 := Aside0.mk (Kd.N_lower ho105 (below_size (zH3 GE949.out GE950.out GE951.out)))
               replace HO_1 := zVe HO_1 (Kd.N_base ho105) hb
               replace HO_951000 := zVe HO_951000 (Kd.N_base ho105) hb
               replace HL963_0 := zVe HL963_0 (Kd.N_base ho105) hb
               replace BK949 := zb BK949 hb
               replace BK950 := zb BK950 hb
               replace BK951 := zb BK951 hb
               replace HR963_0 := Aside0.mk (Kd.C_below z26 hb)
               replace HB := zs3 GE949.out GE950.out GE951.out hb
               clear HO962
               clear hb ho105
               refine hK.out _ _ ⟨(blk_cell BK949.out 0).trans rfl, (blk_cell BK949.out 1).trans rfl, (blk_cell BK949.out 2).trans rfl, (blk_cell BK950.out 0).trans rfl, (blk_cell BK950.out 1).trans rfl, (blk_cell BK950.out 2).trans rfl⟩ (fun hHeld => ?_)
               clear hK K
               refine zU (some 97) ?_
               refine one_ (i := 4) (N := some 99) #[true, true, true, true, true, true, false, false] rfl rfl (one_of HT_.out (by kernel_rfl)) (by decide) (fun K hK => ?_)
               refine Kd.N_append_rows_step (Kd.slice 3 (Kd.int .i64)) (w0 := w) w.heap.size (by rfl) (.tmp 97) (.tmp 98) 27 24 (.slice none 0 0) 24 rfl Try.underlying27 info24 rfl (by decide) (by omega) v977 y976 l1 _ _ _ (fun k_ => ((P1_ k_ ∨ P2_0_ k_) ∨ w.heap.size ≤ k_) ∧ k_ ≠ gb949 ∧ k_ ≠ gb950 ∧ k_ ≠ gb951) (fun k_ => ((fun k_ => ((P1_ k_ ∨ P2_0_ k_) ∨ w.heap.size ≤ k_) ∧ k_ ≠ gb949 ∧ k_ ≠ gb950 ∧ k_ ≠ gb951)) k_ ∧ some k_ ≠ (v977 : Value).ownBlock) rfl rfl ?aO ?aR (fun _ hk => hk) ?aF ?aB ?aS ?aL ?_
               (case aR => exact (by skip; exact Kd.V_F (Kd.V_mono (ok' := (fun k_ => ((fun k_ => ((P1_ k_ ∨ P2_0_ k_) ∨ w.heap.size ≤ k_) ∧ k_ ≠ gb949 ∧ k_ ≠ gb950 ∧ k_ ≠ gb951)) k_ ∧ some k_ ≠ (v977 : Value).ownBlock)) (HO_1.out) (fun k_ hk => by first | exact ⟨⟨hk.1.1.1, ⟨hk.1.1.2.1, ⟨hk.1.1.2.2.1, hk.1.1.2.2.2⟩⟩⟩, hk.2⟩ | exact hk | exact ⟨⟨hk.1.1, ⟨hk.1.2.2.1, ⟨hk.1.2.2.2.1, hk.1.2.2.2.2⟩⟩⟩, hk.2⟩))))
               (case aB => exact (zH3 GE949.out GE950.out GE951.out))
               (case aF => exact (fun k_ hk => ⟨(.inr (Nat.le_trans (below_size (zH3 GE949.out GE950.out GE951.out)) hk)), Kd.freshB (g := gb949) (o := .cells #[.slice A0_0 l0_0.length c0_0, .slice A0_1 l0_1.length c0_1, .slice A0_2 l0_2.length c0_2] 26 (0, 0)) (zB BK949.out) k_ hk, Kd.freshB (g := gb950) (o := .cells #[u951000, .int .i64 x951001_1, .bool x951002_1] 78 (0, 0)) (zB BK950.out) k_ hk, Kd.freshB (g := gb951) (o := .cells #[.slice none 0 0, .int .i64 0, .bool false] 78 (0, 0)) (zB BK951.out) k_ hk⟩))
               (case aO => exact (zN HO978.out))
               (case aS => exact (below_size (zH3 GE949.out GE950.out GE951.out)))
               (case aL => have := LMc96.out; omega)
               intro v980 w106 ho hb hg hat
               rw [← Ny979.out] at ho
               have HO981 := Aside0.mk (ho)
               replace HO_1 := Aside0.mk (Kd.V_afterv (ok := (fun k_ => ((P1_ k_ ∨ P2_0_ k_) ∨ w.heap.size ≤ k_) ∧ k_ ≠ gb949 ∧ k_ ≠ gb950 ∧ k_ ≠ gb951)) (by (with_reducible repeat (first | apply Kd.V_alloc | apply Kd.V_drewN | apply Kd.V_drew)); exact Kd.V_mono HO_1.out (fun _ hk => by first | exact ⟨⟨hk.1.1.1, ⟨hk.1.1.2.1, ⟨hk.1.1.2.2.1, hk.1.1.2.2.2⟩⟩⟩, hk.2⟩ | exact hk | exact ⟨⟨hk.1.1, ⟨hk.1.2.2.1, ⟨hk.1.2.2.2.1, hk.1.2.2.2.2⟩⟩⟩, hk.2⟩)) hg hat)
               replace HO_951000 := Aside0.mk (Kd.V_afterv (ok := (fun k_ => ((P1_ k_ ∨ P2_0_ k_) ∨ w.heap.size ≤ k_) ∧ k_ ≠ gb949 ∧ k_ ≠ gb950 ∧ k_ ≠ gb951)) (by (with_reducible repeat (first | apply Kd.V_alloc | apply Kd.V_drewN | apply Kd.V_drew)); exact Kd.V_mono HO_951000.out (fun _ hk => by first | exact ⟨⟨hk.1.1.1, ⟨hk.1.1.2.1, ⟨hk.1.1.2.2.1, hk.1.1.2.2.2⟩⟩⟩, hk.2⟩ | exact hk | exact ⟨⟨hk.1.1, ⟨hk.1.2.2.1, ⟨hk.1.2.2.2.1, hk.1.2.2.2.2⟩⟩⟩, hk.2⟩)) hg hat)
               replace BK949 := Aside0.mk (blk_grown (g := gb949) (o := .cells #[.slice A0_0 l0_0.length c0_0, .slice A0_1 l0_1.length c0_1, .slice A0_2 l0_2.length c0_2] 26 (0, 0)) (zB BK949.out) hg (Kd.N_ne HO978.out BK949.out (by decide)))
               replace BK950 := Aside0.mk (blk_grown (g := gb950) (o := .cells #[u951000, .int .i64 x951001_1, .bool x951002_1] 78 (0, 0)) (zB BK950.out) hg (Kd.N_ne HO978.out BK950.out (by decide)))
               replace BK951 := Aside0.mk (blk_grown (g := gb951) (o := .cells #[.slice none 0 0, .int .i64 0, .bool false] 78 (0, 0)) (zB BK951.out) hg (Kd.N_ne HO978.out BK951.out (by decide)))
               replace HL963_0 := Aside0.mk (Kd.V_afterv (ok := (fun k_ => ((P1_ k_ ∨ P2_0_ k_) ∨ w.heap.size ≤ k_) ∧ k_ ≠ gb949 ∧ k_ ≠ gb950 ∧ k_ ≠ gb951)) (by (with_reducible repeat (first | apply Kd.V_alloc | apply Kd.V_drewN | apply Kd.V_drew)); exact Kd.V_mono HL963_0.out (fun _ hk => by first | exact ⟨⟨hk.1.1.1, ⟨hk.1.1.2.1, ⟨hk.1.1.2.2.1, hk.1.1.2.2.2⟩⟩⟩, hk.2⟩ | exact hk | exact ⟨⟨hk.1.1, ⟨hk.1.2.2.1, ⟨hk.1.2.2.2.1, hk.1.2.2.2.2⟩⟩⟩, hk.2⟩)) hg hat)
               replace HB := Aside0.mk (hb)
               clear HO978
               clear ho hb hg hat
               obtain ⟨Ao107, co107, eo107⟩ := Kd.N_slice HO981.out
               (first | subst eo107 | (injection eo107 with f1_ f2_ f3_; have f4_ := f1_.symm; have f5_ := f3_.symm; clear f1_ f2_ f3_; subst f4_; subst f5_))
               obtain ⟨Ao108, co108, eo108⟩ := Kd.V_slice HO_951000.out
               (first | subst eo108 | (injection eo108 with f1_ f2_ f3_; have f4_ := f1_.symm; have f5_ := f3_.symm; clear f1_ f2_ f3_; subst f4_; subst f5_))
               refine hK.out _ _ ⟨(blk_cell BK949.out 0).trans rfl, (blk_cell BK949.out 1).trans rfl, (blk_cell BK949.out 2).trans rfl, (blk_cell BK950.out 0).trans rfl, (blk_cell BK950.out 1).trans rfl, (blk_cell BK950.out 2).trans rfl⟩ (fun hHeld => ?_)
               clear hK K
               refine zU (some 99) ?_
               refine one_ (i := 6) (N := some 101) #[true, true, true, true, true, true, true, false] rfl rfl (one_of HT_.out (by kernel_rfl)) (by decide) (fun K hK => ?_)
               refine goes_ Try.func66 (by kernel_rfl) rfl #[.agg #[.slice A0_0 l0_0.length c0_0, .slice A0_1 l0_1.length c0_1, .slice A0_2 l0_2.length c0_2], .slice Ao107 y979.length co107, .agg #[.slice Ao108 x951000_1.length co108, .int .i64 x951001_1, .bool x951002_1]] (by rfl) rfl rfl z2 ?_
               with_reducible refine (ih k1 z21 _ _ l0_0 _ _ l0_1 _ _ l0_2 (fun k_ => (((P1_ k_ ∨ P2_0_ k_) ∨ w.heap.size ≤ k_) ∧ (k_ ≠ gb949 ∧ (k_ ≠ gb950 ∧ k_ ≠ gb951)))) _ _ y979 (fun k_ => ((((P1_ k_ ∨ P2_0_ k_) ∨ w.heap.size ≤ k_) ∧ (k_ ≠ gb949 ∧ (k_ ≠ gb950 ∧ k_ ≠ gb951))) ∧ some k_ ≠ (.slice Ao107 y979.length co107 : Value).ownBlock)) _ _ x951000_1 x951001_1 x951002_1 t982 t985 t986 _ ?side1 ?side2 ?side3 ?side4 ?side5 ?side6 ?side7 ?side8 A97.out).mono ?_
               (case side1 => exact zC (Kd.C_below HR0_0.out HB.out))
               (case side2 => exact HC0_0.out)
               (case side3 => exact zC (Kd.C_below HR0_1.out HB.out))
               (case side4 => exact HC0_1.out)
               (case side5 => exact zC (Kd.C_below HR0_2.out HB.out))
               (case side6 => exact HC0_2.out)
               (case side7 => exact Kd.N_V (HO981.out))
               (case side8 => exact HO_951000.out)
               rintro e w109 ⟨v983, rfl, ho0, hb⟩
               refine ⟨_, rfl, ?_⟩
               have HO984 := Aside0.mk (Kd.V_lower (Kd.V_mono (ok' := fun k_ => ((P1_ k_ ∨ P2_0_ k_) ∨ w.heap.size ≤ k_) ∧ k_ ≠ gb949 ∧ k_ ≠ gb950 ∧ k_ ≠ gb951) ho0 (fun k_ hk_ => ⟨Or.elim hk_ (fun hs_ => Or.elim hs_ (fun hs_ => hs_.1) (fun hs_ => hs_.1.1)) (fun hn_ => (.inr (Nat.le_trans (below_size (zH3 GE949.out GE950.out GE951.out)) hn_))), Or.elim hk_ (fun hs_ => Or.elim hs_ (fun hs_ => hs_.2.1) (fun hs_ => hs_.1.2.1)) (fun hn_ => (Kd.freshB (g := gb949) (o := .cells #[.slice A0_0 l0_0.length c0_0, .slice A0_1 l0_1.length c0_1, .slice A0_2 l0_2.length c0_2] 26 (0, 0)) (zB BK949.out) k_ hn_)), Or.elim hk_ (fun hs_ => Or.elim hs_ (fun hs_ => hs_.2.2.1) (fun hs_ => hs_.1.2.2.1)) (fun hn_ => (Kd.freshB (g := gb950) (o := .cells #[.slice Ao108 x951000_1.length co108, .int .i64 x951001_1, .bool x951002_1] 78 (0, 0)) (zB BK950.out) k_ hn_)), Or.elim hk_ (fun hs_ => Or.elim hs_ (fun hs_ => hs_.2.2.2) (fun hs_ => hs_.1.2.2.2)) (fun hn_ => (Kd.freshB (g := gb951) (o := .cells #[.slice none 0 0, .int .i64 0, .bool false] 78 (0, 0)) (zB BK951.out) k_ hn_))⟩)) (below_size (zH3 GE949.out GE950.out GE951.out)))
               replace HO_1 := zVb HO_1 hb
               replace HO_951000 := zVb HO_951000 hb
               replace HL963_0 := zVb HL963_0 hb
               replace HO981 := zNb HO981 hb
               replace BK949 := zb BK949 hb
               replace BK950 := zb BK950 hb
               replace BK951 := zb BK951 hb
               replace HB := zs3 GE949.out GE950.out GE951.out hb
               (try clear hb)
               (try clear hb2)
               (try clear hk)
               (try clear hi)
               (try clear ho0)
               obtain ⟨Ao110, co110, eo110⟩ := Kd.V_slice HO984.out
               (first | subst eo110 | (injection eo110 with f1_ f2_ f3_; have f4_ := f1_.symm; have f5_ := f3_.symm; clear f1_ f2_ f3_; subst f4_; subst f5_))
               refine hK.out _ _ ⟨(blk_cell BK949.out 0).trans rfl, (blk_cell BK949.out 1).trans rfl, (blk_cell BK949.out 2).trans rfl, (blk_cell BK950.out 0).trans rfl, (blk_cell BK950.out 1).trans rfl, (blk_cell BK950.out 2).trans rfl⟩ (fun hHeld => ?_)
               clear hK K
               refine zU (some 101) ?_
               refine last_ (i := 7) (N := none) #[true, true, true, true, true, true, true, true] rfl rfl (one_of HT_.out (by kernel_rfl)) (by decide) (fun K hK => ?_)
               have hs111 : w109.cell? ⟨gb950, 0, none⟩ = some (.slice Ao108 x951000_1.length co108) := (blk_cell BK950.out 0).trans rfl
               have hfs111 := blk_frozen BK950.out 0
               have hns111_0 := NB949_950.out
               have hns111_2 := NB951_950.out
               have hms111_0 := NB950_949.out
               have hms111_2 := NB950_951.out
               have hs112 : w109.cell? ⟨gb950, 1, none⟩ = some (.int .i64 x951001_1) := (blk_cell BK950.out 1).trans rfl
               have hfs112 := blk_frozen BK950.out 1
               have hns112_0 := NB949_950.out
               have hns112_2 := NB951_950.out
               have hms112_0 := NB950_949.out
               have hms112_2 := NB950_951.out
               have hs113 : w109.cell? ⟨gb950, 2, none⟩ = some (.bool x951002_1) := (blk_cell BK950.out 2).trans rfl
               have hfs113 := blk_frozen BK950.out 2
               have hns113_0 := NB949_950.out
               have hns113_2 := NB951_950.out
               have hms113_0 := NB950_949.out
               have hms113_2 := NB950_951.out
               refine skip_ (w1 := ?_) (by rfl) rfl ?_ ?_
               rotate_left
               · go_simp
                 rfl
               refine hK.out _ _ ?_
               clear hK K
               refine done_ (done_of HT_.out (by kernel_rfl)) ?_
               try go_wp2
               go_roundg k1
               case measure => have := HK1.out; omega
               case rel => exact ⟨(wrap64 (x12_1 + 1)), (t982), (t985), (t986), (.slice Ao110 t982.length co110), z3, H', ⟨z21⟩, ⟨(by (with_reducible repeat (first | apply Kd.V_alloc | apply Kd.V_drewN | apply Kd.V_drew)); exact Kd.V_mono (Kd.V_far (p := ⟨gb950, 2, none⟩) (Kd.V_far (p := ⟨gb950, 1, none⟩) (Kd.V_far (p := ⟨gb950, 0, none⟩) (Kd.V_mono HO_1.out (fun k_ hk => (⟨hk, hk.1.2.2.1⟩ : _ ∧ k_ ≠ gb950))) (fun _ hk => hk.2) (.slice Ao110 t982.length co110)) (fun _ hk => hk.2) (.int .i64 t985)) (fun _ hk => hk.2) (.bool t986)) (fun _ hk => ⟨hk.1.1.1, ⟨hk.1.1.2.1, ⟨hk.1.1.2.2.1, hk.1.1.2.2.2⟩⟩⟩))⟩, ⟨(by (with_reducible repeat (first | apply Kd.V_alloc | apply Kd.V_drewN | apply Kd.V_drew)); exact Kd.V_mono (Kd.V_far (p := ⟨gb950, 2, none⟩) (Kd.V_far (p := ⟨gb950, 1, none⟩) (Kd.V_far (p := ⟨gb950, 0, none⟩) (Kd.V_mono HO984.out (fun k_ hk => (⟨hk, hk.2.2.1⟩ : _ ∧ k_ ≠ gb950))) (fun _ hk => hk.2) (.slice Ao110 t982.length co110)) (fun _ hk => hk.2) (.int .i64 t985)) (fun _ hk => hk.2) (.bool t986)) (fun _ hk => ⟨hk.1.1, ⟨hk.1.2.1, ⟨hk.1.2.2.1, hk.1.2.2.2⟩⟩⟩))⟩, ⟨(by (with_reducible repeat (first | refine blk_drewN ?_ _ | refine blk_drew ?_ | refine blk_alloc ?_ _)); refine blk_far ?_ NB949_950.out _; (with_reducible repeat (first | refine blk_drewN ?_ _ | refine blk_drew ?_ | refine blk_alloc ?_ _)); refine blk_far ?_ NB949_950.out _; (with_reducible repeat (first | refine blk_drewN ?_ _ | refine blk_drew ?_ | refine blk_alloc ?_ _)); refine blk_far ?_ NB949_950.out _; (with_reducible repeat (first | refine blk_drewN ?_ _ | refine blk_drew ?_ | refine blk_alloc ?_ _)); exact BK949.out)⟩, ⟨(by (with_reducible repeat (first | refine blk_drewN ?_ _ | refine blk_drew ?_ | refine blk_alloc ?_ _)); refine blk_put (cs := #[.slice Ao110 t982.length co110, .int .i64 t985, .bool x951002_1]) ?_ 2 _ rfl; (with_reducible repeat (first | refine blk_drewN ?_ _ | refine blk_drew ?_ | refine blk_alloc ?_ _)); refine blk_put (cs := #[.slice Ao110 t982.length co110, .int .i64 x951001_1, .bool x951002_1]) ?_ 1 _ rfl; (with_reducible repeat (first | refine blk_drewN ?_ _ | refine blk_drew ?_ | refine blk_alloc ?_ _)); refine blk_put (cs := #[.slice Ao108 x951000_1.length co108, .int .i64 x951001_1, .bool x951002_1]) ?_ 0 _ rfl; (with_reducible repeat (first | refine blk_drewN ?_ _ | refine blk_drew ?_ | refine blk_alloc ?_ _)); exact BK950.out)⟩, ⟨(by (with_reducible repeat (first | refine blk_drewN ?_ _ | refine blk_drew ?_ | refine blk_alloc ?_ _)); refine blk_far ?_ NB951_950.out _; (with_reducible repeat (first | refine blk_drewN ?_ _ | refine blk_drew ?_ | refine blk_alloc ?_ _)); refine blk_far ?_ NB951_950.out _; (with_reducible repeat (first | refine blk_drewN ?_ _ | refine blk_drew ?_ | refine blk_alloc ?_ _)); refine blk_far ?_ NB951_950.out _; (with_reducible repeat (first | refine blk_drewN ?_ _ | refine blk_drew ?_ | refine blk_alloc ?_ _)); exact BK951.out)⟩, ⟨(zH3 GE949.out GE950.out GE951.out)⟩⟩
             · rw [if_neg c96] at H
               exact absurd H (by simp)
           · replace c95 := Bool.eq_false_iff.mpr c95
             subst c95
             have H1 : (spec_l7Try.l0 k1 l1 (wrap64 (x12_1 + 1)) l0_0 l0_1 l0_2 x951000_1 x951001_1 x951002_1) = some (r1, r2, r3) := by rw [if_neg (show ¬ (false = true) by decide)] at H; exact H
             clear H
             have H := H1
             clear H1
             have H' := Aside0.mk H
             clear H
             have hnb114 := NB949_950.out
             have hnc114 := NB950_949.out
             have hnb115 := NB949_951.out
             have hnc115 := NB951_949.out
             obtain ⟨hcz116_0, hcz116_1, hcz116_2, hfz116_0, hfz116_1, hfz116_2⟩ := zc3 BK949.out
             go_wp2_with (first | ((with_reducible refine gate_callee (f := 95) rfl ?_); refine goesL_ (some 84) rfl rfl Try.func95 (by kernel_rfl) rfl #[.int .i64 (l0_0.length : Int), .int .i64 x12_1] rfl z2 ?_; (with_reducible refine (spec_l2Bits.calls k1 (l0_0.length : Int) x12_1 t960 _ A73.out).mono ?_); rintro e w117 ⟨v961, rfl, ho0, hb⟩; refine ⟨_, rfl, ?_⟩; have HO962 := Aside0.mk (Kd.R_lower (Kd.R_newM (M := fun k_ => (w.heap.size ≤ k_)) ho0 (below_size (zH3 GE949.out GE950.out GE951.out)) (fun k_ h_ => h_)) (below_size (zH3 GE949.out GE950.out GE951.out))); replace HO_1 := zVe HO_1 (Kd.R_base ho0) hb; replace HO_951000 := zVe HO_951000 (Kd.R_base ho0) hb; replace BK949 := zb BK949 hb; replace BK950 := zb BK950 hb; replace BK951 := zb BK951 hb; replace HB := zs3 GE949.out GE950.out GE951.out hb; (try clear hb); (try clear hb2); (try clear hk); (try clear hi); (try clear ho0); have p963 : 0 ≤ (0 : Int) := (by omega); have q963 : 0 < (l1.length : Int) := of_decide_eq_true z1; obtain ⟨ad963, A963_0, c963_0, e963, hx963_0, hl963_0, hi963_0⟩ := at_L2 (Kd.V_reads' HO_1.out).2.2 0 p963 q963; cases e963; obtain ⟨ce963, hce963, hMe963, hcc963⟩ := Kd.V_get HO_1.out [] 0 p963 (by first | exact q963 | exact of_decide_eq_true z1 | (have e_ := (Kd.V_reads' HO_1.out).1; omega)); obtain ⟨ua963_0, uc963_0, rfl, ul963_0, ge963_0⟩ := Kd.FK_slice_open hMe963; have hv963_0 := hcc963 0 _ rfl; rw [Nat.add_zero, show ((Kd.slice 3 (Kd.int .i64))).sz = 1 from rfl, Nat.mul_one] at hv963_0; replace hv963_0 := Option.some.inj (hv963_0.symm.trans hx963_0); injection hv963_0 with hva_ hvn_ hvc_; rw [hva_] at ge963_0; rw [hvc_] at ul963_0; have HL963_0 := Aside0.mk (show Kd.V (Kd.int .i64) 3 _ w.heap.size _ _ (rd_L2 l1 0) from Kd.V_mk ul963_0 ge963_0); clear hva_ hvn_ hvc_ ge963_0 ul963_0; clear hcc963 hce963; have qi963 : (0 < l1.length) = True := eq_true (by omega); (try rw [show ((0 : Int)).toNat = 0 from rfl] at hx963_0); (try rw [Addr.add_zero'] at hx963_0); have HR963_0 := Aside0.mk hi963_0; have HC963_0 := Aside0.mk hl963_0; clear hi963_0 hl963_0; replace p963 := eq_true p963; replace q963 := eq_true q963; obtain ⟨Ao118, co118, eo118⟩ := Kd.R_slice HO962.out; subst eo118) | (go_at_call 114; (with_reducible refine (spec_l7Within.calls k1 _ _ t960 _ _ (rd_L2 l1 0) false _ ?side1 ?side2 ?side3 ?side4 A94.out).mono ?_); (case side1 => exact zC (Kd.R_reads' HO962.out).2.2); (case side2 => exact (Kd.R_reads' HO962.out).2.1); (case side3 => repeat (first | exact z26 | (with_reducible refine Kd.C_alloc ?_ _) | (with_reducible refine Kd.C_drewN ?_ _) | (with_reducible refine Kd.C_drew ?_))); (case side4 => exact HC963_0.out); rintro e w' ⟨rfl, ⟨nd, rfl⟩⟩))
             go_roundg k1
             case measure => have := HK1.out; omega
             case rel => exact ⟨(wrap64 (x12_1 + 1)), (x951000_1), (x951001_1), (x951002_1), (u951000), z3, H', ⟨z21⟩, ⟨(by (with_reducible repeat (first | apply Kd.V_alloc | apply Kd.V_drewN | apply Kd.V_drew)); exact Kd.V_mono HO_1.out (fun _ hk => ⟨hk.1.1, ⟨hk.1.2.1, ⟨hk.1.2.2.1, hk.1.2.2.2⟩⟩⟩))⟩, ⟨(by (with_reducible repeat (first | apply Kd.V_alloc | apply Kd.V_drewN | apply Kd.V_drew)); exact Kd.V_mono HO_951000.out (fun _ hk => ⟨hk.1.1, ⟨hk.1.2.1, ⟨hk.1.2.2.1, hk.1.2.2.2⟩⟩⟩))⟩, ⟨(zB BK949.out)⟩, ⟨(zB BK950.out)⟩, ⟨(zB BK951.out)⟩, ⟨(zH3 GE949.out GE950.out GE951.out)⟩⟩
         · rw [if_neg c93] at H
           exact absurd H (by simp)
     · rw [if_neg c72] at H
       have c72b0 : decide (x12_1 < (ji71)) = false := decide_eq_false c72
       clear c72
       simp only [Option.some.injEq, Prod.mk.injEq] at H
       obtain ⟨rfl, rfl, rfl⟩ := H
       have hnb119 := NB949_950.out
       have hnc119 := NB950_949.out
       have hnb120 := NB949_951.out
       have hnc120 := NB951_949.out
       obtain ⟨hcz121_0, hcz121_1, hcz121_2, hfz121_0, hfz121_1, hfz121_2⟩ := zc3 BK949.out
       have hnb122 := NB950_951.out
       have hnc122 := NB951_950.out
       obtain ⟨hcz123_0, hcz123_1, hcz123_2, hfz123_0, hfz123_1, hfz123_2⟩ := zc3 BK950.out
       obtain ⟨Ao124, co124, eo124⟩ := Kd.V_slice HO_951000.out
       subst eo124
       obtain ⟨hcz125_0, hcz125_1, hcz125_2, hfz125_0, hfz125_1, hfz125_2⟩ := zc3 BK951.out
       go_wp2
       refine bodyPost_ret (results_cell_row rfl _ _ gb951 78 #[.slice Ao124 x951000_1.length co124, .int .i64 x951001_1, .bool x951002_1] (0, 0) _ rfl (by (with_reducible repeat (first | refine blk_drewN ?_ _ | refine blk_drew ?_ | refine blk_alloc ?_ _)); refine blk_put (cs := #[.slice Ao124 x951000_1.length co124, .int .i64 x951001_1, .bool false]) ?_ 2 _ rfl; (with_reducible repeat (first | refine blk_drewN ?_ _ | refine blk_drew ?_ | refine blk_alloc ?_ _)); refine blk_put (cs := #[.slice Ao124 x951000_1.length co124, .int .i64 0, .bool false]) ?_ 1 _ rfl; (with_reducible repeat (first | refine blk_drewN ?_ _ | refine blk_drew ?_ | refine blk_alloc ?_ _)); refine blk_put (cs := #[.slice none 0 0, .int .i64 0, .bool false]) ?_ 0 _ rfl; (with_reducible repeat (first | refine blk_drewN ?_ _ | refine blk_drew ?_ | refine blk_alloc ?_ _)); exact BK951.out) Try.underlying78 rfl (by kernel_rfl)) rfl ?_
       exact ⟨_, (by first | rfl | (simp [errW_none, errW_some] <;> rfl) | (simp only [← hji71]; first | rfl | (simp [errW_none, errW_some] <;> rfl)) | (simp [*, errW_none, errW_some] <;> rfl)), (by (with_reducible repeat (first | apply Kd.V_alloc | apply Kd.V_drewN | apply Kd.V_drew)); exact Kd.V_mono (Kd.V_far (p := ⟨gb951, 2, none⟩) (Kd.V_far (p := ⟨gb951, 1, none⟩) (Kd.V_far (p := ⟨gb951, 0, none⟩) (Kd.V_mono HO_951000.out (fun k_ hk => (⟨hk, hk.2.2.2⟩ : _ ∧ k_ ≠ gb951))) (fun _ hk => hk.2) (.slice Ao124 x951000_1.length co124)) (fun _ hk => hk.2) (.int .i64 x951001_1)) (fun _ hk => hk.2) (.bool x951002_1)) (fun _ hk => hk.1.1)), (zH3 GE949.out GE950.out GE951.out)⟩
def spec_l1Own.f (l0 : List Int) : Option (List Int) := (some (([] : List Int) : List Int)).bind fun y987 => (if y987.length + l0.length < 17592186044416 then (some (y987 ++ l0)) else (none))
set_option maxHeartbeats 8000000 in
set_option maxRecDepth 100000 in
theorem spec_l1Own.calls (A0 : Option Addr) (c0 : Nat) (l0 : List Int) (r : List Int) (w : World) (hr0 : Kd.C (Kd.int .i64) w A0 l0.length l0) (hc0 : l0.length ≤ c0) (h : spec_l1Own.f l0 = some r) :
 Calls Try.prog 67 #[.slice A0 l0.length c0] w fun e w' => ∃ v0_ : Value, e = .returned (v0_) ∧ Kd.R (Kd.int .i64) 3 w' w.heap.size (fun _ => True) v0_ r ∧ Below w.heap.size w w' := by
 have HR0 := Aside0.mk hr0
 have HC0 := Aside0.mk hc0
 clear hr0 hc0
 have HB := Aside0.mk (Below.refl w.heap.size w)
 have H : ((some (([] : List Int) : List Int)).bind fun y987 => (if y987.length + l0.length < 17592186044416 then (some (y987 ++ l0)) else (none))) = some r := h
 clear h
 obtain ⟨y987, hy987⟩ : ∃ y_ : List Int, y_ = (([] : List Int)) := ⟨_, rfl⟩
 replace H : (if y987.length + l0.length < 17592186044416 then (some (y987 ++ l0)) else (none)) = some r := zY hy987
 have Ny987 := Aside0.mk hy987
 clear hy987
 by_cases c2 : y987.length + l0.length < 17592186044416
 · rw [if_pos c2] at H
   have LMc2 := Aside0.mk c2
   clear c2
   obtain ⟨y990, hy990⟩ : ∃ y_ : List Int, y_ = (y987 ++ l0) := ⟨_, rfl⟩
   replace H : (some y990) = some r := zY hy990
   have Ny990 := Aside0.mk hy990
   clear hy990
   obtain rfl := Option.some.inj H
   go_enter Try.func67, Try.ntmps67
   go_wp2_with (first | ((with_reducible refine gate_dst (N := 3) rfl ?_); refine Kd.R_lit (Kd.int .i64) _ 3 ?hg (N := 3) ?hd (xs := ([] : List Int)) (inner := []) (ok := fun _ => True) (okp := fun _ => True) ?hr ?hp (fun _ hk => hk) trivial (Below.refl _ _) (Nat.le_refl _) (by simp) ?_; (case hd => rfl); (case hg => rfl); (case hr => first | (go_simp; done) | (go_simp; rfl)); (case hp => exact (Reps.none _ _)); intro v988 w3 ho4 hb hg_ hnew_; clear hg_ hnew_; (first | rw [← Ny987.out] at ho4 | (simp only [Int.reduceToNat] at ho4; rw [← Ny987.out] at ho4)); have HO989 := Aside0.mk (Kd.R_lower ho4 (below_size zH0)); replace HB := zs0 hb; clear hb ho4) | ((with_reducible refine gate_builtin (b := .append) (xs := #[.tmp 3, .tmp 4]) rfl ?_); at_builtin; refine Kd.R_append_rows (Kd.int .i64) (w0 := w) w.heap.size rfl (.tmp 3) (.tmp 4) 24 3 (.int .i64 0) 8 rfl Try.underlying24 info3 rfl (by decide) (by omega) v988 y987 l0 _ _ _ (fun _ => True) (fun _ => False) rfl rfl ?aO ?aR (fun _ _ h => h) (fun _ h => h.elim) ?aF ?aB ?aS ?aL ?_; (case aR => exact zC (Kd.C_below HR0.out HB.out)); (case aB => exact zH0); (case aF => exact (fun _ _ => trivial)); (case aO => exact (zR HO989.out)); (case aS => exact (below_size zH0)); (case aL => have := LMc2.out; omega); intro v991 w5 ho hb hg hat; rw [← Ny990.out] at ho; have HO992 := Aside0.mk (ho); replace HB := Aside0.mk (hb); clear HO989; clear ho hb hg hat))
   go_ret
   exact ⟨_, z5, (zR HO992.out), zH0⟩
 · rw [if_neg c2] at H
   exact absurd H (by simp)
def spec_BestNested.l0 : Nat → List (List Int) → List (List Int) → Int → Option ((List (List Int)) × Bool)
 | 0, _, _, _ => none
 | k + 1, x4, x5, x6 => if x6 < (x4.length : Int) then (if 0 ≤ x6 then ((spec_l1Own.f (rd_L2 x4 x6)).bind fun t1010 => (if x5.length < 5864062014805 then (spec_BestNested.l0 k x4 (x5 ++ [t1010]) (wrap64 (x6 + 1))) else (none))) else (none)) else (some (x5, true))
def spec_BestNested.f (k : Nat) (l0_0 : List Int) (l0_1 : List Int) (l0_2 : List Int) : Option ((List (List Int)) × Bool) := (spec_l7Good.f k l0_0 l0_1 l0_2).bind fun t994 => (if t994 = true then ((spec_l7Try.f k l0_0 l0_1 l0_2 (([] : List (List Int))) ([] : List (List Int)) 0 false).bind fun bt1001 => (spec_BestNested.l0 k bt1001.1 (([] : List (List Int))) 0)) else (some ((([] : List (List Int))), false)))
theorem fldBN (a : Value) (b : Int) (c : Bool) (w : World) : Sem.run Try.prog (Instr.field 78 (.agg #[a, .int .i64 b, .bool c]) 0) w = .ok a w := by
 have hu78 := Try.underlying78
 have hu27 := Try.underlying27
 simp only [Instr.field, part, asAgg, isAgg]
 go_simp
attribute [local go_sem] fldBN
set_option maxHeartbeats 8000000 in
set_option maxRecDepth 100000 in
theorem spec_BestNested.calls (k : Nat) (A0_0 : Option Addr) (c0_0 : Nat) (l0_0 : List Int) (A0_1 : Option Addr) (c0_1 : Nat) (l0_1 : List Int) (A0_2 : Option Addr) (c0_2 : Nat) (l0_2 : List Int) (r1 : List (List Int)) (r2 : Bool) (w : World) (hr0_0 : Kd.C (Kd.int .i64) w A0_0 l0_0.length l0_0) (hc0_0 : l0_0.length ≤ c0_0) (hr0_1 : Kd.C (Kd.int .i64) w A0_1 l0_1.length l0_1) (hc0_1 : l0_1.length ≤ c0_1) (hr0_2 : Kd.C (Kd.int .i64) w A0_2 l0_2.length l0_2) (hc0_2 : l0_2.length ≤ c0_2) (h : spec_BestNested.f k l0_0 l0_1 l0_2 = some (r1, r2)) :
 Calls Try.prog 14 #[.agg #[.slice A0_0 l0_0.length c0_0, .slice A0_1 l0_1.length c0_1, .slice A0_2 l0_2.length c0_2]] w fun e w' => ∃ v0_ : Value, e = .returned (.tuple #[v0_, .bool r2]) ∧ Kd.S (Kd.slice 3 (Kd.int .i64)) 24 w' w.heap.size (fun _ => True) v0_ r1 ∧ Below w.heap.size w w' := by
 have hu26 := Try.underlying26
 have hu78 := Try.underlying78
 have HR0_0 := Aside0.mk hr0_0
 have HC0_0 := Aside0.mk hc0_0
 clear hr0_0 hc0_0
 have HR0_1 := Aside0.mk hr0_1
 have HC0_1 := Aside0.mk hc0_1
 clear hr0_1 hc0_1
 have HR0_2 := Aside0.mk hr0_2
 have HC0_2 := Aside0.mk hc0_2
 clear hr0_2 hc0_2
 have HB := Aside0.mk (Below.refl w.heap.size w)
 have H : ((spec_l7Good.f k l0_0 l0_1 l0_2).bind fun t994 => (if t994 = true then ((spec_l7Try.f k l0_0 l0_1 l0_2 (([] : List (List Int))) ([] : List (List Int)) 0 false).bind fun bt1001 => (spec_BestNested.l0 k bt1001.1 (([] : List (List Int))) 0)) else (some ((([] : List (List Int))), false)))) = some (r1, r2) := h
 clear h
 replace H := Option.bind_eq_some_iff.mp H
 obtain ⟨t994, A20, H⟩ := H
 replace H : (if t994 = true then ((spec_l7Try.f k l0_0 l0_1 l0_2 (([] : List (List Int))) ([] : List (List Int)) 0 false).bind fun bt1001 => (spec_BestNested.l0 k bt1001.1 (([] : List (List Int))) 0)) else (some ((([] : List (List Int))), false))) = some (r1, r2) := H
 have A2 := Aside0.mk A20
 clear A20
 by_cases c3 : t994 = true
 · subst c3
   have H1 : ((spec_l7Try.f k l0_0 l0_1 l0_2 (([] : List (List Int))) ([] : List (List Int)) 0 false).bind fun bt1001 => (spec_BestNested.l0 k bt1001.1 (([] : List (List Int))) 0)) = some (r1, r2) := by rw [if_pos rfl] at H; exact H
   clear H
   have H := H1
   clear H1
   obtain ⟨y998, hy998⟩ : ∃ y_ : List (List Int), y_ = (([] : List (List Int))) := ⟨_, rfl⟩
   replace H : ((spec_l7Try.f k l0_0 l0_1 l0_2 y998 ([] : List (List Int)) 0 false).bind fun bt1001 => (spec_BestNested.l0 k bt1001.1 (([] : List (List Int))) 0)) = some (r1, r2) := zY hy998
   have Ny998 := Aside0.mk hy998
   clear hy998
   replace H := Option.bind_eq_some_iff.mp H
   obtain ⟨⟨t1001, t1004, t1005⟩, A40, H⟩ := H
   replace H : (spec_BestNested.l0 k t1001 (([] : List (List Int))) 0) = some (r1, r2) := H
   have A4 := Aside0.mk A40
   clear A40
   obtain ⟨y1006, hy1006⟩ : ∃ y_ : List (List Int), y_ = (([] : List (List Int))) := ⟨_, rfl⟩
   replace H : (spec_BestNested.l0 k t1001 y1006 0) = some (r1, r2) := zY hy1006
   have Ny1006 := Aside0.mk hy1006
   clear hy1006
   have H' := Aside0.mk H
   clear H
   go_enter Try.func14, Try.ntmps14
   go_wp2_with (first | ((with_reducible refine gate_dst (N := 1) rfl ?_); refine box_event ?hg (N := 1) ?hd (cs := #[.slice A0_0 l0_0.length c0_0, .slice A0_1 l0_1.length c0_1, .slice A0_2 l0_2.length c0_2]) (t := 26) ?hr ?_; (case hd => rfl); (case hg => rfl); (case hr => first | (go_simp; done) | (go_simp; rfl)); intro gb993 hg w5 hbox hb; have BK993 := Aside0.mk (hbox); have GW993 := Aside0.mk ((z6 : w.heap.size ≤ gb993)); have GE993 := Aside0.mk ((z6 : w.heap.size ≤ gb993)); replace HB := zs0 hb; clear hb hbox hg; obtain ⟨hcz6_0, hcz6_1, hcz6_2, hfz6_0, hfz6_1, hfz6_2⟩ := zc3 BK993.out) | ((with_reducible refine gate_callee (f := 61) rfl ?_); refine goesL_ (some 8) rfl rfl Try.func61 (by kernel_rfl) rfl #[.agg #[.slice A0_0 l0_0.length c0_0, .slice A0_1 l0_1.length c0_1, .slice A0_2 l0_2.length c0_2]] rfl z2 ?_; (with_reducible refine (spec_l7Good.calls k _ _ l0_0 _ _ l0_1 _ _ l0_2 true _ ?side1 ?side2 ?side3 ?side4 ?side5 ?side6 A2.out).mono ?_); (case side1 => exact zC (Kd.C_below HR0_0.out HB.out)); (case side2 => exact HC0_0.out); (case side3 => exact zC (Kd.C_below HR0_1.out HB.out)); (case side4 => exact HC0_1.out); (case side5 => exact zC (Kd.C_below HR0_2.out HB.out)); (case side6 => exact HC0_2.out); rintro e w7 ⟨rfl, hb⟩; refine ⟨_, rfl, ?_⟩; replace BK993 := zb BK993 hb; replace HB := zs1 GE993.out hb; (try clear hb); (try clear hb2); (try clear hk); (try clear hi); obtain ⟨hcz8_0, hcz8_1, hcz8_2, hfz8_0, hfz8_1, hfz8_2⟩ := zc3 BK993.out) | ((with_reducible refine gate_dst (N := 12) rfl ?_); refine Kd.S_lit (Kd.slice 3 (Kd.int .i64)) _ 24 ?hg (N := 12) ?hd (xs := ([] : List (List Int))) (inner := []) (ok := fun _ => True) (okp := fun _ => True) ?hr ?hp (fun _ hk => hk) trivial (Below.refl _ _) (Nat.le_refl _) (by simp) ?_; (case hd => rfl); (case hg => rfl); (case hr => first | (go_simp; done) | (go_simp; rfl)); (case hp => exact (Reps.none _ _)); intro v999 w9 ho10 hb hg_ hnew_; clear hg_ hnew_; (first | rw [← Ny998.out] at ho10 | (simp only [Int.reduceToNat] at ho10; rw [← Ny998.out] at ho10)); have HO1000 := Aside0.mk (Kd.S_lower ho10 (below_size (zH1 GE993.out))); replace BK993 := zb BK993 hb; replace HB := zs1 GE993.out hb; clear hb ho10; obtain ⟨Ao11, co11, eo11⟩ := Kd.S_slice HO1000.out; subst eo11) | ((with_reducible refine gate_callee (f := 66) rfl ?_); refine goesL_ (some 14) rfl rfl Try.func66 (by kernel_rfl) rfl #[.agg #[.slice A0_0 l0_0.length c0_0, .slice A0_1 l0_1.length c0_1, .slice A0_2 l0_2.length c0_2], .slice Ao11 y998.length co11, .agg #[.slice none 0 0, .int .i64 0, .bool false]] rfl z2 ?_; (refine (spec_l7Try.calls k _ _ l0_0 _ _ l0_1 _ _ l0_2 (fun k_ => (True ∧ k_ ≠ gb993)) _ _ y998 (fun k_ => False) _ _ ([] : List (List Int)) 0 false t1001 t1004 t1005 _ ?side1 ?side2 ?side3 ?side4 ?side5 ?side6 ?side7 ?side8 A4.out).mono ?_); (case side1 => exact zC (Kd.C_below HR0_0.out HB.out)); (case side2 => exact HC0_0.out); (case side3 => exact zC (Kd.C_below HR0_1.out HB.out)); (case side4 => exact HC0_1.out); (case side5 => exact zC (Kd.C_below HR0_2.out HB.out)); (case side6 => exact HC0_2.out); (case side7 => exact Kd.S_V (Kd.S_types (HO1000.out) BK993.out (by decide))); (case side8 => exact Kd.V_nil _ _ _ _ _); rintro e w12 ⟨v1002, rfl, ho0, hb⟩; refine ⟨_, rfl, ?_⟩; have HO1003 := Aside0.mk (Kd.V_lower (Kd.V_mono (ok' := fun k_ => k_ ≠ gb993) ho0 (fun k_ hk_ => Or.elim hk_ (fun hs_ => Or.elim hs_ (fun hs_ => hs_.2) (fun hs_ => (hs_).elim)) (fun hn_ => (Kd.freshB (g := gb993) (o := .cells #[.slice A0_0 l0_0.length c0_0, .slice A0_1 l0_1.length c0_1, .slice A0_2 l0_2.length c0_2] 26 (0, 0)) (zB BK993.out) k_ hn_)))) (below_size (zH1 GE993.out))); replace HO1000 := zSb HO1000 hb; replace BK993 := zb BK993 hb; replace HB := zs1 GE993.out hb; (try clear hb); (try clear hb2); (try clear hk); (try clear hi); (try clear ho0)) | ((with_reducible refine gate_dst (N := 16) rfl ?_); refine Kd.S_lit (Kd.slice 3 (Kd.int .i64)) _ 24 ?hg (N := 16) ?hd (xs := ([] : List (List Int))) (inner := []) (ok := fun _ => True) (okp := fun _ => True) ?hr ?hp (fun _ hk => hk) trivial (Below.refl _ _) (Nat.le_refl _) (by simp) ?_; (case hd => rfl); (case hg => rfl); (case hr => first | (go_simp; done) | (go_simp; rfl)); (case hp => exact (Reps.none _ _)); intro v1007 w13 ho14 hb hg_ hnew_; clear hg_ hnew_; (first | rw [← Ny1006.out] at ho14 | (simp only [Int.reduceToNat] at ho14; rw [← Ny1006.out] at ho14)); have HO1008 := Aside0.mk (Kd.S_lower (Kd.S_new' ho14 (Kd.S_lt (zS HO1000.out))) (below_size (zH1 GE993.out))); replace HO1000 := zSe HO1000 (Kd.S_base ho14) hb; replace HO1003 := zVe HO1003 (Kd.S_base ho14) hb; replace BK993 := zb BK993 hb; replace HB := zs1 GE993.out hb; clear hb ho14))
   go_loopg [5, 6] k (fun kq v5 v6 w' => ∃ (x5_1 : List (List Int)) (x6_1 : Int), v6 = .int .i64 x6_1 ∧ Aside0 (spec_BestNested.l0 kq t1001 x5_1 x6_1 = some (r1, r2)) ∧ Aside0 (kq ≤ k) ∧ Aside0 (Kd.V (Kd.slice 3 (Kd.int .i64)) 24 w' w.heap.size (fun k_ => some k_ ≠ (v5 : Value).ownBlock ∧ k_ ≠ gb993) v1002 t1001) ∧ Aside0 (Kd.S (Kd.slice 3 (Kd.int .i64)) 24 w' w.heap.size (fun _ => True) v5 x5_1) ∧ Aside0 (w'.heap[gb993]? = some (.cells #[(.slice A0_0 l0_0.length c0_0), (.slice A0_1 l0_1.length c0_1), (.slice A0_2 l0_2.length c0_2)] 26 (0, 0))) ∧ Aside0 (Below w.heap.size w w'))
   case atStart => exact ⟨(y1006), (0), z3, H', ⟨Nat.le_refl _⟩, ⟨(by (with_reducible repeat (first | apply Kd.V_alloc | apply Kd.V_drewN | apply Kd.V_drew)); exact Kd.V_mono HO1003.out (fun _ hk => ⟨hk.2, hk.1⟩))⟩, ⟨(by (with_reducible repeat (first | apply Kd.S_alloc | apply Kd.S_drewN | apply Kd.S_drew)); exact Kd.S_mono HO1008.out (fun _ hk => trivial))⟩, ⟨(zB BK993.out)⟩, ⟨(zH1 GE993.out)⟩⟩
   case round =>
    clear H'
    try clear c1
    try clear p2
    try clear c3
    try clear c6
    try clear c14
    try clear hcz6_0
    try clear hcz6_1
    try clear hcz6_2
    try clear hcz8_0
    try clear hcz8_1
    try clear hcz8_2
    try clear hfz6_0
    try clear hfz6_1
    try clear hfz6_2
    try clear hfz8_0
    try clear hfz8_1
    try clear hfz8_2
    obtain ⟨x5_1, x6_1, rfl, HA, HK1, HO_4, HO_5, BK993, HB⟩ := hrel
    cases gk with
    | zero => exact absurd HA.out (by simp [spec_BestNested.l0])
    | succ k1 =>
     have H := HA.out
     clear HA
     simp only [spec_BestNested.l0] at H
     by_cases c15 : x6_1 < (t1001.length : Int)
     · rw [if_pos c15] at H
       have c15b0 : decide (x6_1 < (t1001.length : Int)) = true := decide_eq_true c15
       clear c15
       by_cases c16 : 0 ≤ x6_1
       · rw [if_pos c16] at H
         have c16b0 : decide (0 ≤ x6_1) = true := decide_eq_true c16
         clear c16
         replace H := Option.bind_eq_some_iff.mp H
         obtain ⟨t1010, A170, H⟩ := H
         replace H : (if x5_1.length < 5864062014805 then (spec_BestNested.l0 k1 t1001 (x5_1 ++ [t1010]) (wrap64 (x6_1 + 1))) else (none)) = some (r1, r2) := H
         have A17 := Aside0.mk A170
         clear A170
         by_cases c18 : x5_1.length < 5864062014805
         · rw [if_pos c18] at H
           have LMc18 := Aside0.mk c18
           clear c18
           obtain ⟨y1013, hy1013⟩ : ∃ y_ : List (List Int), y_ = (x5_1 ++ [t1010]) := ⟨_, rfl⟩
           replace H : (spec_BestNested.l0 k1 t1001 y1013 (wrap64 (x6_1 + 1))) = some (r1, r2) := zY hy1013
           have Ny1013 := Aside0.mk hy1013
           clear hy1013
           have H' := Aside0.mk H
           clear H
           obtain ⟨Ao19, co19, eo19⟩ := Kd.V_slice HO_4.out
           subst eo19
           have p1009 : 0 ≤ (x6_1 : Int) := of_decide_eq_true z1
           have q1009 : x6_1 < (t1001.length : Int) := of_decide_eq_true z1
           obtain ⟨ad1009, A1009_0, c1009_0, e1009, hx1009_0, hl1009_0, hi1009_0⟩ := at_L2 (Kd.V_reads' HO_4.out).2.2 x6_1 p1009 q1009
           cases e1009
           obtain ⟨ce1009, hce1009, hMe1009, hcc1009⟩ := Kd.V_get HO_4.out [] x6_1 p1009 (by first | exact q1009 | exact of_decide_eq_true z1 | (have e_ := (Kd.V_reads' HO_4.out).1; omega))
           obtain ⟨ua1009_0, uc1009_0, rfl, ul1009_0, ge1009_0⟩ := Kd.FK_slice_open hMe1009
           have hv1009_0 := hcc1009 0 _ rfl
           rw [Nat.add_zero, show ((Kd.slice 3 (Kd.int .i64))).sz = 1 from rfl, Nat.mul_one] at hv1009_0
           replace hv1009_0 := Option.some.inj (hv1009_0.symm.trans hx1009_0)
           injection hv1009_0 with hva_ hvn_ hvc_
           rw [hva_] at ge1009_0
           rw [hvc_] at ul1009_0
           have HL1009_0 := Aside0.mk (show Kd.V (Kd.int .i64) 3 _ w.heap.size _ _ (rd_L2 t1001 x6_1) from Kd.V_mk ul1009_0 ge1009_0)
           clear hva_ hvn_ hvc_ ge1009_0 ul1009_0
           clear hcc1009 hce1009
           have HR1009_0 := Aside0.mk hi1009_0
           have HC1009_0 := Aside0.mk hl1009_0
           clear hi1009_0 hl1009_0
           replace p1009 := eq_true p1009
           replace q1009 := eq_true q1009
           go_wp2_with (first | ((with_reducible refine gate_callee (f := 67) rfl ?_); refine goesL_ (some 28) rfl rfl Try.func67 (by kernel_rfl) rfl #[.slice A1009_0 (rd_L2 t1001 x6_1).length c1009_0] rfl z2 ?_; (with_reducible refine (spec_l1Own.calls _ _ (rd_L2 t1001 x6_1) t1010 _ ?side1 ?side2 A17.out).mono ?_); (case side1 => repeat (first | exact (by repeat (first | (with_reducible exact HR1009_0.out) | (with_reducible refine Kd.C_alloc ?_ _) | (with_reducible refine Kd.C_drewN ?_ _) | (with_reducible refine Kd.C_drew ?_) | exact HR1009_0.out)) | (with_reducible refine Kd.C_alloc ?_ _) | (with_reducible refine Kd.C_drewN ?_ _) | (with_reducible refine Kd.C_drew ?_))); (case side2 => exact HC1009_0.out); rintro e w20 ⟨v1011, rfl, ho0, hb⟩; refine ⟨_, rfl, ?_⟩; have HO1012 := Aside0.mk (Kd.R_lower ho0 (below_size (zH1 GE993.out))); replace HO_4 := zVe HO_4 (Kd.R_base ho0) hb; replace HO_5 := zSe HO_5 (Kd.R_base ho0) hb; replace HL1009_0 := zVe HL1009_0 (Kd.R_base ho0) hb; replace BK993 := zb BK993 hb; replace HR1009_0 := Aside0.mk (Kd.C_below (by repeat (first | (with_reducible exact HR1009_0.out) | (with_reducible refine Kd.C_alloc ?_ _) | (with_reducible refine Kd.C_drewN ?_ _) | (with_reducible refine Kd.C_drew ?_) | exact HR1009_0.out)) hb); replace HB := zs1 GE993.out hb; (try clear hb); (try clear hb2); (try clear hk); (try clear hi); (try clear ho0); obtain ⟨Ao22, co22, eo22⟩ := Kd.R_slice HO1012.out; subst eo22) | ((with_reducible refine gate_builtin (b := .append) (xs := #[.tmp 23, .tmp 29]) rfl ?_); at_builtin; refine Kd.S_append (Kd.slice 3 (Kd.int .i64)) (w0 := w) w.heap.size rfl (.tmp 23) (.tmp 29) 27 24 (.slice none 0 0) 24 rfl Try.underlying27 info24 rfl (by decide) (by omega) u5 x5_1 t1010 [.slice Ao22 t1010.length co22] (fun _ => True) (fun k_ => some k_ = (.slice Ao22 t1010.length co22 : Value).ownBlock) rfl rfl ?aP (fun k_ hk_ => ((Kd.R_mono (ok' := fun k_ => ((fun _ => True)) k_ ∧ some k_ ≠ (u5 : Value).ownBlock) (Kd.R_apart' (HO1012.out) (Kd.S_typed HO_5.out) (by decide)) (fun k_ hk => ⟨trivial, hk.2⟩))).1 k_ hk_.symm) ?aF ?aO ?aB ?aS ?aL ?_; (case aP => exact Kd.M_row (Kd.R_mono (Kd.R_tight rfl (Kd.R_mono (ok' := fun k_ => ((fun _ => True)) k_ ∧ some k_ ≠ (u5 : Value).ownBlock) (Kd.R_apart' (HO1012.out) (Kd.S_typed HO_5.out) (by decide)) (fun k_ hk => ⟨trivial, hk.2⟩))) (fun _ h_ => h_))); (case aB => exact (zH1 GE993.out)); (case aF => exact (fun _ _ => trivial)); (case aO => exact (by (with_reducible repeat (first | apply Kd.S_alloc | apply Kd.S_drewN | apply Kd.S_drew)); exact Kd.S_mono HO_5.out (fun k_ hk => ⟨trivial, fun e_ => hk.2 e_⟩))); (case aS => exact (below_size (zH1 GE993.out))); (case aL => have := LMc18.out; omega); intro v1014 w21 ho hb hg hat; rw [← Ny1013.out] at ho; have HO1015 := Aside0.mk (ho); replace HO_4 := Aside0.mk (Kd.V_afterv (ok := (fun k_ => some k_ ≠ (.slice Ao22 t1010.length co22 : Value).ownBlock ∧ k_ ≠ gb993)) (by (with_reducible repeat (first | apply Kd.V_alloc | apply Kd.V_drewN | apply Kd.V_drew)); exact Kd.V_mono HO_4.out (fun _ hk => ⟨⟨hk.2, hk.1.2⟩, hk.1.1⟩)) hg hat); replace BK993 := Aside0.mk (blk_grown (g := gb993) (o := .cells #[.slice A0_0 l0_0.length c0_0, .slice A0_1 l0_1.length c0_1, .slice A0_2 l0_2.length c0_2] 26 (0, 0)) (zB BK993.out) hg (Kd.S_ne HO_5.out BK993.out (by decide))); replace HL1009_0 := Aside0.mk (Kd.V_afterv (ok := (fun k_ => some k_ ≠ (.slice Ao22 t1010.length co22 : Value).ownBlock ∧ k_ ≠ gb993)) (by (with_reducible repeat (first | apply Kd.V_alloc | apply Kd.V_drewN | apply Kd.V_drew)); exact Kd.V_mono HL1009_0.out (fun _ hk => ⟨⟨hk.2, hk.1.2⟩, hk.1.1⟩)) hg hat); replace HB := Aside0.mk (hb); clear HO_5 HO1012; clear ho hb hg hat))
           go_roundg k1
           case measure => have := HK1.out; omega
           case rel => exact ⟨(y1013), (wrap64 (x6_1 + 1)), z3, H', ⟨z21⟩, ⟨(by (with_reducible repeat (first | apply Kd.V_alloc | apply Kd.V_drewN | apply Kd.V_drew)); exact Kd.V_mono HO_4.out (fun _ hk => ⟨hk.2, hk.1.2⟩))⟩, ⟨(zS HO1015.out)⟩, ⟨(zB BK993.out)⟩, ⟨(zH1 GE993.out)⟩⟩
         · rw [if_neg c18] at H
           exact absurd H (by simp)
       · rw [if_neg c16] at H
         exact absurd H (by simp)
     · rw [if_neg c15] at H
       have c15b0 : decide (x6_1 < (t1001.length : Int)) = false := decide_eq_false c15
       clear c15
       simp only [Option.some.injEq, Prod.mk.injEq] at H
       obtain ⟨rfl, rfl⟩ := H
       obtain ⟨Ao23, co23, eo23⟩ := Kd.V_slice HO_4.out
       subst eo23
       go_wp2
       go_ret2
       exact ⟨_, z5, (zS HO_5.out), (zH1 GE993.out)⟩
 · replace c3 := Bool.eq_false_iff.mpr c3
   subst c3
   have H1 : (some ((([] : List (List Int))), false)) = some (r1, r2) := by rw [if_neg (show ¬ (false = true) by decide)] at H; exact H
   clear H
   have H := H1
   clear H1
   obtain ⟨y995, hy995⟩ : ∃ y_ : List (List Int), y_ = (([] : List (List Int))) := ⟨_, rfl⟩
   replace H : (some (y995, false)) = some (r1, r2) := zY hy995
   have Ny995 := Aside0.mk hy995
   clear hy995
   simp only [Option.some.injEq, Prod.mk.injEq] at H
   obtain ⟨rfl, rfl⟩ := H
   go_enter Try.func14, Try.ntmps14
   go_wp2_with (first | ((with_reducible refine gate_dst (N := 1) rfl ?_); refine box_event ?hg (N := 1) ?hd (cs := #[.slice A0_0 l0_0.length c0_0, .slice A0_1 l0_1.length c0_1, .slice A0_2 l0_2.length c0_2]) (t := 26) ?hr ?_; (case hd => rfl); (case hg => rfl); (case hr => first | (go_simp; done) | (go_simp; rfl)); intro gb993 hg w24 hbox hb; have BK993 := Aside0.mk (hbox); have GW993 := Aside0.mk ((z6 : w.heap.size ≤ gb993)); have GE993 := Aside0.mk ((z6 : w.heap.size ≤ gb993)); replace HB := zs0 hb; clear hb hbox hg; obtain ⟨hcz25_0, hcz25_1, hcz25_2, hfz25_0, hfz25_1, hfz25_2⟩ := zc3 BK993.out) | ((with_reducible refine gate_callee (f := 61) rfl ?_); refine goesL_ (some 8) rfl rfl Try.func61 (by kernel_rfl) rfl #[.agg #[.slice A0_0 l0_0.length c0_0, .slice A0_1 l0_1.length c0_1, .slice A0_2 l0_2.length c0_2]] rfl z2 ?_; (with_reducible refine (spec_l7Good.calls k _ _ l0_0 _ _ l0_1 _ _ l0_2 false _ ?side1 ?side2 ?side3 ?side4 ?side5 ?side6 A2.out).mono ?_); (case side1 => exact zC (Kd.C_below HR0_0.out HB.out)); (case side2 => exact HC0_0.out); (case side3 => exact zC (Kd.C_below HR0_1.out HB.out)); (case side4 => exact HC0_1.out); (case side5 => exact zC (Kd.C_below HR0_2.out HB.out)); (case side6 => exact HC0_2.out); rintro e w26 ⟨rfl, hb⟩; refine ⟨_, rfl, ?_⟩; replace BK993 := zb BK993 hb; replace HB := zs1 GE993.out hb; (try clear hb); (try clear hb2); (try clear hk); (try clear hi)) | ((with_reducible refine gate_dst (N := 10) rfl ?_); refine Kd.S_lit (Kd.slice 3 (Kd.int .i64)) _ 24 ?hg (N := 10) ?hd (xs := ([] : List (List Int))) (inner := []) (ok := fun _ => True) (okp := fun _ => True) ?hr ?hp (fun _ hk => hk) trivial (Below.refl _ _) (Nat.le_refl _) (by simp) ?_; (case hd => rfl); (case hg => rfl); (case hr => first | (go_simp; done) | (go_simp; rfl)); (case hp => exact (Reps.none _ _)); intro v996 w27 ho28 hb hg_ hnew_; clear hg_ hnew_; (first | rw [← Ny995.out] at ho28 | (simp only [Int.reduceToNat] at ho28; rw [← Ny995.out] at ho28)); have HO997 := Aside0.mk (Kd.S_lower ho28 (below_size (zH1 GE993.out))); replace BK993 := zb BK993 hb; replace HB := zs1 GE993.out hb; clear hb ho28))
   go_ret2
   exact ⟨_, z5, (zS HO997.out), (zH1 GE993.out)⟩
end Go.Proofs.Ythlmmcmpllgflaa.P
namespace Go.Proofs.Ythlmmcmpllgflaa.P
open Go.RowKit Go.Proofs.YthlmmcmpllgflaaW.PrintWords Go.Proofs.YthlmmcmpllgflaaW.PrintLast Go.Proofs.YthlmmcmpllgflaaW.PrintMore ChainMath
theorem l1Has_l0 (l : List Int) (x : Int) (hl : l.length < 4611686018427387904) : ∀ d i, i + d = l.length → Ev (fun k => spec_l1Has.l0 k l x (i : Int)) ((l.drop i).any fun y => decide (y = x))
  | 0, i, h => by
    refine Ev.step (fun k => spec_l1Has.l0.eq_2 ..) ?_
    refine Ev.neg (by omega) ((Ev.now _).to ?_)
    rw [List.drop_of_length_le (by omega)]; rfl
  | d + 1, i, h => by
    refine Ev.step (fun k => spec_l1Has.l0.eq_2 ..) ?_
    refine Ev.pos (by omega) (Ev.pos (by omega) ?_)
    rw [drop_cons l 0 (by omega), List.any_cons, rd_nat]
    by_cases he : l.getD i 0 = x
    · exact Ev.pos he ((Ev.now _).to (by rw [decide_eq_true he]; rfl))
    · refine Ev.neg he ?_
      rw [wrS (by omega), decide_eq_false he, Bool.false_or]; exact l1Has_l0 l x hl d (i + 1) (by omega)
theorem l1Has_ev (l : List Int) (x : Int) (hl : l.length < 4611686018427387904) : Ev (fun k => spec_l1Has.f k l x) (l.any fun y => decide (y = x)) := by
  unfold spec_l1Has.f
  exact (l1Has_l0 l x hl l.length 0 (by omega)).to (by simp)
theorem l7Within_l0 (a b : List Int) (ha : a.length < 4611686018427387904) (hb : b.length < 4611686018427387904) : ∀ d i, i + d = a.length → Ev (fun k => spec_l7Within.l0 k a b (i : Int)) ((a.drop i).all fun x => b.any fun y => decide (y = x))
  | 0, i, h => by
    refine Ev.step (fun k => spec_l7Within.l0.eq_2 ..) ?_
    refine Ev.neg (by omega) ((Ev.now _).to ?_)
    rw [List.drop_of_length_le (by omega)]; rfl
  | d + 1, i, h => by
    refine Ev.step (fun k => spec_l7Within.l0.eq_2 ..) ?_
    refine Ev.pos (by omega) (Ev.pos (by omega) ?_)
    rw [drop_cons a 0 (by omega), List.all_cons, rd_nat]
    refine Ev.bind (l1Has_ev b _ hb) ?_
    cases hx : b.any fun y => decide (y = a.getD i 0) with
    | true => refine Ev.pos rfl ?_; rw [wrS (by omega), Bool.true_and]; exact l7Within_l0 a b ha hb d (i + 1) (by omega)
    | false => exact Ev.neg (by simp) ((Ev.now _).to (by simp))
theorem l7Within_ev (a b : List Int) (ha : a.length < 4611686018427387904) (hb : b.length < 4611686018427387904) : Ev (fun k => spec_l7Within.f k a b) (a.all fun x => b.any fun y => decide (y = x)) := by
  unfold spec_l7Within.f
  exact (l7Within_l0 a b ha hb a.length 0 (by omega)).to (by simp)
theorem per_rise (O : Nat → Bool) (n : Nat) : ∀ i, i < (per O n).length → (0 ≤ (per O n).getD i 0 ∧ (per O n).getD i 0 < n) ∧ (0 < i → (per O n).getD (i - 1) 0 < (per O n).getD i 0) := by
  have hp : (perN O n).Pairwise (· < ·) := List.Pairwise.filter _ List.pairwise_lt_range
  intro i hi
  have hl : (per O n).length = (perN O n).length := by unfold per; simp
  have g : ∀ j, j < (per O n).length → ∃ h : j < (perN O n).length, (per O n).getD j 0 = ((perN O n)[j] : Int) := by
    intro j hj
    refine ⟨(by omega), ?_⟩
    unfold per
    rw [List.getD_eq_getElem?_getD, List.getElem?_map, List.getElem?_eq_getElem (by omega)]; rfl
  obtain ⟨h1, e1⟩ := g i hi
  have hm : (perN O n)[i] ∈ perN O n := List.getElem_mem h1
  have hlt : (perN O n)[i] < n := by
    unfold perN at hm; exact List.mem_range.1 (List.mem_filter.1 hm).1
  refine ⟨(by rw [e1]; omega), fun h0 => ?_⟩
  obtain ⟨h2, e2⟩ := g (i - 1) (by omega)
  have := List.pairwise_iff_getElem.1 hp (i - 1) i h2 h1 (by omega)
  rw [e1, e2]; omega
theorem l1Rising_l0 (O : Nat → Bool) (n : Nat) (hn : n ≤ 1000) : ∀ d i, i + d = (per O n).length → Ev (fun k => spec_l1Rising.l0 k (per O n) 0 ((n : Int) - 1) (i : Int)) true
  | 0, i, h => by
    refine Ev.step (fun k => spec_l1Rising.l0.eq_2 ..) ?_
    exact Ev.neg (by omega) (Ev.now _)
  | d + 1, i, h => by
    have hr := per_rise O n i (by omega)
    have hl := per_len_le O n
    have hj : Ev (fun k => spec_l1Rising.j1 k (per O n) 0 ((n : Int) - 1) (i : Int) false) true := by
      refine Ev.step (fun k => spec_l1Rising.j1.eq_2 ..) (Ev.neg (by simp) ?_)
      rw [wrS (by omega)]; exact l1Rising_l0 O n hn d (i + 1) (by omega)
    refine Ev.step (fun k => spec_l1Rising.l0.eq_2 ..) ?_
    refine Ev.pos (by omega) (Ev.pos (by omega) (Ev.bind (Ev.const (l1In_eq _ _ _)) ?_))
    rw [rd_nat]
    refine Ev.pos (by unfold inB; simp only [decide_eq_true_eq]; omega) ?_
    by_cases h0 : (i : Int) > 0
    · have e : wrap64 ((i : Int) - 1) = ((i - 1 : Nat) : Int) := by rw [wr (by omega) (by omega)]; omega
      rw [e, rd_nat]
      refine Ev.pos h0 (Ev.pos (by omega) (Ev.pos (by omega) ?_))
      have := hr.2 (by omega)
      rw [decide_eq_false (by omega)]; exact hj
    · exact Ev.neg h0 hj
theorem l1Rising_ev (O : Nat → Bool) (n : Nat) (hn : n ≤ 1000) : Ev (fun k => spec_l1Rising.f k (per O n) 0 ((n : Int) - 1)) true := by
  unfold spec_l1Rising.f
  exact l1Rising_l0 O n hn (per O n).length 0 (by omega)
theorem getL (Os : List (Nat → Bool)) (n : Nat) {s : Nat} (h : s < Os.length) : (Os.map fun O => per O n).getD s [] = per Os[s] n := by
  rw [List.getD_eq_getElem?_getD, List.getElem?_map, List.getElem?_eq_getElem h]; rfl
theorem l7Periods_l0 (need setup hold : List Int) (Os : List (Nat → Bool)) (hO : Nest Os) (hn : need.length ≤ 1000) (hl : Os.length ≤ 1000) (hm : Os.length = setup.length) : ∀ d i, i + d = Os.length →
    Ev (fun k => spec_l7Periods.l0 k (Os.map fun O => per O need.length) (i : Int) need setup hold) true
  | 0, i, h => by
    refine Ev.step (fun k => spec_l7Periods.l0.eq_2 ..) ?_
    refine Ev.neg (by simp; omega) ((Ev.now _).to ?_)
    rw [List.length_map, hm]; simp
  | d + 1, i, h => by
    have hi : i < Os.length := by omega
    have ih := l7Periods_l0 need setup hold Os hO hn hl hm d (i + 1) (by omega)
    have hl0 := per_len_le Os[i] need.length
    refine Ev.step (fun k => spec_l7Periods.l0.eq_2 ..) ?_
    rw [wr (n := (need.length : Int) - 1) (by omega) (by omega), rdL_nat, getL Os _ hi, wrS (by omega)]
    refine Ev.pos z44 (Ev.pos (by omega) (Ev.bind (l1Rising_ev Os[i] need.length hn) (Ev.pos rfl ?_)))
    by_cases h0 : (i : Int) > 0
    · have e : wrap64 ((i : Int) - 1) = ((i - 1 : Nat) : Int) := by rw [wr (by omega) (by omega)]; omega
      rw [e, rdL_nat, getL Os _ (show i - 1 < Os.length by omega)]
      have hl1 := per_len_le Os[i - 1] need.length
      refine Ev.pos h0 (Ev.pos (by omega) (Ev.pos z44 (Ev.bind ((l7Within_ev _ _ (by omega) (by omega)).to ?_) (Ev.pos rfl ih))))
      refine sub_iff.2 fun t _ ho => ?_
      have h4 := hO (i - 1) t (by omega) ho
      have h5 : ∀ j (hj : j < Os.length), j = i → Os[j] t = true → Os[i] t = true := by intro j hj e; subst e; exact id
      exact h5 _ (by omega) (by omega) h4
    · exact Ev.neg h0 ih
theorem l7Periods_ev (need setup hold : List Int) (Os : List (Nat → Bool)) (hO : Nest Os) (hn : need.length ≤ 1000) (hl : Os.length ≤ 1000) (hm : Os.length = setup.length) :
    Ev (fun k => spec_l7Periods.f k need setup hold (Os.map fun O => per O need.length)) true := by
  unfold spec_l7Periods.f
  exact l7Periods_l0 need setup hold Os hO hn hl hm Os.length 0 (by omega)
theorem l7Fed_l0 (need : List Int) (O : Nat → Bool) (hl : need.length ≤ 1000) (hn : ∀ x ∈ need, 0 ≤ x ∧ x ≤ 1000000) : ∀ d i, i + d = need.length → dsum need i = 0 →
    Ev (fun k => spec_l7Fed.l0 k need (per O need.length) (i : Int)) (decide (cover need O))
  | 0, i, h, h2 => by
    refine Ev.step (fun k => spec_l7Fed.l0.eq_2 ..) ?_
    refine Ev.neg (by omega) ((Ev.now _).to ?_)
    symm; rw [decide_eq_true_eq]; unfold cover
    have h3 := nxt_le O (n := need.length) (t := 0) (by omega)
    have h4 := dsum_mono need (fun x hx => (hn x hx).1) _ _ h3 (Nat.le_refl _)
    have h5 := dsum_bound need 1000000 hn _ h3
    rw [show i = need.length by omega] at h2; omega
  | d + 1, i, h, h2 => by
    have hi : i < need.length := by omega
    have hx := hn _ (getD_mem need hi)
    refine Ev.step (fun k => spec_l7Fed.l0.eq_2 ..) ?_
    refine Ev.pos (by omega) (Ev.pos (by omega) ?_)
    rw [rd_nat]
    by_cases hp : need.getD i 0 > 0
    · refine Ev.pos hp ?_
      have hc : cover need O ↔ nxt O need.length 0 ≤ i := by
        unfold cover
        have h3 := nxt_le O (n := need.length) (t := 0) (by omega)
        constructor
        · intro hc
          apply Classical.byContradiction; intro hcc
          have h4 := dsum_mono need (fun x hx => (hn x hx).1) (i + 1) (nxt O need.length 0) (by omega) h3
          rw [dsum_succ need hi] at h4; omega
        · intro hc
          have h4 := dsum_mono need (fun x hx => (hn x hx).1) _ i hc (by omega)
          have h5 := dsum_bound need 1000000 hn _ h3
          omega
      rw [per_len]
      by_cases h0 : 0 < cnt O need.length
      · obtain ⟨f1, f2⟩ := first_order O h0
        refine Ev.pos (by omega) (Ev.pos (by omega) ((Ev.now _).to ?_))
        have e : rd (per O need.length) 0 = (nxt O need.length 0 : Int) := f1
        rw [e, decide_eq_decide, hc]; omega
      · refine Ev.neg (by omega) ((Ev.now _).to ?_)
        symm; rw [decide_eq_false_iff_not, hc, no_order O (by omega)]; omega
    · refine Ev.neg hp ?_
      rw [wrS (by omega)]
      exact l7Fed_l0 need O hl hn d (i + 1) (by omega) (by rw [dsum_succ need hi]; omega)
theorem l7Fed_ev (need : List Int) (O : Nat → Bool) (hl : need.length ≤ 1000) (hn : ∀ x ∈ need, 0 ≤ x ∧ x ≤ 1000000) : Ev (fun k => spec_l7Fed.f k need (per O need.length)) (decide (cover need O)) := by
  unfold spec_l7Fed.f
  exact l7Fed_l0 need O hl hn need.length 0 (by omega) (dsum_zero _)
theorem l7Row_l0 (need : List Int) (O : Nat → Bool) (hl : need.length ≤ 1000) (hn : ∀ x ∈ need, 0 ≤ x ∧ x ≤ 1000000) : ∀ d i, i + d = need.length →
    Ev (fun k => spec_l7Row.l0 k need (per O need.length) (ahead need O i) (cnt O i : Int)) (planOf need O)
  | 0, i, h => by
    have hi : i = need.length := by omega
    subst hi
    refine Ev.step (fun k => spec_l7Row.l0.eq_2 ..) ?_
    rw [per_len]
    exact Ev.neg (by omega) ((Ev.now _).to (ahead_n need O))
  | d + 1, i, h => by
    have hi : i < need.length := by omega
    have ih := l7Row_l0 need O hl hn d (i + 1) (by omega)
    have hci := cnt_le_self O i
    by_cases ho : O i = true
    · have hlt : cnt O i < cnt O need.length := by have := cnt_mono O (show i + 1 ≤ need.length from hi); simp only [cnt, ho, if_true] at this; omega
      have hcs : cnt O (i + 1) = cnt O i + 1 := by simp [cnt, ho]
      have hno := next_order O hi ho
      have hge := nxt_ge O need.length (i + 1); have hle := nxt_le O (n := need.length) (t := i + 1) (by omega)
      have hsum := l2Sum_part need hl hn (a := i) (b := nxt O need.length (i + 1)) (by omega) hle
      rw [hcs, ← ahead_set need O hi ho] at ih
      refine Ev.step (fun k => spec_l7Row.l0.eq_2 ..) ?_
      rw [per_len, wrS (by omega), rd_nat, rd_nat, per_get O hi ho, ahead_len]
      refine Ev.pos (by omega) ?_
      by_cases hc : cnt O i + 1 < cnt O need.length
      · rw [if_pos hc] at hno
        rw [hno]
        refine Ev.pos (by omega) (Ev.pos (by omega) (Ev.pos (by omega) (Ev.pos (by omega) (Ev.pos (by omega) (Ev.pos (by omega) ?_)))))
        rw [Int.toNat_natCast, Int.toNat_natCast]
        exact Ev.bind hsum (Ev.pos (by omega) ih)
      · rw [if_neg hc] at hno
        rw [hno] at hsum ih
        refine Ev.neg (by omega) (Ev.pos (by omega) (Ev.pos (by omega) (Ev.pos (by omega) (Ev.pos (by omega) ?_))))
        rw [Int.toNat_natCast, Int.toNat_natCast]
        exact Ev.bind hsum (Ev.pos (by omega) ih)
    · have ho : O i = false := by simpa using ho
      have hcs : cnt O (i + 1) = cnt O i := by simp [cnt, ho]
      rw [hcs, ahead_skip need O ho] at ih
      exact ih
theorem l7Row_ev (need : List Int) (O : Nat → Bool) (hl : need.length ≤ 1000) (hn : ∀ x ∈ need, 0 ≤ x ∧ x ≤ 1000000) : Ev (fun k => spec_l7Row.f k need (per O need.length)) (planOf need O) := by
  unfold spec_l7Row.f
  refine Ev.pos (by omega) (Ev.pos (by omega) ?_)
  have e : List.replicate ((need.length : Int)).toNat (0 : Int) = ahead need O 0 := by
    refine ext_getD (by rw [ahead_len]; simp) fun t ht => ?_
    simp at ht
    rw [ahead_get need O 0 ht, if_neg (by omega)]; simp [List.getD_eq_getElem?_getD, List.getElem?_replicate]; rw [if_pos ht]; rfl
  rw [e]
  exact l7Row_l0 need O hl hn need.length 0 (by omega)
theorem nestedS_l0 (need setup hold : List Int) (Os : List (Nat → Bool)) (hl : need.length ≤ 1000) (hn : ∀ x ∈ need, 0 ≤ x ∧ x ≤ 1000000) (hO : Os.length ≤ 1000) : ∀ d i, i + d = Os.length → (∀ O ∈ Os.take i, cover need O) →
    Ev (fun k => spec_NestedPlan.l0 k (Os.map fun O => per O need.length) ((Os.take i).map (planOf need)) (i : Int) need setup hold) (nestedOf need Os)
  | 0, i, h, hc => by
    refine Ev.step (fun k => spec_NestedPlan.l0.eq_2 ..) ?_
    refine Ev.neg z44 ((Ev.now _).to ?_)
    rw [List.take_of_length_le (by omega)] at hc ⊢
    unfold nestedOf; rw [if_pos hc]
  | d + 1, i, h, hc => by
    have hi : i < Os.length := by omega
    refine Ev.step (fun k => spec_NestedPlan.l0.eq_2 ..) ?_
    rw [rdL_nat, getL Os _ hi]
    refine Ev.pos z44 (Ev.pos (by omega) (Ev.bind (l7Fed_ev need Os[i] hl hn) ?_))
    by_cases hcv : cover need Os[i]
    · refine Ev.pos (by simpa using hcv) (Ev.bind (l7Row_ev need Os[i] hl hn) (Ev.pos (by rw [List.length_map, List.length_take]; omega) ?_))
      rw [wrS (by omega)]
      have e2 : (Os.take i).map (planOf need) ++ [planOf need Os[i]] = (Os.take (i + 1)).map (planOf need) := by rw [List.take_succ_eq_append_getElem hi, List.map_append]; rfl
      rw [e2]
      refine nestedS_l0 need setup hold Os hl hn hO d (i + 1) (by omega) ?_
      intro O hO2
      rw [List.take_succ_eq_append_getElem hi, List.mem_append] at hO2
      rcases hO2 with h2 | h2
      · exact hc O h2
      · simp at h2; rw [h2]; exact hcv
    · refine Ev.neg (by simpa using hcv) ((Ev.now _).to ?_)
      unfold nestedOf; rw [if_neg (fun h2 => hcv (h2 _ (List.getElem_mem hi)))]
theorem nestedS_ev (need setup hold : List Int) (Os : List (Nat → Bool)) (hg : chainB need setup hold = true) (hO : Nest Os) (hl : need.length ≤ 1000) (hs : setup.length ≤ 1000) (hh : hold.length ≤ 1000) (hn : ∀ x ∈ need, 0 ≤ x ∧ x ≤ 1000000) (hm : Os.length = setup.length) :
    Ev (fun k => spec_NestedPlan.f k need setup hold (Os.map fun O => per O need.length)) (nestedOf need Os) := by
  unfold spec_NestedPlan.f
  simp only [Option.bind_some]
  refine Ev.bind (l7Good_ev need setup hold (by omega) (by omega) (by omega)) ?_
  rw [hg]
  refine Ev.pos rfl (Ev.bind (l7Periods_ev need setup hold Os hO hl (by omega) hm) (Ev.step (fun k => spec_NestedPlan.j0.eq_2 ..) (Ev.neg (by simp) ?_)))
  exact nestedS_l0 need setup hold Os hl hn (by omega) Os.length 0 (by omega) (by simp)
theorem l7Out_eq (need setup hold : List Int) (plan : List (List Int)) (ok : PlanOk need plan) (hm : plan.length ≤ 3) {s t : Nat} (hs : s < plan.length) (ht : t < need.length) :
    spec_l7Out.f need setup hold plan (s : Int) (t : Int) = some (sums need plan (s + 1) (t + 1) - sums need plan (s + 1) t) := by
  unfold spec_l7Out.f
  rw [wrS (by omega)]
  by_cases h : s + 1 < plan.length
  · have hl := ok.len (s + 1) h
    have e : rd (plan.getD (s + 1) []) (t : Int) = sums need plan (s + 1) (t + 1) - sums need plan (s + 1) t := by
      rw [rd_nat]; unfold sums; rw [if_pos h, dsum_succ _ (by omega)]; omega
    rw [if_pos (by omega), if_pos (by omega), if_pos (by omega), rdL_nat, if_pos (by omega), e]
  · have e : rd need (t : Int) = sums need plan (s + 1) (t + 1) - sums need plan (s + 1) t := by
      rw [rd_nat]; unfold sums; rw [if_neg h, dsum_succ _ ht]; omega
    rw [if_neg (by omega), if_pos (by omega), if_pos (by omega), e]
def rowS (need : List Int) (plan : List (List Int)) (s i : Nat) : List Int := (List.range i).map fun t => sums need plan s (t + 1) - sums need plan (s + 1) (t + 1)
def rowsS (need : List Int) (plan : List (List Int)) (i : Nat) : List (List Int) := (List.range i).map fun s => rowS need plan s need.length
theorem l7Stocks_l1 (need setup hold : List Int) (plan : List (List Int)) (ok : PlanOk need plan) (hn : need.length ≤ 6) (hm : plan.length ≤ 3) {s : Nat} (hs : s < plan.length) {R : List (List Int)}
    (hR : Ev (fun k => spec_l7Stocks.l0 k plan (rowsS need plan (s + 1)) ((s + 1 : Nat) : Int) need setup hold) R) : ∀ d i, i + d = need.length →
    Ev (fun k => spec_l7Stocks.l1 k plan (rowsS need plan s) (s : Int) (rowS need plan s i) (sums need plan s i - sums need plan (s + 1) i) (i : Int) need setup hold) R
  | 0, i, h => by
    refine Ev.step (fun k => spec_l7Stocks.l1.eq_2 ..) ?_
    refine Ev.neg (by omega) (Ev.pos (by simp [rowsS]; omega) ?_)
    rw [wrS (by omega), show i = need.length by omega]
    have e : rowsS need plan s ++ [rowS need plan s need.length] = rowsS need plan (s + 1) := by unfold rowsS; rw [List.range_succ, List.map_append]; rfl
    rw [e]; exact hR
  | d + 1, i, h => by
    have hi : i < need.length := by omega
    have hl := ok.len s hs
    have ih := l7Stocks_l1 need setup hold plan ok hn hm hs hR d (i + 1) (by omega)
    have a1 := ok.low s i (by omega) (by omega); have a2 := ok.low s (i + 1) (by omega) (by omega); have a3 := ok.low (s + 1) i (by omega) (by omega); have a4 := ok.low (s + 1) (i + 1) (by omega) (by omega)
    have e1 : sums need plan s (i + 1) = sums need plan s i + (plan.getD s []).getD i 0 := by unfold sums; rw [if_pos hs, dsum_succ _ (by omega)]
    have e2 : sums need plan s i - sums need plan (s + 1) i + (plan.getD s []).getD i 0 - (sums need plan (s + 1) (i + 1) - sums need plan (s + 1) i) = sums need plan s (i + 1) - sums need plan (s + 1) (i + 1) := by omega
    refine Ev.step (fun k => spec_l7Stocks.l1.eq_2 ..) ?_
    simp only [rdL_nat, rd_nat]
    refine Ev.pos (by omega) (Ev.pos (by omega) (Ev.pos (by omega) (Ev.pos (by omega) (Ev.pos (by omega) (Ev.bind (Ev.const (l7Out_eq need setup hold plan ok hm hs hi)) (Ev.pos (by simp [rowS]; omega) ?_))))))
    rw [wr (n := sums need plan s i - sums need plan (s + 1) i + (plan.getD s []).getD i 0) (by omega) (by omega), e2, wr (n := sums need plan s (i + 1) - sums need plan (s + 1) (i + 1)) (by omega) (by omega), wrS (by omega)]
    have e3 : rowS need plan s i ++ [sums need plan s (i + 1) - sums need plan (s + 1) (i + 1)] = rowS need plan s (i + 1) := by unfold rowS; rw [List.range_succ, List.map_append]; rfl
    rw [e3]; exact ih
theorem l7Stocks_l0 (need setup hold : List Int) (plan : List (List Int)) (ok : PlanOk need plan) (hn : need.length ≤ 6) (hm : plan.length ≤ 3) : ∀ d s, s + d = plan.length →
    Ev (fun k => spec_l7Stocks.l0 k plan (rowsS need plan s) (s : Int) need setup hold) (rowsS need plan plan.length)
  | 0, s, h => by
    refine Ev.step (fun k => spec_l7Stocks.l0.eq_2 ..) ?_
    exact Ev.neg (by omega) ((Ev.now _).to (by rw [show s = plan.length by omega]))
  | d + 1, s, h => by
    refine Ev.step (fun k => spec_l7Stocks.l0.eq_2 ..) ?_
    refine Ev.pos (by omega) ?_
    have := l7Stocks_l1 need setup hold plan ok hn hm (show s < plan.length by omega) (l7Stocks_l0 need setup hold plan ok hn hm d (s + 1) (by omega)) need.length 0 (by omega)
    have e : sums need plan s 0 - sums need plan (s + 1) 0 = 0 := by unfold sums; simp [dsum_zero]
    rw [e] at this; exact this
theorem l7Stocks_ev (need setup hold : List Int) (plan : List (List Int)) (ok : PlanOk need plan) (hn : need.length ≤ 6) (hm : plan.length ≤ 3) :
    Ev (fun k => spec_l7Stocks.f k need setup hold plan) (rowsS need plan plan.length) := by
  unfold spec_l7Stocks.f
  exact l7Stocks_l0 need setup hold plan ok hn hm plan.length 0 (by omega)
section
variable {need setup hold : List Int} {plan : List (List Int)} (ok : PlanOk need plan) (hn : need.length ≤ 6) (hm : plan.length ≤ 3) (hs1 : ∀ x ∈ setup, 0 ≤ x ∧ x ≤ 99) (hh1 : ∀ x ∈ hold, 0 ≤ x ∧ x ≤ 9) (h2 : plan.length = setup.length) (h3 : hold.length = setup.length)
include ok hn hm hs1 hh1 h2 h3
theorem l7Cost_l1 {s : Nat} (h1 : s < plan.length) {C R : Int} (hC : 0 ≤ C ∧ C ≤ 1000000)
    (hR : Ev (fun k => spec_l7Cost.l0 k plan (C + sumN (termOf need setup hold plan s) need.length) (rowsS need plan plan.length) ((s + 1 : Nat) : Int) need setup hold) R) : ∀ d i, i + d = need.length →
    Ev (fun k => spec_l7Cost.l1 k plan (C + sumN (termOf need setup hold plan s) i) (rowsS need plan plan.length) (s : Int) (i : Int) need setup hold) R
  | 0, i, h => by
    have hi : i = need.length := by omega
    subst hi
    refine Ev.step (fun k => spec_l7Cost.l1.eq_2 ..) ?_
    refine Ev.neg (by omega) ?_
    rw [wrS (by omega)]; exact hR
  | d + 1, i, h => by
    have hi : i < need.length := by omega
    have ih := l7Cost_l1 h1 hC hR d (i + 1) (by omega)
    have hl := ok.len s h1
    have hrl : (rowsS need plan plan.length).length = plan.length := by simp [rowsS]
    have hrow : (rowsS need plan plan.length).getD s [] = rowS need plan s need.length := by unfold rowsS; rw [List.getD_eq_getElem?_getD, List.getElem?_map, List.getElem?_range h1]; rfl
    have hrr : (rowS need plan s need.length).length = need.length := by simp [rowS]
    have hst : (rowS need plan s need.length).getD i 0 = sums need plan s (i + 1) - sums need plan (s + 1) (i + 1) := by unfold rowS; rw [List.getD_eq_getElem?_getD, List.getElem?_map, List.getElem?_range hi]; rfl
    have tb := term_bound ok hn hs1 hh1 h1 (show s < setup.length by omega) (show s < hold.length by omega) (t := i) hi
    have sb := sum_bound (f := termOf need setup hold plan s) (B := 10000) i (fun j hj => term_bound ok hn hs1 hh1 h1 (by omega) (by omega) (by omega))
    have hb1 := hs1 _ (getD_mem setup (i := s) (by omega)); have hb2 := hh1 _ (getD_mem hold (i := s) (by omega))
    have a3 := ok.feas.over s (i + 1) h1 (by omega); have a4 := ok.low s (i + 1) (by omega) (by omega); have a5 := ok.low (s + 1) (i + 1) (by omega) (by omega)
    have a7 : fn hold s * (sums need plan s (i + 1) - sums need plan (s + 1) (i + 1)) ≤ 9 * 720 := Int.mul_le_mul hb2.2 (by omega) (by omega) (by omega)
    have a6 : 0 ≤ fn hold s * (sums need plan s (i + 1) - sums need plan (s + 1) (i + 1)) := Int.mul_nonneg hb2.1 (by omega)
    have eh : hold.getD s 0 = fn hold s := rfl
    have es : setup.getD s 0 = fn setup s := rfl
    refine Ev.step (fun k => spec_l7Cost.l1.eq_2 ..) ?_
    simp only [rdL_nat, rd_nat]
    rw [hrow, hrr, hrl, hst, eh, es, wr (n := fn hold s * (sums need plan s (i + 1) - sums need plan (s + 1) (i + 1))) (by omega) (by omega), wr (n := C + sumN (termOf need setup hold plan s) i + fn hold s * (sums need plan s (i + 1) - sums need plan (s + 1) (i + 1))) (by omega) (by omega), wrS (by omega)]
    refine Ev.pos (by omega) (Ev.pos (by omega) (Ev.pos (by omega) (Ev.pos (by omega) (Ev.pos (by omega) (Ev.pos (by omega) (Ev.pos (by omega) (Ev.pos (by omega) ?_)))))))
    by_cases hp : (plan.getD s []).getD i 0 > 0
    · have et : termOf need setup hold plan s i = fn setup s + fn hold s * (sums need plan s (i + 1) - sums need plan (s + 1) (i + 1)) := by unfold termOf; rw [if_pos hp]
      refine Ev.pos hp (Ev.pos (by omega) ?_)
      rw [wr (by omega) (by omega)]
      rw [show C + sumN (termOf need setup hold plan s) i + fn hold s * (sums need plan s (i + 1) - sums need plan (s + 1) (i + 1)) + fn setup s = C + sumN (termOf need setup hold plan s) (i + 1) by simp only [sumN]; omega]
      exact ih
    · have et : termOf need setup hold plan s i = fn hold s * (sums need plan s (i + 1) - sums need plan (s + 1) (i + 1)) := by unfold termOf; rw [if_neg (by omega)]; omega
      refine Ev.neg hp ?_
      rw [show C + sumN (termOf need setup hold plan s) i + fn hold s * (sums need plan s (i + 1) - sums need plan (s + 1) (i + 1)) = C + sumN (termOf need setup hold plan s) (i + 1) by simp only [sumN]; omega]
      exact ih
theorem l7Cost_l0 : ∀ d s, s + d = plan.length →
    Ev (fun k => spec_l7Cost.l0 k plan (sumN (fun s => sumN (termOf need setup hold plan s) need.length) s) (rowsS need plan plan.length) (s : Int) need setup hold) (sumN (fun s => sumN (termOf need setup hold plan s) need.length) plan.length)
  | 0, s, h => by
    refine Ev.step (fun k => spec_l7Cost.l0.eq_2 ..) ?_
    exact Ev.neg (by omega) ((Ev.now _).to (by rw [show s = plan.length by omega]))
  | d + 1, s, h => by
    have ih := l7Cost_l0 d (s + 1) (by omega)
    have hC := sum_bound (f := fun s => sumN (termOf need setup hold plan s) need.length) (B := 60000) s (fun j hj => by
      have := sum_bound (f := termOf need setup hold plan j) (B := 10000) need.length (fun i hi => term_bound ok hn hs1 hh1 (by omega) (by omega) (by omega) hi)
      omega)
    refine Ev.step (fun k => spec_l7Cost.l0.eq_2 ..) ?_
    refine Ev.pos (by omega) ?_
    have := l7Cost_l1 ok hn hm hs1 hh1 h2 h3 (show s < plan.length by omega) (C := sumN (fun s => sumN (termOf need setup hold plan s) need.length) s) (by omega) ih need.length 0 (by omega)
    simpa [sumN] using this
theorem l7Cost_ev : Ev (fun k => spec_l7Cost.f k need setup hold plan) (planCost need setup hold plan) := by
  unfold spec_l7Cost.f
  refine Ev.bind (l7Stocks_ev need setup hold plan ok hn hm) ((l7Cost_l0 ok hn hm hs1 hh1 h2 h3 plan.length 0 (by omega)).to ?_)
  unfold planCost hcost
  exact sumN_congr _ fun s hs => term_sum ok hs
end
theorem mtot_take (l : List (List Int)) {i : Nat} (h : i < l.length) : mtot (l.take (i + 1)) = mtot (l.take i) + ((l.getD i []).length : Int) := by
  have ha : ∀ a b : List (List Int), mtot (a ++ b) = mtot a + mtot b := fun a b => by
    induction a with
    | nil => simp [mtot]
    | cons x a ih => simp only [List.cons_append, mtot, ih]; omega
  rw [List.take_succ_eq_append_getElem h, ha, List.getD_eq_getElem?_getD, List.getElem?_eq_getElem h]; simp [mtot]
theorem l7Many_l0 (l : List (List Int)) (hl : l.length ≤ 1000) (hr : ∀ r ∈ l, r.length ≤ 1000) : ∀ d i, i + d = l.length → Ev (fun k => spec_l7Many.l0 k l (mtot (l.take i)) (i : Int)) (mtot l)
  | 0, i, h => by
    refine Ev.step (fun k => spec_l7Many.l0.eq_2 ..) ?_
    exact Ev.neg (by omega) ((Ev.now _).to (by rw [List.take_of_length_le (by omega)]))
  | d + 1, i, h => by
    refine Ev.step (fun k => spec_l7Many.l0.eq_2 ..) ?_
    refine Ev.pos (by omega) (Ev.pos (by omega) ?_)
    have ih := l7Many_l0 l hl hr d (i + 1) (by omega)
    have hb := mtot_bound (l.take (i + 1)) (fun r h => hr r (List.mem_of_mem_take h))
    rw [List.length_take] at hb
    rw [rdL_nat, wrS (by omega), ← mtot_take l (by omega), wr (by omega) (by omega)]; exact ih
theorem l7Many_ev (l : List (List Int)) (hl : l.length ≤ 1000) (hr : ∀ r ∈ l, r.length ≤ 1000) : Ev (fun k => spec_l7Many.f k l) (mtot l) := by
  unfold spec_l7Many.f
  exact l7Many_l0 l hl hr l.length 0 (by omega)
def lessAt (a b : List (List Int)) (s i : Nat) : Bool := if cmpL ((a.getD s []).drop i) ((b.getD s []).drop i) = 0 then decide (cmpLL (a.drop (s + 1)) (b.drop (s + 1)) < 0) else decide (cmpL ((a.getD s []).drop i) ((b.getD s []).drop i) < 0)
theorem lessAt_zero (a b : List (List Int)) {s : Nat} (h1 : s < a.length) (h2 : s < b.length) : lessAt a b s 0 = decide (cmpLL (a.drop s) (b.drop s) < 0) := by
  have e : cmpLL (a.drop s) (b.drop s) = if cmpL (a.getD s []) (b.getD s []) = 0 then cmpLL (a.drop (s + 1)) (b.drop (s + 1)) else cmpL (a.getD s []) (b.getD s []) := by
    rw [drop_cons a [] h1, drop_cons b [] h2]; rfl
  unfold lessAt
  rw [List.drop_zero, List.drop_zero, e]
  split <;> rfl
theorem l7Less_l1 (a b : List (List Int)) {s : Nat} (h1 : s < a.length) (h2 : s < b.length) (hl : a.length ≤ 1000) (hr : ∀ r ∈ a, r.length ≤ 1000)
    (hR : Ev (fun k => spec_l7Less.l0 k a b ((s + 1 : Nat) : Int)) (decide (cmpLL (a.drop (s + 1)) (b.drop (s + 1)) < 0))) : ∀ d i, i + d = (a.getD s []).length → i ≤ (b.getD s []).length →
    Ev (fun k => spec_l7Less.l1 k a b (s : Int) (i : Int)) (lessAt a b s i) := by
  have hm : a.getD s [] ∈ a := by rw [List.getD_eq_getElem?_getD, List.getElem?_eq_getElem h1]; simp
  have hra := hr _ hm
  have hj : ∀ i, i ≤ (a.getD s []).length → i ≤ (b.getD s []).length → (i = (a.getD s []).length ∨ i = (b.getD s []).length) → Ev (fun k => spec_l7Less.j2 k a b (s : Int) (i : Int) false) (lessAt a b s i) := by
    intro i g1 g2 g3
    refine Ev.step (fun k => spec_l7Less.j2.eq_2 ..) ?_
    simp only [rdL_nat]
    refine Ev.neg (by simp) (Ev.pos (by omega) (Ev.pos (by omega) (Ev.pos (by omega) ?_)))
    unfold lessAt
    by_cases he : (a.getD s []).length = (b.getD s []).length
    · refine Ev.pos (by omega) ?_
      rw [wrS (by omega)]
      rw [List.drop_of_length_le (l := a.getD s []) (by omega), List.drop_of_length_le (l := b.getD s []) (by omega), if_pos (show cmpL [] [] = 0 from rfl)]
      exact hR
    · refine Ev.neg (by omega) ((Ev.now _).to ?_)
      by_cases hlt : (a.getD s []).length < (b.getD s []).length
      · rw [List.drop_of_length_le (l := a.getD s []) (by omega), drop_cons (b.getD s []) 0 (by omega), if_neg (by simp [cmpL])]
        rw [decide_eq_true (by omega)]; rfl
      · rw [List.drop_of_length_le (l := b.getD s []) (by omega), drop_cons (a.getD s []) 0 (by omega), if_neg (by simp [cmpL])]
        rw [decide_eq_false (by omega)]; rfl
  intro d
  induction d with
  | zero =>
    intro i g1 g2
    refine Ev.step (fun k => spec_l7Less.l1.eq_2 ..) ?_
    simp only [rdL_nat]
    exact Ev.pos (by omega) (Ev.pos (by omega) (Ev.neg (by omega) (hj i (by omega) g2 (.inl (by omega)))))
  | succ d ih =>
    intro i g1 g2
    refine Ev.step (fun k => spec_l7Less.l1.eq_2 ..) ?_
    simp only [rdL_nat]
    refine Ev.pos (by omega) (Ev.pos (by omega) (Ev.pos (by omega) (Ev.pos (by omega) ?_)))
    by_cases hlt : i < (b.getD s []).length
    · rw [decide_eq_true (show (i : Int) < ((b.getD s []).length : Int) by omega)]
      refine Ev.step (fun k => spec_l7Less.j2.eq_2 ..) ?_
      simp only [rdL_nat, rd_nat]
      refine Ev.pos trivial (Ev.pos (by omega) (Ev.pos (by omega) (Ev.pos (by omega) (Ev.pos (by omega) (Ev.pos (by omega) (Ev.pos (by omega) ?_))))))
      have ec : cmpL ((a.getD s []).drop i) ((b.getD s []).drop i) = if (a.getD s []).getD i 0 < (b.getD s []).getD i 0 then -1 else if (a.getD s []).getD i 0 > (b.getD s []).getD i 0 then 1 else cmpL ((a.getD s []).drop (i + 1)) ((b.getD s []).drop (i + 1)) := by
        rw [drop_cons (a.getD s []) 0 (by omega), drop_cons (b.getD s []) 0 (by omega)]; rfl
      by_cases he : (a.getD s []).getD i 0 = (b.getD s []).getD i 0
      · refine Ev.pos he ?_
        rw [wrS (by omega)]
        refine (ih (i + 1) (by omega) (by omega)).to ?_
        rw [if_neg (by omega), if_neg (by omega)] at ec
        unfold lessAt
        rw [ec]
      · refine Ev.neg he ((Ev.now _).to ?_)
        unfold lessAt
        by_cases h5 : (a.getD s []).getD i 0 < (b.getD s []).getD i 0
        · rw [if_pos h5] at ec
          rw [ec, if_neg (by omega), decide_eq_true h5]; rfl
        · rw [if_neg h5, if_pos (show (a.getD s []).getD i 0 > (b.getD s []).getD i 0 by omega)] at ec
          rw [ec, if_neg (by omega), decide_eq_false h5]; rfl
    · rw [decide_eq_false (show ¬ (i : Int) < ((b.getD s []).length : Int) by omega)]
      exact hj i (by omega) g2 (.inr (by omega))
theorem l7Less_l0 (a b : List (List Int)) (hab : a.length = b.length) (hl : a.length ≤ 1000) (hr : ∀ r ∈ a, r.length ≤ 1000) : ∀ d s, s + d = a.length → Ev (fun k => spec_l7Less.l0 k a b (s : Int)) (decide (cmpLL (a.drop s) (b.drop s) < 0))
  | 0, s, h => by
    refine Ev.step (fun k => spec_l7Less.l0.eq_2 ..) ?_
    refine Ev.neg (by omega) ((Ev.now _).to ?_)
    rw [List.drop_of_length_le (l := a) (by omega), List.drop_of_length_le (l := b) (by omega)]; rfl
  | d + 1, s, h => by
    refine Ev.step (fun k => spec_l7Less.l0.eq_2 ..) ?_
    refine Ev.pos (by omega) ?_
    have := l7Less_l1 a b (show s < a.length by omega) (by omega) hl hr (l7Less_l0 a b hab hl hr d (s + 1) (by omega)) (a.getD s []).length 0 (by omega) (by omega)
    rw [lessAt_zero a b (by omega) (by omega)] at this; exact this
theorem l7Less_ev (a b : List (List Int)) (hab : a.length = b.length) (hl : a.length ≤ 1000) (hr : ∀ r ∈ a, r.length ≤ 1000) : Ev (fun k => spec_l7Less.f k a b) (decide (cmpLL a b < 0)) := by
  unfold spec_l7Less.f
  exact (l7Less_l0 a b hab hl hr a.length 0 (by omega)).to (by rw [List.drop_zero, List.drop_zero])
def toldS : Option PairT → List (List Int) × Int × Bool
  | none => ([], 0, false)
  | some (L, c) => (L, c, true)
def inv (m n : Nat) (o : Option PairT) : Prop := ∀ L c, o = some (L, c) → L.length = m ∧ ∀ r ∈ L, r.length ≤ n
theorem inv_step {m n : Nat} {o : Option PairT} {p : PairT} (h : inv m n o) (hp : p.1.length = m ∧ ∀ r ∈ p.1, r.length ≤ n) : inv m n (stepP o p) := by
  intro L c e
  rcases o with _ | q
  · simp only [stepP, Option.some.injEq] at e; rw [e] at hp; exact hp
  · simp only [stepP] at e
    split at e
    · simp only [Option.some.injEq] at e; rw [e] at hp; exact hp
    · exact h L c e
theorem inv_fold {m n : Nat} : ∀ (l : List PairT) (o : Option PairT), inv m n o → (∀ p ∈ l, p.1.length = m ∧ ∀ r ∈ p.1, r.length ≤ n) → inv m n (foldP l o)
  | [], _, h, _ => h
  | p :: l, o, h, hl => inv_fold l (stepP o p) (inv_step h (hl p (by simp))) (fun q hq => hl q (by simp [hq]))
theorem enum_shape {need setup hold : List Int} (d : Nat) (Os : List (Nat → Bool)) (hn : Nest Os) (p : PairT) (h : p ∈ enum need setup hold d Os) : p.1.length = d + Os.length ∧ ∀ r ∈ p.1, r.length ≤ need.length := by
  obtain ⟨Cs, h1, _, _, h4⟩ := enum_is d Os p hn h
  subst h4
  refine ⟨(by simp [famP, h1]), fun r hr => ?_⟩
  unfold famP at hr
  obtain ⟨O, _, rfl⟩ := List.mem_map.1 hr
  exact per_len_le O _
section
variable {need setup hold : List Int} (hg : chainB need setup hold = true) (S : Small need setup hold)
include hg S
theorem l7Try_zero (Os : List (Nat → Bool)) (hl : Os.length = setup.length) (hO : Nest Os) (o : Option PairT) (hi : inv setup.length need.length o) :
    Ev (fun k => spec_l7Try.f k need setup hold (Os.map fun O => per O need.length) (toldS o).1 (toldS o).2.1 (toldS o).2.2) (toldS (foldP (enum need setup hold 0 Os) o)) := by
  have hn := S.n; have hm := S.m; have hh := S.h
  have big : ∀ x ∈ need, 0 ≤ x ∧ x ≤ 1000000 := fun x hx => by have := S.need x hx; omega
  have hrL : ∀ r ∈ (Os.map fun O => per O need.length), r.length ≤ 1000 := fun r hr => by
    obtain ⟨O, _, rfl⟩ := List.mem_map.1 hr; have := per_len_le O need.length; omega
  refine Ev.step (fun k => spec_l7Try.f.eq_2 ..) ?_
  refine Ev.pos z44 (Ev.bind (nestedS_ev need setup hold Os hg hO (by omega) (by omega) (by omega) big hl) ?_)
  simp only [enum]
  unfold nestedOf
  by_cases hc : ∀ O ∈ Os, cover need O
  · rw [if_pos hc, if_pos hc]
    obtain ⟨rows, hr⟩ := nested_rows need S.n S.need20 Os ⟨hc, hO⟩
    have ok := planOk_of need _ rows S.need20 hr
    have hcost := l7Cost_ev (setup := setup) (hold := hold) ok S.n z44 S.setup S.hold (by rw [List.length_map]; exact hl) S.h
    have hjn : ∀ b : Bool, Ev (fun k => spec_l7Try.j0 k (Os.map fun O => per O need.length) (planCost need setup hold (Os.map (planOf need))) b (toldS o).1 (toldS o).2.1 (toldS o).2.2) (if b = true then ((Os.map fun O => per O need.length), planCost need setup hold (Os.map (planOf need)), true) else toldS o) := by
      intro b
      refine Ev.step (fun k => spec_l7Try.j0.eq_2 ..) ?_
      cases b with
      | true => exact Ev.pos rfl (Ev.now _)
      | false => exact Ev.neg (by simp) (Ev.now _)
    have hmo : Ev (fun k => spec_l7Many.f k (toldS o).1) (mtot (toldS o).1) := by
      rcases o with _ | ⟨L, c⟩
      · exact l7Many_ev [] (by simp) (by simp)
      · obtain ⟨i1, i2⟩ := hi L c rfl
        exact l7Many_ev L (by omega) (fun r hr => by have := i2 r hr; omega)
    refine Ev.pos rfl (Ev.bind hcost (Ev.bind (l7Many_ev _ z44 hrL) (Ev.bind hmo ?_)))
    rcases o with _ | ⟨L, c⟩
    · exact Ev.neg (by simp [toldS]) ((hjn true).to rfl)
    · obtain ⟨i1, i2⟩ := hi L c rfl
      have e : foldP [famP need setup hold Os] (some (L, c)) = if lessP (famP need setup hold Os) (L, c) then some (famP need setup hold Os) else some (L, c) := rfl
      rw [e]
      have hfin : ∀ b : Bool, (b = true ↔ lessP (famP need setup hold Os) (L, c)) → (if b = true then ((Os.map fun O => per O need.length), planCost need setup hold (Os.map (planOf need)), true) else toldS (some (L, c))) = toldS (if lessP (famP need setup hold Os) (L, c) then some (famP need setup hold Os) else some (L, c)) := by
        intro b hb
        by_cases h : lessP (famP need setup hold Os) (L, c)
        · rw [if_pos h, if_pos (hb.2 h)]; rfl
        · rw [if_neg h, if_neg (fun e => h (hb.1 e))]
      have hlp : lessP (famP need setup hold Os) (L, c) ↔ planCost need setup hold (Os.map (planOf need)) < c ∨ (planCost need setup hold (Os.map (planOf need)) = c ∧ (mtot (Os.map fun O => per O need.length) < mtot L ∨ (mtot (Os.map fun O => per O need.length) = mtot L ∧ cmpLL (Os.map fun O => per O need.length) L < 0))) := Iff.rfl
      refine Ev.pos rfl ?_
      by_cases h1 : planCost need setup hold (Os.map (planOf need)) < c
      · exact Ev.pos h1 ((hjn true).to (hfin true (by rw [hlp]; simp [h1])))
      · refine Ev.neg h1 ?_
        by_cases h2 : planCost need setup hold (Os.map (planOf need)) = c
        · refine Ev.pos h2 ?_
          by_cases h3 : mtot (Os.map fun O => per O need.length) < mtot L
          · exact Ev.pos h3 ((hjn true).to (hfin true (by rw [hlp]; simp [h2, h3])))
          · refine Ev.neg h3 ?_
            by_cases h4 : mtot (Os.map fun O => per O need.length) = mtot L
            · refine Ev.pos h4 (Ev.bind (l7Less_ev _ L z44 z44 hrL) ((hjn _).to (hfin _ ?_)))
              rw [hlp, decide_eq_true_eq]
              constructor
              · intro h5; exact .inr ⟨h2, .inr ⟨h4, h5⟩⟩
              · rintro (h5 | ⟨_, h5 | ⟨_, h5⟩⟩)
                · exact absurd h5 h1
                · exact absurd h5 h3
                · exact h5
            · refine Ev.neg h4 ((hjn false).to (hfin false ?_))
              rw [hlp]; constructor
              · intro h5; simp at h5
              · rintro (h5 | ⟨_, h5 | ⟨h5, _⟩⟩)
                · exact absurd h5 h1
                · exact absurd h5 h3
                · exact absurd h5 h4
        · refine Ev.neg h2 ((hjn false).to (hfin false ?_))
          rw [hlp]; constructor
          · intro h5; simp at h5
          · rintro (h5 | ⟨h5, _⟩)
            · exact absurd h5 h1
            · exact absurd h5 h2
  · rw [if_neg hc, if_neg hc]
    exact Ev.neg (by simp) (Ev.now _)
theorem l7Try_ev : ∀ d (Os : List (Nat → Bool)), Os.length + d = setup.length → Nest Os → ∀ o, inv setup.length need.length o →
    Ev (fun k => spec_l7Try.f k need setup hold (Os.map fun O => per O need.length) (toldS o).1 (toldS o).2.1 (toldS o).2.2) (toldS (foldP (enum need setup hold d Os) o))
  | 0, Os, h, hO, o, hi => l7Try_zero hg S Os (by omega) hO o hi
  | d + 1, Os, h, hO, o, hi => by
    have hn := S.n; have hm := S.m
    have hp := pow2_le (n := need.length) (by omega)
    refine Ev.step (fun k => spec_l7Try.f.eq_2 ..) ?_
    refine Ev.neg z44 ?_
    have loop : ∀ e c : Nat, c + e = 2 ^ need.length → ∀ o, inv setup.length need.length o →
        Ev (fun k => spec_l7Try.l0 k (Os.map fun O => per O need.length) (c : Int) need setup hold (toldS o).1 (toldS o).2.1 (toldS o).2.2)
          (toldS (foldP ((List.range' c e).flatMap fun code => if okB need.length code Os = true then enum need setup hold d (Obn need.length code :: Os) else []) o)) := by
      intro e
      induction e with
      | zero =>
        intro c hc o hi
        refine Ev.step (fun k => spec_l7Try.l0.eq_2 ..) ?_
        rw [shl_pow (by omega)]
        exact Ev.neg (by omega) (Ev.now _)
      | succ e ih =>
        intro c hc o hi
        have hper : per (Ob c) need.length = per (Obn need.length c) need.length := per_congr fun u hu => (Obn_lt hu).symm
        have hmap : ([per (Ob c) need.length] : List (List Int)) ++ (Os.map fun O => per O need.length) = (Obn need.length c :: Os).map fun O => per O need.length := by rw [hper]; rfl
        have hpl := per_len_le (Ob c) need.length
        rw [List.range'_succ, List.flatMap_cons, foldP_append]
        have go : okB need.length c Os = true → ∀ k0 : Nat → Option (List (List Int) × Int × Bool), (∀ k, k0 k = (spec_l7Try.f k need setup hold (([per (Ob c) need.length] : List (List Int)) ++ (Os.map fun O => per O need.length)) (toldS o).1 (toldS o).2.1 (toldS o).2.2).bind fun bt => spec_l7Try.l0 k (Os.map fun O => per O need.length) (wrap64 ((c : Int) + 1)) need setup hold bt.1 bt.2.1 bt.2.2) →
            Ev k0 (toldS (foldP ((List.range' (c + 1) e).flatMap fun code => if okB need.length code Os = true then enum need setup hold d (Obn need.length code :: Os) else []) (foldP (if okB need.length c Os = true then enum need setup hold d (Obn need.length c :: Os) else []) o))) := by
          intro hok k0 hk0
          have hN := okB_nest hok hO
          have h1 := l7Try_ev d (Obn need.length c :: Os) (by simp; omega) hN o hi
          rw [← hmap] at h1
          rw [if_pos hok]
          have hi2 : inv setup.length need.length (foldP (enum need setup hold d (Obn need.length c :: Os)) o) :=
            inv_fold _ _ hi fun p hp => by
              have := enum_shape d (Obn need.length c :: Os) hN p hp
              refine ⟨(by rw [this.1]; simp; omega), this.2⟩
          have h2 := ih (c + 1) (by omega) _ hi2
          rw [funext hk0, wrS (by omega)]
          exact Ev.bind h1 h2
        have skip : ¬ okB need.length c Os = true → Ev (fun k => spec_l7Try.l0 k (Os.map fun O => per O need.length) (wrap64 ((c : Int) + 1)) need setup hold (toldS o).1 (toldS o).2.1 (toldS o).2.2) (toldS (foldP ((List.range' (c + 1) e).flatMap fun code => if okB need.length code Os = true then enum need setup hold d (Obn need.length code :: Os) else []) (foldP (if okB need.length c Os = true then enum need setup hold d (Obn need.length c :: Os) else []) o))) := by
          intro hok
          rw [if_neg hok, wrS (by omega)]
          exact ih (c + 1) (by omega) o hi
        refine Ev.step (fun k => spec_l7Try.l0.eq_2 ..) ?_
        rw [shl_pow (by omega)]
        refine Ev.pos (by omega) (Ev.bind (l2Bits_ev need.length c (by omega)) ?_)
        cases Os with
        | nil =>
          refine Ev.pos (by simp) ?_
          simp only [Option.bind_some]
          refine Ev.pos (by simp) ?_
          exact go rfl _ (fun k => rfl)
        | cons O r =>
          refine Ev.neg (by rw [List.length_map, List.length_cons]; omega) (Ev.pos (by rw [List.length_map, List.length_cons]; omega) ?_)
          have e0 : rd_L2 ((O :: r).map fun O => per O need.length) 0 = per O need.length := rfl
          rw [e0]
          have hpo := per_len_le O need.length
          refine Ev.bind (l7Within_ev (per (Ob c) need.length) (per O need.length) (by omega) (by omega)) ?_
          by_cases hok : okB need.length c (O :: r) = true
          · refine Ev.pos hok ?_
            simp only [Option.bind_some]
            refine Ev.pos (by rw [List.length_map, List.length_cons]; simp only [List.length_cons] at h; simp; omega) ?_
            exact go hok _ (fun k => rfl)
          · exact Ev.neg hok (skip hok)
    have := loop (2 ^ need.length) 0 (by omega) o hi
    rw [← List.range_eq_range'] at this
    exact this
end
theorem l1Own_eq (l : List Int) (hl : l.length < 1000000000) : spec_l1Own.f l = some l := by
  unfold spec_l1Own.f; simp only [Option.bind_some]; rw [if_pos (by simp; omega)]; simp
theorem bestS_l0 (L : List (List Int)) (hl : L.length ≤ 1000) (hr : ∀ r ∈ L, r.length ≤ 1000) : ∀ d i, i + d = L.length → Ev (fun k => spec_BestNested.l0 k L (L.take i) (i : Int)) (L, true)
  | 0, i, h => by
    refine Ev.step (fun k => spec_BestNested.l0.eq_2 ..) ?_
    exact Ev.neg (by omega) ((Ev.now _).to (by rw [List.take_of_length_le (by omega)]))
  | d + 1, i, h => by
    have hi : i < L.length := by omega
    have hm : L.getD i [] ∈ L := by rw [List.getD_eq_getElem?_getD, List.getElem?_eq_getElem hi]; simp
    have := hr _ hm
    refine Ev.step (fun k => spec_BestNested.l0.eq_2 ..) ?_
    rw [rdL_nat]
    refine Ev.pos (by omega) (Ev.pos (by omega) (Ev.bind (Ev.const (l1Own_eq _ (by omega))) (Ev.pos (by rw [List.length_take]; omega) ?_)))
    have e : L.take i ++ [L.getD i []] = L.take (i + 1) := by rw [List.take_succ_eq_append_getElem hi, List.getD_eq_getElem?_getD, List.getElem?_eq_getElem hi]; rfl
    rw [wrS (by omega), e]
    exact bestS_l0 L hl hr d (i + 1) (by omega)
def nestedBest (need setup hold : List Int) : List (List Int) × Bool := if chainB need setup hold = true then ((toldS (foldP (enum need setup hold setup.length []) none)).1, true) else ([], false)
theorem found_rows {need setup hold : List Int} (S : Small need setup hold) : (toldS (foldP (enum need setup hold setup.length []) none)).1.length ≤ 3 ∧ ∀ r ∈ (toldS (foldP (enum need setup hold setup.length []) none)).1, r.length ≤ 6 := by
  have hN : Nest [] := fun s t hs => by simp at hs
  have hi : inv setup.length need.length (foldP (enum need setup hold setup.length []) none) := inv_fold _ _ (fun L c e => by simp at e) fun p hp => by
    have := enum_shape setup.length [] hN p hp
    exact ⟨(by rw [this.1]; simp), this.2⟩
  generalize foldP (enum need setup hold setup.length []) none = o at hi
  rcases o with _ | ⟨L, c⟩
  · simp [toldS]
  · obtain ⟨i1, i2⟩ := hi L c rfl
    have := S.m; have := S.n
    exact ⟨(by simp only [toldS]; omega), fun r hr => by have := i2 r hr; omega⟩
theorem nestedBestS_ev (need setup hold : List Int) (h1 : need.length < 1000000000) (h2 : setup.length < 1000000000) (h3 : hold.length < 1000000000) :
    Ev (fun k => spec_BestNested.f k need setup hold) (nestedBest need setup hold) := by
  unfold spec_BestNested.f nestedBest
  refine Ev.bind (l7Good_ev need setup hold h1 h2 h3) ?_
  by_cases hg : chainB need setup hold = true
  · rw [if_pos hg]
    have S := small_of hg
    have h := l7Try_ev hg S setup.length [] (by simp) (fun s t hs => by simp at hs) none (fun L c e => by simp at e)
    obtain ⟨r1, r2⟩ := found_rows S
    refine Ev.pos hg (Ev.bind h ?_)
    exact bestS_l0 _ (by omega) (fun r hr => by have := r2 r hr; omega) _ 0 (Nat.zero_add _)
  · rw [if_neg hg]
    exact Ev.neg hg (Ev.now _)
theorem nestedBestI_ev (need setup hold : List Int) (h1 : need.length < 1000000000) (h2 : setup.length < 1000000000) (h3 : hold.length < 1000000000) :
    Ev (fun k => impl_BestNested.f k need setup hold) (nestedBest need setup hold) := by
  unfold impl_BestNested.f nestedBest
  refine Ev.bind (IsChain_ev need setup hold h1 h2 h3) ?_
  by_cases hg : chainB need setup hold = true
  · rw [if_pos hg]
    have S := small_of hg
    refine Ev.pos hg (Ev.bind (bestNested_ev need setup hold hg) ((Ev.now _).to ?_))
    rw [bn_fold S, foldP_same (enum_same (by have := S.n; omega))]
    generalize foldP (enum need setup hold setup.length []) none = o
    rcases o with _ | ⟨L, c⟩ <;> rfl
  · rw [if_neg hg]
    exact Ev.neg hg (Ev.now _)
theorem nestedBest_rows (need setup hold : List Int) : (nestedBest need setup hold).1.length ≤ 3 ∧ ∀ r ∈ (nestedBest need setup hold).1, r.length ≤ 6 := by
  unfold nestedBest
  split
  · rename_i hg; exact found_rows (small_of hg)
  · simp
end Go.Proofs.Ythlmmcmpllgflaa.P
