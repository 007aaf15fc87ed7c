/- The law FnExactBestNested: for every chain the program and the reference find the same nested order periods, which leave the arguments as they are and share no memory; no condition. -/
import Derived.Test.YthlmmcmpllgflaaR4b
namespace Go.Proofs.Ythlmmcmpllgflaa.P
open Go.RowKit Go.Proofs.YthlmmcmpllgflaaW.PrintWords Go.Proofs.YthlmmcmpllgflaaW.PrintLast Go.Proofs.YthlmmcmpllgflaaW.PrintMore
attribute [local go_sem] max2_int min2_int max_two min_two max_three min_three max_four min_four
set_option linter.unusedVariables false
set_option linter.unusedSimpArgs false
def impl_evenCase.l0 : Nat → Int → Int → Int → Int → List Int → List Int → List Int → List Int → Option (List Int × List Int × List Int × List Int)
 | 0, _, _, _, _, _, _, _, _ => none
 | k + 1, x1, x2, x15, x16, x313000, x313001, x313002, x313003 => if x16 < x15 then ((some (([x1] : List Int) : List Int)).bind fun y313 => (if x313001.length + y313.length < 17592186044416 then ((some (([x2] : List Int) : List Int)).bind fun y319 => (if x313003.length + y319.length < 17592186044416 then (impl_evenCase.l0 k x1 x2 x15 (wrap64 (x16 + 1)) x313000 (x313001 ++ y313) x313002 (x313003 ++ y319)) else (none))) else (none))) else (some (x313000, x313001, x313002, x313003))
def impl_evenCase.f (k : Nat) (l0 : List Int) (a1 : Int) (a2 : Int) : Option (List Int × List Int × List Int × List Int) := (impl_copied.f l0).bind fun t306 => (if 0 ≤ (l0.length : Int) then (if ((l0.length : Int) : Int).toNat ≤ 35184372088832 then (impl_evenCase.l0 k a1 a2 (l0.length : Int) 0 t306 ([] : List Int) (List.replicate ((l0.length : Int) : Int).toNat 0) ([] : List Int)) else (none)) else (none))
def impl_evenCase.T1 : Bool × List (List Nat × List Nat) := (true, [([], []), ([0], [0]), ([], []), ([2], [2]), ([3, 3], [3]), ([1, 4], [1, 4]), ([], []), ([6, 5, 1, 0, 1, 2, 3, 4, 5, 6], [5, 6])])
def impl_evenCase.B1 : List Nat := [0, 1, 0, 4, 12, 31, 0, 127]
theorem impl_evenCase.tab1 : rtab .any (opsOf Try.f57 1) = impl_evenCase.T1 := by kernel_rfl
theorem impl_evenCase.bits1 : waitsOk impl_evenCase.T1.2 impl_evenCase.B1 = true := by kernel_rfl
def impl_evenCase.T4 : Bool × List (List Nat × List Nat) := (true, [([], []), ([0], [0]), ([], []), ([2], [2]), ([1, 3], [1, 3]), ([], []), ([5], [5]), ([], []), ([7], [7]), ([6, 8, 4], [6, 8]), ([0, 1, 2, 3, 4, 5, 6], []), ([10, 4, 9, 0, 1, 2, 3, 4, 5, 6], [4, 10]), ([0, 1, 2, 3, 4, 5, 6, 7, 8, 9, 10, 11], []), ([12, 9, 11, 0, 1, 2, 3, 4, 5, 6, 7, 8, 9, 10, 11], [9, 12])])
def impl_evenCase.B4 : List Nat := [0, 1, 0, 4, 15, 0, 32, 0, 128, 511, 127, 2047, 4095, 8191]
theorem impl_evenCase.tab4 : rtab .any (opsOf Try.f57 4) = impl_evenCase.T4 := by kernel_rfl
theorem impl_evenCase.bits4 : waitsOk impl_evenCase.T4.2 impl_evenCase.B4 = true := by kernel_rfl
set_option maxHeartbeats 8000000 in
set_option maxRecDepth 100000 in
theorem impl_evenCase.calls (k : Nat) (A0 : Option Addr) (c0 : Nat) (l0 : List Int) (a1 : Int) (a2 : Int) (r1 : List Int) (r2 : List Int) (r3 : List Int) (r4 : List Int) (w : World) (hr0 : Kd.C (Kd.int .i64) w A0 l0.length l0) (hc0 : l0.length ≤ c0) (h : impl_evenCase.f k l0 a1 a2 = some (r1, r2, r3, r4)) :
 Calls Try.prog 57 #[.slice A0 l0.length c0, .int .i64 a1, .int .i64 a2] w fun e w' => ∃ v0_ v1_ v2_ v3_ : Value, e = .returned (.agg #[v0_, v1_, v2_, v3_]) ∧ Kd.R (Kd.int .i64) 3 w' w.heap.size (fun k_ => some k_ ≠ (v1_ : Value).ownBlock ∧ some k_ ≠ (v2_ : Value).ownBlock ∧ some k_ ≠ (v3_ : Value).ownBlock) v0_ r1 ∧ Kd.R (Kd.int .i64) 3 w' w.heap.size (fun k_ => some k_ ≠ (v0_ : Value).ownBlock ∧ some k_ ≠ (v2_ : Value).ownBlock ∧ some k_ ≠ (v3_ : Value).ownBlock) v1_ r2 ∧ Kd.R (Kd.int .i64) 3 w' w.heap.size (fun k_ => some k_ ≠ (v0_ : Value).ownBlock ∧ some k_ ≠ (v1_ : Value).ownBlock ∧ some k_ ≠ (v3_ : Value).ownBlock) v2_ r3 ∧ Kd.R (Kd.int .i64) 3 w' w.heap.size (fun k_ => some k_ ≠ (v0_ : Value).ownBlock ∧ some k_ ≠ (v1_ : Value).ownBlock ∧ some k_ ≠ (v2_ : Value).ownBlock) v3_ r4 ∧ Below w.heap.size w w' := by
 have hu49 := Try.underlying49
 have HR0 := Aside0.mk hr0
 have HC0 := Aside0.mk hc0
 clear hr0 hc0
 have HB := Aside0.mk (Below.refl w.heap.size w)
 have H : ((impl_copied.f l0).bind fun t306 => (if 0 ≤ (l0.length : Int) then (if ((l0.length : Int) : Int).toNat ≤ 35184372088832 then (impl_evenCase.l0 k a1 a2 (l0.length : Int) 0 t306 ([] : List Int) (List.replicate ((l0.length : Int) : Int).toNat 0) ([] : List Int)) else (none)) else (none))) = some (r1, r2, r3, r4) := h
 clear h
 replace H := Option.bind_eq_some_iff.mp H
 obtain ⟨t306, A40, H⟩ := H
 replace H : (if 0 ≤ (l0.length : Int) then (if ((l0.length : Int) : Int).toNat ≤ 35184372088832 then (impl_evenCase.l0 k a1 a2 (l0.length : Int) 0 t306 ([] : List Int) (List.replicate ((l0.length : Int) : Int).toNat 0) ([] : List Int)) else (none)) else (none)) = some (r1, r2, r3, r4) := H
 have A4 := Aside0.mk A40
 clear A40
 by_cases c5 : 0 ≤ (l0.length : Int)
 · rw [if_pos c5] at H
   have c5b0 := eq_true c5
   have c5b1 : decide (0 ≤ (l0.length : Int)) = true := decide_eq_true c5
   clear c5
   by_cases c6 : ((l0.length : Int) : Int).toNat ≤ 35184372088832
   · rw [if_pos c6] at H
     have c6b0 := eq_true c6
     have c6b1 : decide (((l0.length : Int) : Int).toNat ≤ 35184372088832) = true := decide_eq_true c6
     clear c6
     obtain ⟨y309, hy309⟩ : ∃ y_ : List Int, y_ = (List.replicate ((l0.length : Int) : Int).toNat 0) := ⟨_, rfl⟩
     replace H : (impl_evenCase.l0 k a1 a2 (l0.length : Int) 0 t306 ([] : List Int) y309 ([] : List Int)) = some (r1, r2, r3, r4) := zY hy309
     have Ny309 := Aside0.mk hy309
     clear hy309
     have H' := Aside0.mk H
     clear H
     go_enter Try.func57, Try.ntmps57
     try go_wp2_with (first | ((with_reducible refine gate_dst (N := 6) rfl ?_); refine box_event ?hg (N := 6) ?hd (cs := #[.slice none 0 0, .slice none 0 0, .slice none 0 0, .slice none 0 0]) (t := 49) ?hr ?_; (case hd => rfl); (case hg => rfl); (case hr => first | (go_simp; done) | (go_simp; rfl)); intro gb305 hg w7 hbox hb; have BK305 := Aside0.mk (hbox); have GW305 := Aside0.mk ((z6 : w.heap.size ≤ gb305)); have GE305 := Aside0.mk ((z6 : w.heap.size ≤ gb305)); replace HB := zs0 hb; clear hb hbox hg))
     replace BK305 := Aside0.mk (blk_drew BK305.out)
     replace HB := Aside0.mk (below_drew1 HB.out)
     refine start_ (n := 8) (S := fun w' => True) (ds := []) #[false, false, false, false, false, false, false, false] (by kernel_rfl) rfl rfl trivial (fun hHeld => ?_); refine with_tabW impl_evenCase.tab1 impl_evenCase.bits1 (fun HT_ HW_ => ?_)
     generalize w7.drew = w8 at BK305 HB hHeld ⊢
     refine zP (i := 0) (N := some 8) #[true, false, false, false, false, false, false, false] (any_of HT_.out (by kernel_rfl)) ?_
     refine zP (i := 2) (N := some 10) #[true, false, true, false, false, false, false, false] (any_of HT_.out (by kernel_rfl)) ?_
     refine zP (i := 3) (N := some 11) #[true, false, true, true, false, false, false, false] (any_of HT_.out (by kernel_rfl)) ?_
     refine join_ (σ := Value × Value × Nat) 1 #[true, true, true, true, true, true, true, false] (fun s_ => [(9, s_.1), (12, s_.2.1), (7, .pointer (some ⟨s_.2.2, 0, none⟩)), (13, .agg #[s_.1, .slice none 0 0, s_.2.1, .slice none 0 0])]) (fun s_ w' => (Kd.R (Kd.int .i64) 3 w' w.heap.size (fun k_ => some k_ ≠ (s_.2.1 : Value).ownBlock) s_.1 t306) ∧ (Kd.R (Kd.int .i64) 3 w' w.heap.size (fun k_ => some k_ ≠ (s_.1 : Value).ownBlock) s_.2.1 y309) ∧ (w'.heap[gb305]? = some (.cells #[.slice none 0 0, .slice none 0 0, .slice none 0 0, .slice none 0 0] 49 (0, 0))) ∧ (w'.heap[s_.2.2]? = some (.cells #[.slice none 0 0, .slice none 0 0, .slice none 0 0, .slice none 0 0] 49 (0, 0))) ∧ (w.heap.size ≤ s_.2.2) ∧ (w.heap.size ≤ s_.2.2) ∧ (gb305 ≠ s_.2.2) ∧ (s_.2.2 ≠ gb305) ∧ (Below w.heap.size w w')) ?_ ?_
     rotate_left
     · intro hJ1_4_6
       refine join_ (σ := Value × Value) 2 #[true, true, true, true, true, true, false, false] (fun s_ => [(9, s_.1), (12, s_.2), (13, .agg #[s_.1, .slice none 0 0, s_.2, .slice none 0 0])]) (fun s_ w' => (Kd.R (Kd.int .i64) 3 w' w.heap.size (fun k_ => some k_ ≠ (s_.2 : Value).ownBlock) s_.1 t306) ∧ (Kd.R (Kd.int .i64) 3 w' w.heap.size (fun k_ => some k_ ≠ (s_.1 : Value).ownBlock) s_.2 y309) ∧ (w'.heap[gb305]? = some (.cells #[.slice none 0 0, .slice none 0 0, .slice none 0 0, .slice none 0 0] 49 (0, 0))) ∧ (Below w.heap.size w w')) ?_ ?_
       rotate_left
       · intro hJ1_4
         refine join_ (σ := Value × Nat) 3 #[true, true, true, true, false, false, true, false] (fun s_ => [(9, s_.1), (7, .pointer (some ⟨s_.2, 0, none⟩))]) (fun s_ w' => (Kd.R (Kd.int .i64) 3 w' w.heap.size (fun _ => True) s_.1 t306) ∧ (w'.heap[gb305]? = some (.cells #[.slice none 0 0, .slice none 0 0, .slice none 0 0, .slice none 0 0] 49 (0, 0))) ∧ (w'.heap[s_.2]? = some (.cells #[.slice none 0 0, .slice none 0 0, .slice none 0 0, .slice none 0 0] 49 (0, 0))) ∧ (w.heap.size ≤ s_.2) ∧ (w.heap.size ≤ s_.2) ∧ (gb305 ≠ s_.2) ∧ (s_.2 ≠ gb305) ∧ (Below w.heap.size w w')) ?_ ?_
         rotate_left
         · intro hJ1_6
           refine join_ (σ := Value × Nat) 3 #[true, false, true, true, true, false, true, false] (fun s_ => [(12, s_.1), (7, .pointer (some ⟨s_.2, 0, none⟩))]) (fun s_ w' => (Kd.R (Kd.int .i64) 3 w' w.heap.size (fun _ => True) s_.1 y309) ∧ (w'.heap[gb305]? = some (.cells #[.slice none 0 0, .slice none 0 0, .slice none 0 0, .slice none 0 0] 49 (0, 0))) ∧ (w'.heap[s_.2]? = some (.cells #[.slice none 0 0, .slice none 0 0, .slice none 0 0, .slice none 0 0] 49 (0, 0))) ∧ (w.heap.size ≤ s_.2) ∧ (w.heap.size ≤ s_.2) ∧ (gb305 ≠ s_.2) ∧ (s_.2 ≠ gb305) ∧ (Below w.heap.size w w')) ?_ ?_
           rotate_left
           · intro hJ4_6
             refine join_ (σ := Value) 4 #[true, true, true, true, false, false, false, false] (fun s_ => [(9, s_)]) (fun s_ w' => (Kd.R (Kd.int .i64) 3 w' w.heap.size (fun _ => True) s_ t306) ∧ (w'.heap[gb305]? = some (.cells #[.slice none 0 0, .slice none 0 0, .slice none 0 0, .slice none 0 0] 49 (0, 0))) ∧ (Below w.heap.size w w')) ?_ ?_
             rotate_left
             · intro hJ1
               refine join_ (σ := Value) 4 #[true, false, true, true, true, false, false, false] (fun s_ => [(12, s_)]) (fun s_ w' => (Kd.R (Kd.int .i64) 3 w' w.heap.size (fun _ => True) s_ y309) ∧ (w'.heap[gb305]? = some (.cells #[.slice none 0 0, .slice none 0 0, .slice none 0 0, .slice none 0 0] 49 (0, 0))) ∧ (Below w.heap.size w w')) ?_ ?_
               rotate_left
               · intro hJ4
                 refine join_ (σ := Nat) 4 #[true, false, true, true, false, false, true, false] (fun s_ => [(7, .pointer (some ⟨s_, 0, none⟩))]) (fun s_ w' => (w'.heap[gb305]? = some (.cells #[.slice none 0 0, .slice none 0 0, .slice none 0 0, .slice none 0 0] 49 (0, 0))) ∧ (w'.heap[s_]? = some (.cells #[.slice none 0 0, .slice none 0 0, .slice none 0 0, .slice none 0 0] 49 (0, 0))) ∧ (w.heap.size ≤ s_) ∧ (w.heap.size ≤ s_) ∧ (gb305 ≠ s_) ∧ (s_ ≠ gb305) ∧ (Below w.heap.size w w')) ?_ ?_
                 rotate_left
                 · intro hJ6
                   refine three_ (i := 1) (j := 4) (k := 6) (Ni := some 9) (Nj := some 12) (Nk := some 7) #[true, true, true, true, false, false, false, false] #[true, false, true, true, true, false, false, false] #[true, false, true, true, false, false, true, false] rfl rfl rfl rfl rfl rfl (three_of HT_.out (by kernel_rfl)) (by decide) (by decide) (by decide) (fun K hK => ?_) (fun K hK => ?_) (fun K hK => ?_)
                   · skip
                     refine goes_ Try.func110 (by kernel_rfl) rfl #[.slice A0 l0.length c0] (by rfl) rfl rfl z2 ?_
                     with_reducible refine (impl_copied.calls _ _ l0 t306 _ ?side1 ?side2 A4.out).mono ?_
                     (case side1 => exact zC (Kd.C_below HR0.out HB.out))
                     (case side2 => exact HC0.out)
                     rintro e w9 ⟨v307, rfl, ho0, hb⟩
                     refine ⟨_, rfl, ?_⟩
                     have HO308 := Aside0.mk (Kd.R_lower ho0 (below_size (zH1 GE305.out)))
                     replace BK305 := zb BK305 hb
                     replace HB := zs1 GE305.out hb
                     (try clear hb)
                     (try clear hb2)
                     (try clear hk)
                     (try clear hi)
                     (try clear ho0)
                     refine hK.out _ _ trivial (fun hHeld => ?_)
                     clear hK K
                     refine zU (some 9) ?_
                     exact norm_ z7 (hJ1 (v307) _ ⟨(zR HO308.out), (zB BK305.out), (zH1 GE305.out)⟩)
                   · skip
                     refine Kd.R_make_step (Kd.int .i64) _ 3 (by rfl) (N := 12) rfl 24 _ _ rfl (l0.length : Int) rfl rfl Try.underlying24 (.int .i64 0) 8 info3 rfl (by decide) (by omega) 0 (ok := fun _ => True) (okp := fun _ => True) rfl (fun _ hk => hk) trivial (of_decide_eq_true z1) (Nat.le_trans (Nat.mul_le_mul_right _ (of_decide_eq_true z1 : (l0.length : Int).toNat ≤ 35184372088832)) (by omega)) (Below.refl _ _) (Nat.le_refl _) ?_
                     intro v310 w9 ho10 hb hg_ hnew_
                     clear hg_ hnew_
                     (first | rw [← Ny309.out] at ho10 | (simp only [Int.reduceToNat] at ho10; rw [← Ny309.out] at ho10))
                     have HO311 := Aside0.mk (Kd.R_lower ho10 (below_size (zH1 GE305.out)))
                     replace BK305 := zb BK305 hb
                     replace HB := zs1 GE305.out hb
                     clear hb ho10
                     refine hK.out _ _ trivial (fun hHeld => ?_)
                     clear hK K
                     refine zU (some 12) ?_
                     exact norm_ z7 (hJ4 (v310) _ ⟨(zR HO311.out), (zB BK305.out), (zH1 GE305.out)⟩)
                   · skip
                     refine box_step ?hg (N := 7) ?hd (cs := #[.slice none 0 0, .slice none 0 0, .slice none 0 0, .slice none 0 0]) (t := 49) ?hr ?_; (case hd => rfl); (case hg => rfl); (case hr => first | (go_simp; done) | (go_simp; rfl))
                     intro gb312 hg w9 hbox hb
                     have BK312 := Aside0.mk (hbox)
                     have GW312 := Aside0.mk ((z42 : w.heap.size ≤ gb312))
                     have GE312 := Aside0.mk ((z42 : w.heap.size ≤ gb312))
                     have NB305_312 := Aside0.mk ((z30 : gb305 ≠ gb312))
                     have NB312_305 := Aside0.mk ((z31 : gb312 ≠ gb305))
                     replace BK305 := zb BK305 hb
                     replace HB := zs1 GE305.out hb
                     clear hb hbox hg
                     refine hK.out _ _ trivial (fun hHeld => ?_)
                     clear hK K
                     refine zU (some 7) ?_
                     exact norm_ z7 (hJ6 (gb312) _ ⟨(zB BK305.out), (zB BK312.out), GW312.out, GE312.out, NB305_312.out, NB312_305.out, (zH2 GE305.out GE312.out)⟩)
                 · skip
                   rintro gb312 w10 ⟨h0_, h1_, h2_, h3_, h4_, h5_, h6_⟩
                   have BK312 : Aside0 (w10.heap[gb312]? = some (.cells #[.slice none 0 0, .slice none 0 0, .slice none 0 0, .slice none 0 0] 49 (0, 0))) := ⟨h1_⟩
                   have GW312 : Aside0 (w.heap.size ≤ gb312) := ⟨h2_⟩
                   have GE312 : Aside0 (w.heap.size ≤ gb312) := ⟨h3_⟩
                   have NB305_312 : Aside0 (gb305 ≠ gb312) := ⟨h4_⟩
                   have NB312_305 : Aside0 (gb312 ≠ gb305) := ⟨h5_⟩
                   replace BK305 : Aside0 (w10.heap[gb305]? = some (.cells #[.slice none 0 0, .slice none 0 0, .slice none 0 0, .slice none 0 0] 49 (0, 0))) := ⟨h0_⟩
                   replace HB : Aside0 (Below w.heap.size w w10) := ⟨h6_⟩
                   clear h0_ h1_ h2_ h3_ h4_ h5_ h6_
                   have hHeld := trivial
                   refine zW ?_
                   refine two_ (i := 1) (j := 4) (Ni := some 9) (Nj := some 12) #[true, true, true, true, false, false, true, false] #[true, false, true, true, true, false, true, false] rfl rfl rfl rfl (two_of HT_.out (by kernel_rfl)) (by decide) (by decide) (fun K hK => ?_) (fun K hK => ?_)
                   · skip
                     refine goes_ Try.func110 (by kernel_rfl) rfl #[.slice A0 l0.length c0] (by rfl) rfl rfl z2 ?_
                     with_reducible refine (impl_copied.calls _ _ l0 t306 _ ?side1 ?side2 A4.out).mono ?_
                     (case side1 => exact zC (Kd.C_below HR0.out HB.out))
                     (case side2 => exact HC0.out)
                     rintro e w11 ⟨v307, rfl, ho0, hb⟩
                     refine ⟨_, rfl, ?_⟩
                     have HO308 := Aside0.mk (Kd.R_lower ho0 (below_size (zH2 GE305.out GE312.out)))
                     replace BK305 := zb BK305 hb
                     replace BK312 := zb BK312 hb
                     replace HB := zs2 GE305.out GE312.out hb
                     (try clear hb)
                     (try clear hb2)
                     (try clear hk)
                     (try clear hi)
                     (try clear ho0)
                     refine hK.out _ _ trivial (fun hHeld => ?_)
                     clear hK K
                     refine zU (some 9) ?_
                     exact norm_ z7 (hJ1_6 (v307, gb312) _ ⟨(zR HO308.out), (zB BK305.out), (zB BK312.out), GW312.out, GE312.out, NB305_312.out, NB312_305.out, (zH2 GE305.out GE312.out)⟩)
                   · skip
                     refine Kd.R_make_step (Kd.int .i64) _ 3 (by rfl) (N := 12) rfl 24 _ _ rfl (l0.length : Int) rfl rfl Try.underlying24 (.int .i64 0) 8 info3 rfl (by decide) (by omega) 0 (ok := fun _ => True) (okp := fun _ => True) rfl (fun _ hk => hk) trivial (of_decide_eq_true z1) (Nat.le_trans (Nat.mul_le_mul_right _ (of_decide_eq_true z1 : (l0.length : Int).toNat ≤ 35184372088832)) (by omega)) (Below.refl _ _) (Nat.le_refl _) ?_
                     intro v310 w11 ho12 hb hg_ hnew_
                     clear hg_ hnew_
                     (first | rw [← Ny309.out] at ho12 | (simp only [Int.reduceToNat] at ho12; rw [← Ny309.out] at ho12))
                     have HO311 := Aside0.mk (Kd.R_lower ho12 (below_size (zH2 GE305.out GE312.out)))
                     replace BK305 := zb BK305 hb
                     replace BK312 := zb BK312 hb
                     replace HB := zs2 GE305.out GE312.out hb
                     clear hb ho12
                     refine hK.out _ _ trivial (fun hHeld => ?_)
                     clear hK K
                     refine zU (some 12) ?_
                     exact norm_ z7 (hJ4_6 (v310, gb312) _ ⟨(zR HO311.out), (zB BK305.out), (zB BK312.out), GW312.out, GE312.out, NB305_312.out, NB312_305.out, (zH2 GE305.out GE312.out)⟩)
               · skip
                 rintro v310 w11 ⟨h0_, h1_, h2_⟩
                 have HO311 : Aside0 (Kd.R (Kd.int .i64) 3 w11 w.heap.size (fun _ => True) v310 y309) := ⟨h0_⟩
                 replace BK305 : Aside0 (w11.heap[gb305]? = some (.cells #[.slice none 0 0, .slice none 0 0, .slice none 0 0, .slice none 0 0] 49 (0, 0))) := ⟨h1_⟩
                 replace HB : Aside0 (Below w.heap.size w w11) := ⟨h2_⟩
                 clear h0_ h1_ h2_
                 have hHeld := trivial
                 refine zW ?_
                 refine two_ (i := 1) (j := 6) (Ni := some 9) (Nj := some 7) #[true, true, true, true, true, false, false, false] #[true, false, true, true, true, false, true, false] rfl rfl rfl rfl (two_of HT_.out (by kernel_rfl)) (by decide) (by decide) (fun K hK => ?_) (fun K hK => ?_)
                 · skip
                   refine goes_ Try.func110 (by kernel_rfl) rfl #[.slice A0 l0.length c0] (by rfl) rfl rfl z2 ?_
                   with_reducible refine (impl_copied.calls _ _ l0 t306 _ ?side1 ?side2 A4.out).mono ?_
                   (case side1 => exact zC (Kd.C_below HR0.out HB.out))
                   (case side2 => exact HC0.out)
                   rintro e w12 ⟨v307, rfl, ho0, hb⟩
                   refine ⟨_, rfl, ?_⟩
                   have HO308 := Aside0.mk (Kd.R_lower (Kd.R_new' ho0 (Kd.R_lt (zR HO311.out))) (below_size (zH1 GE305.out)))
                   replace HO311 := zRe HO311 (Kd.R_base ho0) hb
                   replace BK305 := zb BK305 hb
                   replace HB := zs1 GE305.out hb
                   (try clear hb)
                   (try clear hb2)
                   (try clear hk)
                   (try clear hi)
                   (try clear ho0)
                   obtain ⟨Ao13, co13, eo13⟩ := Kd.R_slice HO311.out
                   (first | subst eo13 | (injection eo13 with f1_ f2_ f3_; have f4_ := f1_.symm; have f5_ := f3_.symm; clear f1_ f2_ f3_; subst f4_; subst f5_))
                   obtain ⟨Ao14, co14, eo14⟩ := Kd.R_slice HO308.out
                   (first | subst eo14 | (injection eo14 with f1_ f2_ f3_; have f4_ := f1_.symm; have f5_ := f3_.symm; clear f1_ f2_ f3_; subst f4_; subst f5_))
                   refine hK.out _ _ trivial (fun hHeld => ?_)
                   clear hK K
                   refine zU (some 9) ?_
                   refine zP (i := 5) (N := some 13) #[true, true, true, true, true, true, false, false] (any_of HT_.out (by kernel_rfl)) ?_
                   exact norm_ z7 (hJ1_4 (.slice Ao14 t306.length co14, .slice Ao13 y309.length co13) _ ⟨z34, z33, (zB BK305.out), (zH1 GE305.out)⟩)
                 · skip
                   refine box_step ?hg (N := 7) ?hd (cs := #[.slice none 0 0, .slice none 0 0, .slice none 0 0, .slice none 0 0]) (t := 49) ?hr ?_; (case hd => rfl); (case hg => rfl); (case hr => first | (go_simp; done) | (go_simp; rfl))
                   intro gb312 hg w12 hbox hb
                   have BK312 := Aside0.mk (hbox)
                   have GW312 := Aside0.mk ((z42 : w.heap.size ≤ gb312))
                   have GE312 := Aside0.mk ((z42 : w.heap.size ≤ gb312))
                   have NB305_312 := Aside0.mk ((z30 : gb305 ≠ gb312))
                   have NB312_305 := Aside0.mk ((z31 : gb312 ≠ gb305))
                   replace HO311 := zRb HO311 hb
                   replace BK305 := zb BK305 hb
                   replace HB := zs1 GE305.out hb
                   clear hb hbox hg
                   refine hK.out _ _ trivial (fun hHeld => ?_)
                   clear hK K
                   refine zU (some 7) ?_
                   exact norm_ z7 (hJ4_6 (v310, gb312) _ ⟨(zR HO311.out), (zB BK305.out), (zB BK312.out), GW312.out, GE312.out, NB305_312.out, NB312_305.out, (zH2 GE305.out GE312.out)⟩)
             · skip
               rintro v307 w10 ⟨h0_, h1_, h2_⟩
               have HO308 : Aside0 (Kd.R (Kd.int .i64) 3 w10 w.heap.size (fun _ => True) v307 t306) := ⟨h0_⟩
               replace BK305 : Aside0 (w10.heap[gb305]? = some (.cells #[.slice none 0 0, .slice none 0 0, .slice none 0 0, .slice none 0 0] 49 (0, 0))) := ⟨h1_⟩
               replace HB : Aside0 (Below w.heap.size w w10) := ⟨h2_⟩
               clear h0_ h1_ h2_
               have hHeld := trivial
               refine zW ?_
               refine two_ (i := 4) (j := 6) (Ni := some 12) (Nj := some 7) #[true, true, true, true, true, false, false, false] #[true, true, true, true, false, false, true, false] rfl rfl rfl rfl (two_of HT_.out (by kernel_rfl)) (by decide) (by decide) (fun K hK => ?_) (fun K hK => ?_)
               · skip
                 refine Kd.R_make_step (Kd.int .i64) _ 3 (by rfl) (N := 12) rfl 24 _ _ rfl (l0.length : Int) rfl rfl Try.underlying24 (.int .i64 0) 8 info3 rfl (by decide) (by omega) 0 (ok := fun _ => True) (okp := fun _ => True) rfl (fun _ hk => hk) trivial (of_decide_eq_true z1) (Nat.le_trans (Nat.mul_le_mul_right _ (of_decide_eq_true z1 : (l0.length : Int).toNat ≤ 35184372088832)) (by omega)) (Below.refl _ _) (Nat.le_refl _) ?_
                 intro v310 w11 ho12 hb hg_ hnew_
                 clear hg_ hnew_
                 (first | rw [← Ny309.out] at ho12 | (simp only [Int.reduceToNat] at ho12; rw [← Ny309.out] at ho12))
                 have HO311 := Aside0.mk (Kd.R_lower (Kd.R_new' ho12 (Kd.R_lt (zR HO308.out))) (below_size (zH1 GE305.out)))
                 replace HO308 := zRe HO308 (Kd.R_base ho12) hb
                 replace BK305 := zb BK305 hb
                 replace HB := zs1 GE305.out hb
                 clear hb ho12
                 obtain ⟨Ao13, co13, eo13⟩ := Kd.R_slice HO311.out
                 (first | subst eo13 | (injection eo13 with f1_ f2_ f3_; have f4_ := f1_.symm; have f5_ := f3_.symm; clear f1_ f2_ f3_; subst f4_; subst f5_))
                 obtain ⟨Ao14, co14, eo14⟩ := Kd.R_slice HO308.out
                 (first | subst eo14 | (injection eo14 with f1_ f2_ f3_; have f4_ := f1_.symm; have f5_ := f3_.symm; clear f1_ f2_ f3_; subst f4_; subst f5_))
                 refine hK.out _ _ trivial (fun hHeld => ?_)
                 clear hK K
                 refine zU (some 12) ?_
                 refine zP (i := 5) (N := some 13) #[true, true, true, true, true, true, false, false] (any_of HT_.out (by kernel_rfl)) ?_
                 exact norm_ z7 (hJ1_4 (.slice Ao14 t306.length co14, .slice Ao13 y309.length co13) _ ⟨z34, z33, (zB BK305.out), (zH1 GE305.out)⟩)
               · skip
                 refine box_step ?hg (N := 7) ?hd (cs := #[.slice none 0 0, .slice none 0 0, .slice none 0 0, .slice none 0 0]) (t := 49) ?hr ?_; (case hd => rfl); (case hg => rfl); (case hr => first | (go_simp; done) | (go_simp; rfl))
                 intro gb312 hg w11 hbox hb
                 have BK312 := Aside0.mk (hbox)
                 have GW312 := Aside0.mk ((z42 : w.heap.size ≤ gb312))
                 have GE312 := Aside0.mk ((z42 : w.heap.size ≤ gb312))
                 have NB305_312 := Aside0.mk ((z30 : gb305 ≠ gb312))
                 have NB312_305 := Aside0.mk ((z31 : gb312 ≠ gb305))
                 replace HO308 := zRb HO308 hb
                 replace BK305 := zb BK305 hb
                 replace HB := zs1 GE305.out hb
                 clear hb hbox hg
                 refine hK.out _ _ trivial (fun hHeld => ?_)
                 clear hK K
                 refine zU (some 7) ?_
                 exact norm_ z7 (hJ1_6 (v307, gb312) _ ⟨(zR HO308.out), (zB BK305.out), (zB BK312.out), GW312.out, GE312.out, NB305_312.out, NB312_305.out, (zH2 GE305.out GE312.out)⟩)
           · skip
             rintro ⟨v310, gb312⟩ w12 ⟨h0_, h1_, h2_, h3_, h4_, h5_, h6_, h7_⟩
             have HO311 : Aside0 (Kd.R (Kd.int .i64) 3 w12 w.heap.size (fun _ => True) v310 y309) := ⟨h0_⟩
             have BK312 : Aside0 (w12.heap[gb312]? = some (.cells #[.slice none 0 0, .slice none 0 0, .slice none 0 0, .slice none 0 0] 49 (0, 0))) := ⟨h2_⟩
             have GW312 : Aside0 (w.heap.size ≤ gb312) := ⟨h3_⟩
             have GE312 : Aside0 (w.heap.size ≤ gb312) := ⟨h4_⟩
             have NB305_312 : Aside0 (gb305 ≠ gb312) := ⟨h5_⟩
             have NB312_305 : Aside0 (gb312 ≠ gb305) := ⟨h6_⟩
             replace BK305 : Aside0 (w12.heap[gb305]? = some (.cells #[.slice none 0 0, .slice none 0 0, .slice none 0 0, .slice none 0 0] 49 (0, 0))) := ⟨h1_⟩
             replace HB : Aside0 (Below w.heap.size w w12) := ⟨h7_⟩
             clear h0_ h1_ h2_ h3_ h4_ h5_ h6_ h7_
             have hHeld := trivial
             refine zW ?_
             refine one_ (i := 1) (N := some 9) #[true, true, true, true, true, false, true, false] rfl rfl (one_of HT_.out (by kernel_rfl)) (by decide) (fun K hK => ?_)
             refine goes_ Try.func110 (by kernel_rfl) rfl #[.slice A0 l0.length c0] (by rfl) rfl rfl z2 ?_
             with_reducible refine (impl_copied.calls _ _ l0 t306 _ ?side1 ?side2 A4.out).mono ?_
             (case side1 => exact zC (Kd.C_below HR0.out HB.out))
             (case side2 => exact HC0.out)
             rintro e w13 ⟨v307, rfl, ho0, hb⟩
             refine ⟨_, rfl, ?_⟩
             have HO308 := Aside0.mk (Kd.R_lower (Kd.R_new' ho0 (Kd.R_lt (zR HO311.out))) (below_size (zH2 GE305.out GE312.out)))
             replace HO311 := zRe HO311 (Kd.R_base ho0) hb
             replace BK305 := zb BK305 hb
             replace BK312 := zb BK312 hb
             replace HB := zs2 GE305.out GE312.out hb
             (try clear hb)
             (try clear hb2)
             (try clear hk)
             (try clear hi)
             (try clear ho0)
             obtain ⟨Ao14, co14, eo14⟩ := Kd.R_slice HO311.out
             (first | subst eo14 | (injection eo14 with f1_ f2_ f3_; have f4_ := f1_.symm; have f5_ := f3_.symm; clear f1_ f2_ f3_; subst f4_; subst f5_))
             obtain ⟨Ao15, co15, eo15⟩ := Kd.R_slice HO308.out
             (first | subst eo15 | (injection eo15 with f1_ f2_ f3_; have f4_ := f1_.symm; have f5_ := f3_.symm; clear f1_ f2_ f3_; subst f4_; subst f5_))
             refine hK.out _ _ trivial (fun hHeld => ?_)
             clear hK K
             refine zU (some 9) ?_
             refine zP (i := 5) (N := some 13) #[true, true, true, true, true, true, true, false] (any_of HT_.out (by kernel_rfl)) ?_
             exact norm_ z7 (hJ1_4_6 (.slice Ao15 t306.length co15, .slice Ao14 y309.length co14, gb312) _ ⟨z34, z33, (zB BK305.out), (zB BK312.out), GW312.out, GE312.out, NB305_312.out, NB312_305.out, (zH2 GE305.out GE312.out)⟩)
         · skip
           rintro ⟨v307, gb312⟩ w11 ⟨h0_, h1_, h2_, h3_, h4_, h5_, h6_, h7_⟩
           have HO308 : Aside0 (Kd.R (Kd.int .i64) 3 w11 w.heap.size (fun _ => True) v307 t306) := ⟨h0_⟩
           have BK312 : Aside0 (w11.heap[gb312]? = some (.cells #[.slice none 0 0, .slice none 0 0, .slice none 0 0, .slice none 0 0] 49 (0, 0))) := ⟨h2_⟩
           have GW312 : Aside0 (w.heap.size ≤ gb312) := ⟨h3_⟩
           have GE312 : Aside0 (w.heap.size ≤ gb312) := ⟨h4_⟩
           have NB305_312 : Aside0 (gb305 ≠ gb312) := ⟨h5_⟩
           have NB312_305 : Aside0 (gb312 ≠ gb305) := ⟨h6_⟩
           replace BK305 : Aside0 (w11.heap[gb305]? = some (.cells #[.slice none 0 0, .slice none 0 0, .slice none 0 0, .slice none 0 0] 49 (0, 0))) := ⟨h1_⟩
           replace HB : Aside0 (Below w.heap.size w w11) := ⟨h7_⟩
           clear h0_ h1_ h2_ h3_ h4_ h5_ h6_ h7_
           have hHeld := trivial
           refine zW ?_
           refine one_ (i := 4) (N := some 12) #[true, true, true, true, true, false, true, false] rfl rfl (one_of HT_.out (by kernel_rfl)) (by decide) (fun K hK => ?_)
           refine Kd.R_make_step (Kd.int .i64) _ 3 (by rfl) (N := 12) rfl 24 _ _ rfl (l0.length : Int) rfl rfl Try.underlying24 (.int .i64 0) 8 info3 rfl (by decide) (by omega) 0 (ok := fun _ => True) (okp := fun _ => True) rfl (fun _ hk => hk) trivial (of_decide_eq_true z1) (Nat.le_trans (Nat.mul_le_mul_right _ (of_decide_eq_true z1 : (l0.length : Int).toNat ≤ 35184372088832)) (by omega)) (Below.refl _ _) (Nat.le_refl _) ?_
           intro v310 w12 ho13 hb hg_ hnew_
           clear hg_ hnew_
           (first | rw [← Ny309.out] at ho13 | (simp only [Int.reduceToNat] at ho13; rw [← Ny309.out] at ho13))
           have HO311 := Aside0.mk (Kd.R_lower (Kd.R_new' ho13 (Kd.R_lt (zR HO308.out))) (below_size (zH2 GE305.out GE312.out)))
           replace HO308 := zRe HO308 (Kd.R_base ho13) hb
           replace BK305 := zb BK305 hb
           replace BK312 := zb BK312 hb
           replace HB := zs2 GE305.out GE312.out hb
           clear hb ho13
           obtain ⟨Ao14, co14, eo14⟩ := Kd.R_slice HO311.out
           (first | subst eo14 | (injection eo14 with f1_ f2_ f3_; have f4_ := f1_.symm; have f5_ := f3_.symm; clear f1_ f2_ f3_; subst f4_; subst f5_))
           obtain ⟨Ao15, co15, eo15⟩ := Kd.R_slice HO308.out
           (first | subst eo15 | (injection eo15 with f1_ f2_ f3_; have f4_ := f1_.symm; have f5_ := f3_.symm; clear f1_ f2_ f3_; subst f4_; subst f5_))
           refine hK.out _ _ trivial (fun hHeld => ?_)
           clear hK K
           refine zU (some 12) ?_
           refine zP (i := 5) (N := some 13) #[true, true, true, true, true, true, true, false] (any_of HT_.out (by kernel_rfl)) ?_
           exact norm_ z7 (hJ1_4_6 (.slice Ao15 t306.length co15, .slice Ao14 y309.length co14, gb312) _ ⟨z34, z33, (zB BK305.out), (zB BK312.out), GW312.out, GE312.out, NB305_312.out, NB312_305.out, (zH2 GE305.out GE312.out)⟩)
       · skip
         rintro ⟨v307, v310⟩ w14 ⟨h0_, h1_, h2_, h3_⟩
         have HO308 : Aside0 (Kd.R (Kd.int .i64) 3 w14 w.heap.size (fun k_ => some k_ ≠ (v310 : Value).ownBlock) v307 t306) := ⟨h0_⟩
         have HO311 : Aside0 (Kd.R (Kd.int .i64) 3 w14 w.heap.size (fun k_ => some k_ ≠ (v307 : Value).ownBlock) v310 y309) := ⟨h1_⟩
         replace BK305 : Aside0 (w14.heap[gb305]? = some (.cells #[.slice none 0 0, .slice none 0 0, .slice none 0 0, .slice none 0 0] 49 (0, 0))) := ⟨h2_⟩
         replace HB : Aside0 (Below w.heap.size w w14) := ⟨h3_⟩
         clear h0_ h1_ h2_ h3_
         have hHeld := trivial
         obtain ⟨Ao15, co15, eo15⟩ := Kd.R_slice HO311.out
         (first | subst eo15 | (injection eo15 with f1_ f2_ f3_; have f4_ := f1_.symm; have f5_ := f3_.symm; clear f1_ f2_ f3_; subst f4_; subst f5_))
         obtain ⟨Ao16, co16, eo16⟩ := Kd.R_slice HO308.out
         (first | subst eo16 | (injection eo16 with f1_ f2_ f3_; have f4_ := f1_.symm; have f5_ := f3_.symm; clear f1_ f2_ f3_; subst f4_; subst f5_))
         refine zW ?_
         refine one_ (i := 6) (N := some 7) #[true, true, true, true, true, true, true, false] rfl rfl (one_of HT_.out (by kernel_rfl)) (by decide) (fun K hK => ?_)
         refine box_step ?hg (N := 7) ?hd (cs := #[.slice none 0 0, .slice none 0 0, .slice none 0 0, .slice none 0 0]) (t := 49) ?hr ?_; (case hd => rfl); (case hg => rfl); (case hr => first | (go_simp; done) | (go_simp; rfl))
         intro gb312 hg w17 hbox hb
         have BK312 := Aside0.mk (hbox)
         have GW312 := Aside0.mk ((z42 : w.heap.size ≤ gb312))
         have GE312 := Aside0.mk ((z42 : w.heap.size ≤ gb312))
         have NB305_312 := Aside0.mk ((z30 : gb305 ≠ gb312))
         have NB312_305 := Aside0.mk ((z31 : gb312 ≠ gb305))
         replace HO308 := zRb HO308 hb
         replace HO311 := zRb HO311 hb
         replace BK305 := zb BK305 hb
         replace HB := zs1 GE305.out hb
         clear hb hbox hg
         refine hK.out _ _ trivial (fun hHeld => ?_)
         clear hK K
         refine zU (some 7) ?_
         exact norm_ z7 (hJ1_4_6 (.slice Ao16 t306.length co16, .slice Ao15 y309.length co15, gb312) _ ⟨(zR HO308.out), (zR HO311.out), (zB BK305.out), (zB BK312.out), GW312.out, GE312.out, NB305_312.out, NB312_305.out, (zH2 GE305.out GE312.out)⟩)
     rintro ⟨v307, v310, gb312⟩ w15 ⟨h0_, h1_, h2_, h3_, h4_, h5_, h6_, h7_, h8_⟩
     have HO308 : Aside0 (Kd.R (Kd.int .i64) 3 w15 w.heap.size (fun k_ => some k_ ≠ (v310 : Value).ownBlock) v307 t306) := ⟨h0_⟩
     have HO311 : Aside0 (Kd.R (Kd.int .i64) 3 w15 w.heap.size (fun k_ => some k_ ≠ (v307 : Value).ownBlock) v310 y309) := ⟨h1_⟩
     have BK312 : Aside0 (w15.heap[gb312]? = some (.cells #[.slice none 0 0, .slice none 0 0, .slice none 0 0, .slice none 0 0] 49 (0, 0))) := ⟨h3_⟩
     have GW312 : Aside0 (w.heap.size ≤ gb312) := ⟨h4_⟩
     have GE312 : Aside0 (w.heap.size ≤ gb312) := ⟨h5_⟩
     have NB305_312 : Aside0 (gb305 ≠ gb312) := ⟨h6_⟩
     have NB312_305 : Aside0 (gb312 ≠ gb305) := ⟨h7_⟩
     replace BK305 : Aside0 (w15.heap[gb305]? = some (.cells #[.slice none 0 0, .slice none 0 0, .slice none 0 0, .slice none 0 0] 49 (0, 0))) := ⟨h2_⟩
     replace HB : Aside0 (Below w.heap.size w w15) := ⟨h8_⟩
     clear h0_ h1_ h2_ h3_ h4_ h5_ h6_ h7_ h8_
     have hHeld := trivial
     obtain ⟨Ao16, co16, eo16⟩ := Kd.R_slice HO311.out
     (first | subst eo16 | (injection eo16 with f1_ f2_ f3_; have f4_ := f1_.symm; have f5_ := f3_.symm; clear f1_ f2_ f3_; subst f4_; subst f5_))
     obtain ⟨Ao17, co17, eo17⟩ := Kd.R_slice HO308.out
     (first | subst eo17 | (injection eo17 with f1_ f2_ f3_; have f4_ := f1_.symm; have f5_ := f3_.symm; clear f1_ f2_ f3_; subst f4_; subst f5_))
     refine zW ?_
     refine one_ (i := 7) (N := none) #[true, true, true, true, true, true, true, true] rfl rfl (one_of HT_.out (by kernel_rfl)) (by decide) (fun K hK => ?_)
     have hs18 : w15.cell? ⟨gb312, 0, none⟩ = some (.slice none 0 0) := (blk_cell BK312.out 0).trans rfl
     have hfs18 := blk_frozen BK312.out 0
     have hns18_0 := NB305_312.out
     have hms18_0 := NB312_305.out
     have hs19 : w15.cell? ⟨gb312, 1, none⟩ = some (.slice none 0 0) := (blk_cell BK312.out 1).trans rfl
     have hfs19 := blk_frozen BK312.out 1
     have hns19_0 := NB305_312.out
     have hms19_0 := NB312_305.out
     have hs20 : w15.cell? ⟨gb312, 2, none⟩ = some (.slice none 0 0) := (blk_cell BK312.out 2).trans rfl
     have hfs20 := blk_frozen BK312.out 2
     have hns20_0 := NB305_312.out
     have hms20_0 := NB312_305.out
     have hs21 : w15.cell? ⟨gb312, 3, none⟩ = some (.slice none 0 0) := (blk_cell BK312.out 3).trans rfl
     have hfs21 := blk_frozen BK312.out 3
     have hns21_0 := NB305_312.out
     have hms21_0 := NB312_305.out
     refine skip_ (w1 := ?_) (by rfl) rfl ?_ ?_
     rotate_left
     · go_simp
       rfl
     refine hK.out _ _ trivial (fun hHeld => ?_)
     clear hK K
     refine done_ (done_of HT_.out (by kernel_rfl)) ?_
     try go_wp2
     go_loopg [16] k (fun kq v16 w' => ∃ (x16_1 : Int) (x313001_1 : List Int) (x313003_1 : List Int) (u313001 : Value) (u313003 : Value), v16 = .int .i64 x16_1 ∧ Aside0 (impl_evenCase.l0 kq a1 a2 (l0.length : Int) x16_1 t306 x313001_1 y309 x313003_1 = some (r1, r2, r3, r4)) ∧ Aside0 (kq ≤ k) ∧ Aside0 (Kd.R (Kd.int .i64) 3 w' w.heap.size (fun k_ => some k_ ≠ (u313001 : Value).ownBlock ∧ some k_ ≠ ((.slice Ao16 y309.length co16) : Value).ownBlock ∧ some k_ ≠ (u313003 : Value).ownBlock) (.slice Ao17 t306.length co17) t306) ∧ Aside0 (Kd.R (Kd.int .i64) 3 w' w.heap.size (fun k_ => some k_ ≠ ((.slice Ao17 t306.length co17) : Value).ownBlock ∧ some k_ ≠ ((.slice Ao16 y309.length co16) : Value).ownBlock ∧ some k_ ≠ (u313003 : Value).ownBlock) u313001 x313001_1) ∧ Aside0 (Kd.R (Kd.int .i64) 3 w' w.heap.size (fun k_ => some k_ ≠ ((.slice Ao17 t306.length co17) : Value).ownBlock ∧ some k_ ≠ (u313001 : Value).ownBlock ∧ some k_ ≠ (u313003 : Value).ownBlock) (.slice Ao16 y309.length co16) y309) ∧ Aside0 (Kd.R (Kd.int .i64) 3 w' w.heap.size (fun k_ => some k_ ≠ ((.slice Ao17 t306.length co17) : Value).ownBlock ∧ some k_ ≠ (u313001 : Value).ownBlock ∧ some k_ ≠ ((.slice Ao16 y309.length co16) : Value).ownBlock) u313003 x313003_1) ∧ Aside0 (w'.heap[gb305]? = some (.cells #[(.slice none 0 0), (.slice none 0 0), (.slice none 0 0), (.slice none 0 0)] 49 (0, 0))) ∧ Aside0 (w'.heap[gb312]? = some (.cells #[(.slice Ao17 t306.length co17), u313001, (.slice Ao16 y309.length co16), u313003] 49 (0, 0))) ∧ Aside0 (Below w.heap.size w w'))
     case atStart => exact ⟨(0), (([] : List Int)), (([] : List Int)), (.slice none 0 0), (.slice none 0 0), z3, H', ⟨Nat.le_refl _⟩, ⟨(by (with_reducible repeat (first | apply Kd.R_alloc | apply Kd.R_drewN | apply Kd.R_drew)); exact Kd.R_mono (Kd.R_far (p := ⟨gb312, 3, none⟩) (Kd.R_far (p := ⟨gb312, 2, none⟩) (Kd.R_far (p := ⟨gb312, 1, none⟩) (Kd.R_far (p := ⟨gb312, 0, none⟩) (Kd.R_types HO308.out BK312.out (by decide)) (fun _ hk => hk.2) (.slice Ao17 t306.length co17)) (fun _ hk => hk.2) (.slice none 0 0)) (fun _ hk => hk.2) (.slice Ao16 y309.length co16)) (fun _ hk => hk.2) (.slice none 0 0)) (fun _ hk => ⟨(by simp [Value.ownBlock]), ⟨hk.1, (by simp [Value.ownBlock])⟩⟩))⟩, ⟨z43⟩, ⟨(by (with_reducible repeat (first | apply Kd.R_alloc | apply Kd.R_drewN | apply Kd.R_drew)); exact Kd.R_mono (Kd.R_far (p := ⟨gb312, 3, none⟩) (Kd.R_far (p := ⟨gb312, 2, none⟩) (Kd.R_far (p := ⟨gb312, 1, none⟩) (Kd.R_far (p := ⟨gb312, 0, none⟩) (Kd.R_types HO311.out BK312.out (by decide)) (fun _ hk => hk.2) (.slice Ao17 t306.length co17)) (fun _ hk => hk.2) (.slice none 0 0)) (fun _ hk => hk.2) (.slice Ao16 y309.length co16)) (fun _ hk => hk.2) (.slice none 0 0)) (fun _ hk => ⟨hk.1, ⟨(by simp [Value.ownBlock]), (by simp [Value.ownBlock])⟩⟩))⟩, ⟨z43⟩, ⟨(by (with_reducible repeat (first | refine blk_drewN ?_ _ | refine blk_drew ?_ | refine blk_alloc ?_ _)); refine blk_far ?_ NB305_312.out _; (with_reducible repeat (first | refine blk_drewN ?_ _ | refine blk_drew ?_ | refine blk_alloc ?_ _)); refine blk_far ?_ NB305_312.out _; (with_reducible repeat (first | refine blk_drewN ?_ _ | refine blk_drew ?_ | refine blk_alloc ?_ _)); refine blk_far ?_ NB305_312.out _; (with_reducible repeat (first | refine blk_drewN ?_ _ | refine blk_drew ?_ | refine blk_alloc ?_ _)); refine blk_far ?_ NB305_312.out _; (with_reducible repeat (first | refine blk_drewN ?_ _ | refine blk_drew ?_ | refine blk_alloc ?_ _)); exact BK305.out)⟩, ⟨(by (with_reducible repeat (first | refine blk_drewN ?_ _ | refine blk_drew ?_ | refine blk_alloc ?_ _)); refine blk_put (cs := #[.slice Ao17 t306.length co17, .slice none 0 0, .slice Ao16 y309.length co16, .slice none 0 0]) ?_ 3 _ rfl; (with_reducible repeat (first | refine blk_drewN ?_ _ | refine blk_drew ?_ | refine blk_alloc ?_ _)); refine blk_put (cs := #[.slice Ao17 t306.length co17, .slice none 0 0, .slice none 0 0, .slice none 0 0]) ?_ 2 _ rfl; (with_reducible repeat (first | refine blk_drewN ?_ _ | refine blk_drew ?_ | refine blk_alloc ?_ _)); refine blk_put (cs := #[.slice Ao17 t306.length co17, .slice none 0 0, .slice none 0 0, .slice none 0 0]) ?_ 1 _ rfl; (with_reducible repeat (first | refine blk_drewN ?_ _ | refine blk_drew ?_ | refine blk_alloc ?_ _)); refine blk_put (cs := #[.slice none 0 0, .slice none 0 0, .slice none 0 0, .slice none 0 0]) ?_ 0 _ rfl; (with_reducible repeat (first | refine blk_drewN ?_ _ | refine blk_drew ?_ | refine blk_alloc ?_ _)); exact BK312.out)⟩, ⟨(zH2 GE305.out GE312.out)⟩⟩
     case round =>
      clear H'
      try clear c1
      try clear p2
      try clear c11
      obtain ⟨x16_1, x313001_1, x313003_1, u313001, u313003, rfl, HA, HK1, HO_313000, HO_313001, HO_313002, HO_313003, BK305, BK312, HB⟩ := hrel
      cases gk with
      | zero => exact absurd HA.out (by simp [impl_evenCase.l0])
      | succ k1 =>
       have H := HA.out
       clear HA
       simp only [impl_evenCase.l0] at H
       by_cases c22 : x16_1 < (l0.length : Int)
       · rw [if_pos c22] at H
         have c22b0 : decide (x16_1 < (l0.length : Int)) = true := decide_eq_true c22
         clear c22
         obtain ⟨y313, hy313⟩ : ∃ y_ : List Int, y_ = (([a1] : List Int)) := ⟨_, rfl⟩
         replace H : (if x313001_1.length + y313.length < 17592186044416 then ((some (([a2] : List Int) : List Int)).bind fun y319 => (if x313003_1.length + y319.length < 17592186044416 then (impl_evenCase.l0 k1 a1 a2 (l0.length : Int) (wrap64 (x16_1 + 1)) t306 (x313001_1 ++ y313) y309 (x313003_1 ++ y319)) else (none))) else (none)) = some (r1, r2, r3, r4) := zY hy313
         have Ny313 := Aside0.mk hy313
         clear hy313
         by_cases c23 : x313001_1.length + y313.length < 17592186044416
         · rw [if_pos c23] at H
           have LMc23 := Aside0.mk c23
           clear c23
           obtain ⟨y316, hy316⟩ : ∃ y_ : List Int, y_ = (x313001_1 ++ y313) := ⟨_, rfl⟩
           replace H : ((some (([a2] : List Int) : List Int)).bind fun y319 => (if x313003_1.length + y319.length < 17592186044416 then (impl_evenCase.l0 k1 a1 a2 (l0.length : Int) (wrap64 (x16_1 + 1)) t306 y316 y309 (x313003_1 ++ y319)) else (none))) = some (r1, r2, r3, r4) := zY hy316
           have Ny316 := Aside0.mk hy316
           clear hy316
           obtain ⟨y319, hy319⟩ : ∃ y_ : List Int, y_ = (([a2] : List Int)) := ⟨_, rfl⟩
           replace H : (if x313003_1.length + y319.length < 17592186044416 then (impl_evenCase.l0 k1 a1 a2 (l0.length : Int) (wrap64 (x16_1 + 1)) t306 y316 y309 (x313003_1 ++ y319)) else (none)) = some (r1, r2, r3, r4) := zY hy319
           have Ny319 := Aside0.mk hy319
           clear hy319
           by_cases c24 : x313003_1.length + y319.length < 17592186044416
           · rw [if_pos c24] at H
             have LMc24 := Aside0.mk c24
             clear c24
             obtain ⟨y322, hy322⟩ : ∃ y_ : List Int, y_ = (x313003_1 ++ y319) := ⟨_, rfl⟩
             replace H : (impl_evenCase.l0 k1 a1 a2 (l0.length : Int) (wrap64 (x16_1 + 1)) t306 y316 y309 y322) = some (r1, r2, r3, r4) := zY hy322
             have Ny322 := Aside0.mk hy322
             clear hy322
             have H' := Aside0.mk H
             clear H
             obtain ⟨Ao25, co25, eo25⟩ := Kd.R_slice HO_313001.out
             subst eo25
             obtain ⟨Ao26, co26, eo26⟩ := Kd.R_slice HO_313003.out
             subst eo26
             try go_wp2
             replace HO_313000 := Aside0.mk (Kd.R_drew HO_313000.out)
             replace HO_313001 := Aside0.mk (Kd.R_drew HO_313001.out)
             replace HO_313002 := Aside0.mk (Kd.R_drew HO_313002.out)
             replace HO_313003 := Aside0.mk (Kd.R_drew HO_313003.out)
             replace BK305 := Aside0.mk (blk_drew BK305.out)
             replace BK312 := Aside0.mk (blk_drew BK312.out)
             replace HB := Aside0.mk (below_drew1 HB.out)
             refine start_ (n := 14) (S := fun w' => w'.cell? ⟨gb312, 0, none⟩ = some (.slice Ao17 t306.length co17) ∧ w'.cell? ⟨gb312, 1, none⟩ = some (.slice Ao25 x313001_1.length co25) ∧ w'.cell? ⟨gb312, 2, none⟩ = some (.slice Ao16 y309.length co16) ∧ w'.cell? ⟨gb312, 3, none⟩ = some (.slice Ao26 x313003_1.length co26)) (ds := [11, 13]) #[false, false, false, false, false, false, false, false, false, false, false, false, false, false] (by kernel_rfl) rfl rfl ⟨(blk_cell BK312.out 0).trans rfl, (blk_cell BK312.out 1).trans rfl, (blk_cell BK312.out 2).trans rfl, (blk_cell BK312.out 3).trans rfl⟩ (fun hHeld => ?_); refine with_tabW impl_evenCase.tab4 impl_evenCase.bits4 (fun HT_ HW_ => ?_)
             generalize wr.drew = w27 at HO_313000 HO_313001 HO_313002 HO_313003 BK305 BK312 HB hHeld ⊢
             refine zP (i := 0) (N := some 18) #[true, false, false, false, false, false, false, false, false, false, false, false, false, false] (any_of HT_.out (by kernel_rfl)) ?_
             refine zP (i := 2) (N := some 20) #[true, false, true, false, false, false, false, false, false, false, false, false, false, false] (any_of HT_.out (by kernel_rfl)) ?_
             refine zP (i := 5) (N := some 23) #[true, false, true, false, false, true, false, false, false, false, false, false, false, false] (any_of HT_.out (by kernel_rfl)) ?_
             refine zP (i := 7) (N := some 25) #[true, false, true, false, false, true, false, true, false, false, false, false, false, false] (any_of HT_.out (by kernel_rfl)) ?_
             refine take_ (i := 1) (N := some 19) (v := ?_) (a' := ?_) #[true, true, true, false, false, true, false, true, false, false, false, false, false, false] rfl rfl (take_ofW HT_.out HW_.out (by kernel_rfl)) (fun _ _ _ h => h) (Or.inl ⟨(by rfl), ?_⟩) hHeld ?_ ?_
             rotate_left
             · rintro w' ⟨s0, s1, s2, s3⟩
               go_simp
               with_reducible rfl
             rotate_left
             · simp only [Act.put, List.setIfInBounds_toArray, List.set_cons_zero, List.set_cons_succ, i64_w, i32_w]
               rfl
             refine take_ (i := 6) (N := some 24) (v := ?_) (a' := ?_) #[true, true, true, false, false, true, true, true, false, false, false, false, false, false] rfl rfl (take_ofW HT_.out HW_.out (by kernel_rfl)) (fun _ _ _ h => h) (Or.inl ⟨(by rfl), ?_⟩) hHeld ?_ ?_
             rotate_left
             · rintro w' ⟨s0, s1, s2, s3⟩
               go_simp
               with_reducible rfl
             rotate_left
             · simp only [Act.put, List.setIfInBounds_toArray, List.set_cons_zero, List.set_cons_succ, i64_w, i32_w]
               rfl
             refine join_ (σ := Value × Value × Value) 4 #[true, true, true, true, true, true, true, true, true, false, true, false, false, false] (fun s_ => [(21, s_.1), (22, s_.2.1), (26, s_.2.2), (28, .pointer (some ⟨gb312, 1, none⟩))]) (fun s_ w' => (w'.cell? ⟨gb312, 0, none⟩ = some (.slice Ao17 t306.length co17) ∧ w'.cell? ⟨gb312, 1, none⟩ = some (.slice Ao25 x313001_1.length co25) ∧ w'.cell? ⟨gb312, 2, none⟩ = some (.slice Ao16 y309.length co16) ∧ w'.cell? ⟨gb312, 3, none⟩ = some (.slice Ao26 x313003_1.length co26)) ∧ (Kd.R (Kd.int .i64) 3 w' w.heap.size (fun k_ => some k_ ≠ (s_.2.1 : Value).ownBlock ∧ some k_ ≠ (s_.2.2 : Value).ownBlock ∧ some k_ ≠ (.slice Ao17 t306.length co17 : Value).ownBlock ∧ some k_ ≠ (.slice Ao16 y309.length co16 : Value).ownBlock ∧ some k_ ≠ (.slice Ao26 x313003_1.length co26 : Value).ownBlock) s_.1 y313) ∧ (Kd.R (Kd.int .i64) 3 w' w.heap.size (fun k_ => some k_ ≠ (s_.1 : Value).ownBlock ∧ some k_ ≠ (s_.2.2 : Value).ownBlock ∧ some k_ ≠ (.slice Ao17 t306.length co17 : Value).ownBlock ∧ some k_ ≠ (.slice Ao16 y309.length co16 : Value).ownBlock ∧ some k_ ≠ (.slice Ao26 x313003_1.length co26 : Value).ownBlock) s_.2.1 y316) ∧ (Kd.R (Kd.int .i64) 3 w' w.heap.size (fun k_ => some k_ ≠ (s_.1 : Value).ownBlock ∧ some k_ ≠ (s_.2.1 : Value).ownBlock ∧ some k_ ≠ (.slice Ao17 t306.length co17 : Value).ownBlock ∧ some k_ ≠ (.slice Ao16 y309.length co16 : Value).ownBlock ∧ some k_ ≠ (.slice Ao26 x313003_1.length co26 : Value).ownBlock) s_.2.2 y319) ∧ (Kd.R (Kd.int .i64) 3 w' w.heap.size (fun k_ => some k_ ≠ (s_.1 : Value).ownBlock ∧ some k_ ≠ (s_.2.1 : Value).ownBlock ∧ some k_ ≠ (s_.2.2 : Value).ownBlock ∧ some k_ ≠ (.slice Ao16 y309.length co16 : Value).ownBlock ∧ some k_ ≠ (.slice Ao26 x313003_1.length co26 : Value).ownBlock) (.slice Ao17 t306.length co17) t306) ∧ (Kd.R (Kd.int .i64) 3 w' w.heap.size (fun k_ => some k_ ≠ (s_.1 : Value).ownBlock ∧ some k_ ≠ (s_.2.1 : Value).ownBlock ∧ some k_ ≠ (s_.2.2 : Value).ownBlock ∧ some k_ ≠ (.slice Ao17 t306.length co17 : Value).ownBlock ∧ some k_ ≠ (.slice Ao26 x313003_1.length co26 : Value).ownBlock) (.slice Ao16 y309.length co16) y309) ∧ (Kd.R (Kd.int .i64) 3 w' w.heap.size (fun k_ => some k_ ≠ (s_.1 : Value).ownBlock ∧ some k_ ≠ (s_.2.1 : Value).ownBlock ∧ some k_ ≠ (s_.2.2 : Value).ownBlock ∧ some k_ ≠ (.slice Ao17 t306.length co17 : Value).ownBlock ∧ some k_ ≠ (.slice Ao16 y309.length co16 : Value).ownBlock) (.slice Ao26 x313003_1.length co26) x313003_1) ∧ (w'.heap[gb305]? = some (.cells #[.slice none 0 0, .slice none 0 0, .slice none 0 0, .slice none 0 0] 49 (0, 0))) ∧ (w'.heap[gb312]? = some (.cells #[.slice Ao17 t306.length co17, .slice Ao25 x313001_1.length co25, .slice Ao16 y309.length co16, .slice Ao26 x313003_1.length co26] 49 (0, 0))) ∧ (Below w.heap.size w w')) ?_ ?_
             rotate_left
             · intro hCont
               refine two_ (i := 3) (j := 8) (Ni := some 21) (Nj := some 26) #[true, true, true, true, false, true, true, true, false, false, false, false, false, false] #[true, true, true, false, false, true, true, true, true, false, false, false, false, false] rfl rfl rfl rfl (two_of HT_.out (by kernel_rfl)) (by decide) (by decide) (fun K hK => ?_) (fun K hK => ?_)
               · skip
                 refine Kd.R_lit_step (Kd.int .i64) _ 3 ?hg (N := 21) ?hd (xs := ([a1] : List Int)) (inner := [.int .i64 a1]) (ok := fun _ => True) (okp := fun _ => True) ?hr ?hp (fun _ hk => hk) trivial (Below.refl _ _) (Nat.le_refl _) (by simp) ?_; (case hd => rfl); (case hg => rfl); (case hr => first | (go_simp; done) | (go_simp; rfl)); (case hp => exact (Reps.one (show Kd.M (Kd.int .i64) _ _ _ a1 [.int .i64 a1] from rfl) (Reps.none _ _)))
                 intro v314 w28 ho29 hb hg_ hnew_
                 clear hg_ hnew_
                 (first | rw [← Ny313.out] at ho29 | (simp only [Int.reduceToNat] at ho29; rw [← Ny313.out] at ho29))
                 have HO315 := Aside0.mk (Kd.R_lower (Kd.R_new' (Kd.R_new' (Kd.R_new' (Kd.R_new' ho29 (Kd.R_lt (zR HO_313000.out))) (Kd.R_lt (zR HO_313001.out))) (Kd.R_lt (zR HO_313002.out))) (Kd.R_lt (zR HO_313003.out))) (below_size (zH2 GE305.out GE312.out)))
                 replace HO_313000 := zRe HO_313000 (Kd.R_base ho29) hb
                 replace HO_313001 := zRe HO_313001 (Kd.R_base ho29) hb
                 replace HO_313002 := zRe HO_313002 (Kd.R_base ho29) hb
                 replace HO_313003 := zRe HO_313003 (Kd.R_base ho29) hb
                 replace BK305 := zb BK305 hb
                 replace BK312 := zb BK312 hb
                 replace HB := zs2 GE305.out GE312.out hb
                 clear hb ho29
                 obtain ⟨Ao31, co31, eo31⟩ := Kd.R_slice HO315.out
                 (first | subst eo31 | (injection eo31 with f1_ f2_ f3_; have f4_ := f1_.symm; have f5_ := f3_.symm; clear f1_ f2_ f3_; subst f4_; subst f5_))
                 refine hK.out _ _ ⟨(blk_cell BK312.out 0).trans rfl, (blk_cell BK312.out 1).trans rfl, (blk_cell BK312.out 2).trans rfl, (blk_cell BK312.out 3).trans rfl⟩ (fun hHeld => ?_)
                 clear hK K
                 refine zU (some 21) ?_
                 refine two_ (i := 4) (j := 8) (Ni := some 22) (Nj := some 26) #[true, true, true, true, true, true, true, true, false, false, false, false, false, false] #[true, true, true, true, false, true, true, true, true, false, false, false, false, false] rfl rfl rfl rfl (two_of HT_.out (by kernel_rfl)) (by decide) (by decide) (fun K hK => ?_) (fun K hK => ?_)
                 · skip
                   refine Kd.R_append_rows_step (Kd.int .i64) (w0 := w) w.heap.size (by rfl) (.tmp 19) (.tmp 21) 24 3 (.int .i64 0) 8 rfl Try.underlying24 info3 rfl (by decide) (by omega) (.slice Ao25 x313001_1.length co25) x313001_1 y313 _ _ _ (fun k_ => some k_ ≠ (.slice Ao17 t306.length co17 : Value).ownBlock ∧ some k_ ≠ (.slice Ao16 y309.length co16 : Value).ownBlock ∧ some k_ ≠ (.slice Ao26 x313003_1.length co26 : Value).ownBlock ∧ some k_ ≠ (.slice Ao31 y313.length co31 : Value).ownBlock) (fun _ => False) rfl rfl ?aO ?aR (fun _ _ h => h) (fun _ h => h.elim) ?aF ?aB ?aS ?aL ?_
                   (case aR => exact zC (Kd.R_reads' HO315.out).2.2)
                   (case aB => exact (zH2 GE305.out GE312.out))
                   (case aF => exact (fun k_ hk => ⟨Kd.fresh' (Kd.R_lt (zR HO_313000.out)) k_ hk, Kd.fresh' (Kd.R_lt (zR HO_313002.out)) k_ hk, Kd.fresh' (Kd.R_lt (zR HO_313003.out)) k_ hk, Kd.fresh' (Kd.R_lt (zR HO315.out)) k_ hk⟩))
                   (case aO => exact (by (with_reducible repeat (first | apply Kd.R_alloc | apply Kd.R_drewN | apply Kd.R_drew)); exact Kd.R_mono HO_313001.out (fun _ hk => ⟨hk.1.1, ⟨hk.1.2.1, ⟨hk.1.2.2, hk.2⟩⟩⟩)))
                   (case aS => exact (below_size (zH2 GE305.out GE312.out)))
                   (case aL => have := LMc23.out; omega)
                   intro v317 w30 ho hb hg hat
                   rw [← Ny316.out] at ho
                   have HO318 := Aside0.mk (ho)
                   replace HO_313000 := Aside0.mk (Kd.R_after (ok := (fun k_ => some k_ ≠ (.slice Ao16 y309.length co16 : Value).ownBlock ∧ some k_ ≠ (.slice Ao26 x313003_1.length co26 : Value).ownBlock ∧ some k_ ≠ (.slice Ao31 y313.length co31 : Value).ownBlock)) (by (with_reducible repeat (first | apply Kd.R_alloc | apply Kd.R_drewN | apply Kd.R_drew)); exact Kd.R_mono HO_313000.out (fun _ hk => ⟨⟨hk.1.2.1, ⟨hk.1.2.2, hk.2⟩⟩, hk.1.1⟩)) hg hat)
                   replace HO_313002 := Aside0.mk (Kd.R_after (ok := (fun k_ => some k_ ≠ (.slice Ao17 t306.length co17 : Value).ownBlock ∧ some k_ ≠ (.slice Ao26 x313003_1.length co26 : Value).ownBlock ∧ some k_ ≠ (.slice Ao31 y313.length co31 : Value).ownBlock)) (by (with_reducible repeat (first | apply Kd.R_alloc | apply Kd.R_drewN | apply Kd.R_drew)); exact Kd.R_mono HO_313002.out (fun _ hk => ⟨⟨hk.1.1, ⟨hk.1.2.2, hk.2⟩⟩, hk.1.2.1⟩)) hg hat)
                   replace HO_313003 := Aside0.mk (Kd.R_after (ok := (fun k_ => some k_ ≠ (.slice Ao17 t306.length co17 : Value).ownBlock ∧ some k_ ≠ (.slice Ao16 y309.length co16 : Value).ownBlock ∧ some k_ ≠ (.slice Ao31 y313.length co31 : Value).ownBlock)) (by (with_reducible repeat (first | apply Kd.R_alloc | apply Kd.R_drewN | apply Kd.R_drew)); exact Kd.R_mono HO_313003.out (fun _ hk => ⟨⟨hk.1.1, ⟨hk.1.2.2, hk.2⟩⟩, hk.1.2.1⟩)) hg hat)
                   replace BK305 := Aside0.mk (blk_grown (g := gb305) (o := .cells #[.slice none 0 0, .slice none 0 0, .slice none 0 0, .slice none 0 0] 49 (0, 0)) (zB BK305.out) hg (Kd.R_ne HO_313001.out BK305.out (by decide)))
                   replace BK312 := Aside0.mk (blk_grown (g := gb312) (o := .cells #[.slice Ao17 t306.length co17, .slice Ao25 x313001_1.length co25, .slice Ao16 y309.length co16, .slice Ao26 x313003_1.length co26] 49 (0, 0)) (zB BK312.out) hg (Kd.R_ne HO_313001.out BK312.out (by decide)))
                   replace HO315 := Aside0.mk (Kd.R_after (ok := (fun k_ => some k_ ≠ (.slice Ao17 t306.length co17 : Value).ownBlock ∧ some k_ ≠ (.slice Ao16 y309.length co16 : Value).ownBlock ∧ some k_ ≠ (.slice Ao26 x313003_1.length co26 : Value).ownBlock)) (by (with_reducible repeat (first | apply Kd.R_alloc | apply Kd.R_drewN | apply Kd.R_drew)); exact Kd.R_mono HO315.out (fun _ hk => ⟨⟨hk.1.1.1.2, ⟨hk.1.2, hk.2⟩⟩, hk.1.1.2⟩)) hg hat)
                   replace HB := Aside0.mk (hb)
                   clear HO_313001
                   clear ho hb hg hat
                   refine hK.out _ _ ⟨(blk_cell BK312.out 0).trans rfl, (blk_cell BK312.out 1).trans rfl, (blk_cell BK312.out 2).trans rfl, (blk_cell BK312.out 3).trans rfl⟩ (fun hHeld => ?_)
                   clear hK K
                   refine zU (some 22) ?_
                   refine zP (i := 10) (N := some 28) #[true, true, true, true, true, true, true, true, false, false, true, false, false, false] (any_of HT_.out (by kernel_rfl)) ?_
                   refine one_ (i := 8) (N := some 26) #[true, true, true, true, true, true, true, true, true, false, true, false, false, false] rfl rfl (one_of HT_.out (by kernel_rfl)) (by decide) (fun K hK => ?_)
                   refine Kd.R_lit_step (Kd.int .i64) _ 3 ?hg (N := 26) ?hd (xs := ([a2] : List Int)) (inner := [.int .i64 a2]) (ok := fun _ => True) (okp := fun _ => True) ?hr ?hp (fun _ hk => hk) trivial (Below.refl _ _) (Nat.le_refl _) (by simp) ?_; (case hd => rfl); (case hg => rfl); (case hr => first | (go_simp; done) | (go_simp; rfl)); (case hp => exact (Reps.one (show Kd.M (Kd.int .i64) _ _ _ a2 [.int .i64 a2] from rfl) (Reps.none _ _)))
                   intro v320 w32 ho33 hb hg_ hnew_
                   clear hg_ hnew_
                   (first | rw [← Ny319.out] at ho33 | (simp only [Int.reduceToNat] at ho33; rw [← Ny319.out] at ho33))
                   have HO321 := Aside0.mk (Kd.R_lower (Kd.R_new' (Kd.R_new' (Kd.R_new' (Kd.R_new' (Kd.R_new' ho33 (Kd.R_lt (zR HO_313000.out))) (Kd.R_lt (zR HO_313002.out))) (Kd.R_lt (zR HO_313003.out))) (Kd.R_lt (zR HO315.out))) (Kd.R_lt (zR HO318.out))) (below_size (zH2 GE305.out GE312.out)))
                   replace HO_313000 := zRe HO_313000 (Kd.R_base ho33) hb
                   replace HO_313002 := zRe HO_313002 (Kd.R_base ho33) hb
                   replace HO_313003 := zRe HO_313003 (Kd.R_base ho33) hb
                   replace HO315 := zRe HO315 (Kd.R_base ho33) hb
                   replace HO318 := zRe HO318 (Kd.R_base ho33) hb
                   replace BK305 := zb BK305 hb
                   replace BK312 := zb BK312 hb
                   replace HB := zs2 GE305.out GE312.out hb
                   clear hb ho33
                   refine hK.out _ _ ⟨(blk_cell BK312.out 0).trans rfl, (blk_cell BK312.out 1).trans rfl, (blk_cell BK312.out 2).trans rfl, (blk_cell BK312.out 3).trans rfl⟩ (fun hHeld => ?_)
                   clear hK K
                   refine zU (some 26) ?_
                   exact norm_ z50 (hCont (.slice Ao31 y313.length co31, v317, v320) _ ⟨hHeld, (by (with_reducible repeat (first | apply Kd.R_alloc | apply Kd.R_drewN | apply Kd.R_drew)); exact Kd.R_mono HO315.out (fun _ hk => ⟨hk.1.2, ⟨hk.2, ⟨hk.1.1.1, ⟨hk.1.1.2.1, hk.1.1.2.2⟩⟩⟩⟩)), (by (with_reducible repeat (first | apply Kd.R_alloc | apply Kd.R_drewN | apply Kd.R_drew)); exact Kd.R_mono HO318.out (fun _ hk => ⟨hk.1.2.2.2, ⟨hk.2, ⟨hk.1.1, ⟨hk.1.2.1, hk.1.2.2.1⟩⟩⟩⟩)), (by (with_reducible repeat (first | apply Kd.R_alloc | apply Kd.R_drewN | apply Kd.R_drew)); exact Kd.R_mono HO321.out (fun _ hk => ⟨hk.1.2, ⟨hk.2, ⟨hk.1.1.1.1.2, ⟨hk.1.1.1.2, hk.1.1.2⟩⟩⟩⟩)), (by (with_reducible repeat (first | apply Kd.R_alloc | apply Kd.R_drewN | apply Kd.R_drew)); exact Kd.R_mono HO_313000.out (fun _ hk => ⟨hk.1.1.2.2, ⟨hk.1.2, ⟨hk.2, ⟨hk.1.1.1, hk.1.1.2.1⟩⟩⟩⟩)), (by (with_reducible repeat (first | apply Kd.R_alloc | apply Kd.R_drewN | apply Kd.R_drew)); exact Kd.R_mono HO_313002.out (fun _ hk => ⟨hk.1.1.2.2, ⟨hk.1.2, ⟨hk.2, ⟨hk.1.1.1, hk.1.1.2.1⟩⟩⟩⟩)), (by (with_reducible repeat (first | apply Kd.R_alloc | apply Kd.R_drewN | apply Kd.R_drew)); exact Kd.R_mono HO_313003.out (fun _ hk => ⟨hk.1.1.2.2, ⟨hk.1.2, ⟨hk.2, ⟨hk.1.1.1, hk.1.1.2.1⟩⟩⟩⟩)), (zB BK305.out), (zB BK312.out), (zH2 GE305.out GE312.out)⟩)
                 · skip
                   refine Kd.R_lit_step (Kd.int .i64) _ 3 ?hg (N := 26) ?hd (xs := ([a2] : List Int)) (inner := [.int .i64 a2]) (ok := fun _ => True) (okp := fun _ => True) ?hr ?hp (fun _ hk => hk) trivial (Below.refl _ _) (Nat.le_refl _) (by simp) ?_; (case hd => rfl); (case hg => rfl); (case hr => first | (go_simp; done) | (go_simp; rfl)); (case hp => exact (Reps.one (show Kd.M (Kd.int .i64) _ _ _ a2 [.int .i64 a2] from rfl) (Reps.none _ _)))
                   intro v320 w30 ho31 hb hg_ hnew_
                   clear hg_ hnew_
                   (first | rw [← Ny319.out] at ho31 | (simp only [Int.reduceToNat] at ho31; rw [← Ny319.out] at ho31))
                   have HO321 := Aside0.mk (Kd.R_lower (Kd.R_new' (Kd.R_new' (Kd.R_new' (Kd.R_new' (Kd.R_new' ho31 (Kd.R_lt (zR HO_313000.out))) (Kd.R_lt (zR HO_313001.out))) (Kd.R_lt (zR HO_313002.out))) (Kd.R_lt (zR HO_313003.out))) (Kd.R_lt (zR HO315.out))) (below_size (zH2 GE305.out GE312.out)))
                   replace HO_313000 := zRe HO_313000 (Kd.R_base ho31) hb
                   replace HO_313001 := zRe HO_313001 (Kd.R_base ho31) hb
                   replace HO_313002 := zRe HO_313002 (Kd.R_base ho31) hb
                   replace HO_313003 := zRe HO_313003 (Kd.R_base ho31) hb
                   replace HO315 := zRe HO315 (Kd.R_base ho31) hb
                   replace BK305 := zb BK305 hb
                   replace BK312 := zb BK312 hb
                   replace HB := zs2 GE305.out GE312.out hb
                   clear hb ho31
                   obtain ⟨Ao33, co33, eo33⟩ := Kd.R_slice HO315.out
                   (first | subst eo33 | (injection eo33 with f1_ f2_ f3_; have f4_ := f1_.symm; have f5_ := f3_.symm; clear f1_ f2_ f3_; subst f4_; subst f5_))
                   refine hK.out _ _ ⟨(blk_cell BK312.out 0).trans rfl, (blk_cell BK312.out 1).trans rfl, (blk_cell BK312.out 2).trans rfl, (blk_cell BK312.out 3).trans rfl⟩ (fun hHeld => ?_)
                   clear hK K
                   refine zU (some 26) ?_
                   refine one_ (i := 4) (N := some 22) #[true, true, true, true, true, true, true, true, true, false, false, false, false, false] rfl rfl (one_of HT_.out (by kernel_rfl)) (by decide) (fun K hK => ?_)
                   refine Kd.R_append_rows_step (Kd.int .i64) (w0 := w) w.heap.size (by rfl) (.tmp 19) (.tmp 21) 24 3 (.int .i64 0) 8 rfl Try.underlying24 info3 rfl (by decide) (by omega) (.slice Ao25 x313001_1.length co25) x313001_1 y313 _ _ _ (fun k_ => some k_ ≠ (.slice Ao17 t306.length co17 : Value).ownBlock ∧ some k_ ≠ (.slice Ao16 y309.length co16 : Value).ownBlock ∧ some k_ ≠ (.slice Ao26 x313003_1.length co26 : Value).ownBlock ∧ some k_ ≠ (.slice Ao33 y313.length co33 : Value).ownBlock ∧ some k_ ≠ (v320 : Value).ownBlock) (fun _ => False) rfl rfl ?aO ?aR (fun _ _ h => h) (fun _ h => h.elim) ?aF ?aB ?aS ?aL ?_
                   (case aR => exact zC (Kd.R_reads' HO315.out).2.2)
                   (case aB => exact (zH2 GE305.out GE312.out))
                   (case aF => exact (fun k_ hk => ⟨Kd.fresh' (Kd.R_lt (zR HO_313000.out)) k_ hk, Kd.fresh' (Kd.R_lt (zR HO_313002.out)) k_ hk, Kd.fresh' (Kd.R_lt (zR HO_313003.out)) k_ hk, Kd.fresh' (Kd.R_lt (zR HO315.out)) k_ hk, Kd.fresh' (Kd.R_lt (zR HO321.out)) k_ hk⟩))
                   (case aO => exact (by (with_reducible repeat (first | apply Kd.R_alloc | apply Kd.R_drewN | apply Kd.R_drew)); exact Kd.R_mono HO_313001.out (fun _ hk => ⟨hk.1.1.1, ⟨hk.1.1.2.1, ⟨hk.1.1.2.2, ⟨hk.1.2, hk.2⟩⟩⟩⟩)))
                   (case aS => exact (below_size (zH2 GE305.out GE312.out)))
                   (case aL => have := LMc23.out; omega)
                   intro v317 w32 ho hb hg hat
                   rw [← Ny316.out] at ho
                   have HO318 := Aside0.mk (ho)
                   replace HO_313000 := Aside0.mk (Kd.R_after (ok := (fun k_ => some k_ ≠ (.slice Ao16 y309.length co16 : Value).ownBlock ∧ some k_ ≠ (.slice Ao26 x313003_1.length co26 : Value).ownBlock ∧ some k_ ≠ (.slice Ao33 y313.length co33 : Value).ownBlock ∧ some k_ ≠ (v320 : Value).ownBlock)) (by (with_reducible repeat (first | apply Kd.R_alloc | apply Kd.R_drewN | apply Kd.R_drew)); exact Kd.R_mono HO_313000.out (fun _ hk => ⟨⟨hk.1.1.2.1, ⟨hk.1.1.2.2, ⟨hk.1.2, hk.2⟩⟩⟩, hk.1.1.1⟩)) hg hat)
                   replace HO_313002 := Aside0.mk (Kd.R_after (ok := (fun k_ => some k_ ≠ (.slice Ao17 t306.length co17 : Value).ownBlock ∧ some k_ ≠ (.slice Ao26 x313003_1.length co26 : Value).ownBlock ∧ some k_ ≠ (.slice Ao33 y313.length co33 : Value).ownBlock ∧ some k_ ≠ (v320 : Value).ownBlock)) (by (with_reducible repeat (first | apply Kd.R_alloc | apply Kd.R_drewN | apply Kd.R_drew)); exact Kd.R_mono HO_313002.out (fun _ hk => ⟨⟨hk.1.1.1, ⟨hk.1.1.2.2, ⟨hk.1.2, hk.2⟩⟩⟩, hk.1.1.2.1⟩)) hg hat)
                   replace HO_313003 := Aside0.mk (Kd.R_after (ok := (fun k_ => some k_ ≠ (.slice Ao17 t306.length co17 : Value).ownBlock ∧ some k_ ≠ (.slice Ao16 y309.length co16 : Value).ownBlock ∧ some k_ ≠ (.slice Ao33 y313.length co33 : Value).ownBlock ∧ some k_ ≠ (v320 : Value).ownBlock)) (by (with_reducible repeat (first | apply Kd.R_alloc | apply Kd.R_drewN | apply Kd.R_drew)); exact Kd.R_mono HO_313003.out (fun _ hk => ⟨⟨hk.1.1.1, ⟨hk.1.1.2.2, ⟨hk.1.2, hk.2⟩⟩⟩, hk.1.1.2.1⟩)) hg hat)
                   replace BK305 := Aside0.mk (blk_grown (g := gb305) (o := .cells #[.slice none 0 0, .slice none 0 0, .slice none 0 0, .slice none 0 0] 49 (0, 0)) (zB BK305.out) hg (Kd.R_ne HO_313001.out BK305.out (by decide)))
                   replace BK312 := Aside0.mk (blk_grown (g := gb312) (o := .cells #[.slice Ao17 t306.length co17, .slice Ao25 x313001_1.length co25, .slice Ao16 y309.length co16, .slice Ao26 x313003_1.length co26] 49 (0, 0)) (zB BK312.out) hg (Kd.R_ne HO_313001.out BK312.out (by decide)))
                   replace HO315 := Aside0.mk (Kd.R_after (ok := (fun k_ => some k_ ≠ (.slice Ao17 t306.length co17 : Value).ownBlock ∧ some k_ ≠ (.slice Ao16 y309.length co16 : Value).ownBlock ∧ some k_ ≠ (.slice Ao26 x313003_1.length co26 : Value).ownBlock ∧ some k_ ≠ (v320 : Value).ownBlock)) (by (with_reducible repeat (first | apply Kd.R_alloc | apply Kd.R_drewN | apply Kd.R_drew)); exact Kd.R_mono HO315.out (fun _ hk => ⟨⟨hk.1.1.1.1.2, ⟨hk.1.1.2, ⟨hk.1.2, hk.2⟩⟩⟩, hk.1.1.1.2⟩)) hg hat)
                   replace HO321 := Aside0.mk (Kd.R_after (ok := (fun k_ => some k_ ≠ (.slice Ao17 t306.length co17 : Value).ownBlock ∧ some k_ ≠ (.slice Ao16 y309.length co16 : Value).ownBlock ∧ some k_ ≠ (.slice Ao26 x313003_1.length co26 : Value).ownBlock ∧ some k_ ≠ (.slice Ao33 y313.length co33 : Value).ownBlock)) (by (with_reducible repeat (first | apply Kd.R_alloc | apply Kd.R_drewN | apply Kd.R_drew)); exact Kd.R_mono HO321.out (fun _ hk => ⟨⟨hk.1.1.1.1.2, ⟨hk.1.1.2, ⟨hk.1.2, hk.2⟩⟩⟩, hk.1.1.1.2⟩)) hg hat)
                   replace HB := Aside0.mk (hb)
                   clear HO_313001
                   clear ho hb hg hat
                   refine hK.out _ _ ⟨(blk_cell BK312.out 0).trans rfl, (blk_cell BK312.out 1).trans rfl, (blk_cell BK312.out 2).trans rfl, (blk_cell BK312.out 3).trans rfl⟩ (fun hHeld => ?_)
                   clear hK K
                   refine zU (some 22) ?_
                   refine zP (i := 10) (N := some 28) #[true, true, true, true, true, true, true, true, true, false, true, false, false, false] (any_of HT_.out (by kernel_rfl)) ?_
                   exact norm_ z50 (hCont (.slice Ao33 y313.length co33, v317, v320) _ ⟨hHeld, (by (with_reducible repeat (first | apply Kd.R_alloc | apply Kd.R_drewN | apply Kd.R_drew)); exact Kd.R_mono HO315.out (fun _ hk => ⟨hk.2, ⟨hk.1.2.2.2, ⟨hk.1.1, ⟨hk.1.2.1, hk.1.2.2.1⟩⟩⟩⟩)), (by (with_reducible repeat (first | apply Kd.R_alloc | apply Kd.R_drewN | apply Kd.R_drew)); exact Kd.R_mono HO318.out (fun _ hk => ⟨hk.2.2.2.1, ⟨hk.2.2.2.2, ⟨hk.1, ⟨hk.2.1, hk.2.2.1⟩⟩⟩⟩)), (by (with_reducible repeat (first | apply Kd.R_alloc | apply Kd.R_drewN | apply Kd.R_drew)); exact Kd.R_mono HO321.out (fun _ hk => ⟨hk.1.2.2.2, ⟨hk.2, ⟨hk.1.1, ⟨hk.1.2.1, hk.1.2.2.1⟩⟩⟩⟩)), (by (with_reducible repeat (first | apply Kd.R_alloc | apply Kd.R_drewN | apply Kd.R_drew)); exact Kd.R_mono HO_313000.out (fun _ hk => ⟨hk.1.2.2.1, ⟨hk.2, ⟨hk.1.2.2.2, ⟨hk.1.1, hk.1.2.1⟩⟩⟩⟩)), (by (with_reducible repeat (first | apply Kd.R_alloc | apply Kd.R_drewN | apply Kd.R_drew)); exact Kd.R_mono HO_313002.out (fun _ hk => ⟨hk.1.2.2.1, ⟨hk.2, ⟨hk.1.2.2.2, ⟨hk.1.1, hk.1.2.1⟩⟩⟩⟩)), (by (with_reducible repeat (first | apply Kd.R_alloc | apply Kd.R_drewN | apply Kd.R_drew)); exact Kd.R_mono HO_313003.out (fun _ hk => ⟨hk.1.2.2.1, ⟨hk.2, ⟨hk.1.2.2.2, ⟨hk.1.1, hk.1.2.1⟩⟩⟩⟩)), (zB BK305.out), (zB BK312.out), (zH2 GE305.out GE312.out)⟩)
               · skip
                 refine Kd.R_lit_step (Kd.int .i64) _ 3 ?hg (N := 26) ?hd (xs := ([a2] : List Int)) (inner := [.int .i64 a2]) (ok := fun _ => True) (okp := fun _ => True) ?hr ?hp (fun _ hk => hk) trivial (Below.refl _ _) (Nat.le_refl _) (by simp) ?_; (case hd => rfl); (case hg => rfl); (case hr => first | (go_simp; done) | (go_simp; rfl)); (case hp => exact (Reps.one (show Kd.M (Kd.int .i64) _ _ _ a2 [.int .i64 a2] from rfl) (Reps.none _ _)))
                 intro v320 w28 ho29 hb hg_ hnew_
                 clear hg_ hnew_
                 (first | rw [← Ny319.out] at ho29 | (simp only [Int.reduceToNat] at ho29; rw [← Ny319.out] at ho29))
                 have HO321 := Aside0.mk (Kd.R_lower (Kd.R_new' (Kd.R_new' (Kd.R_new' (Kd.R_new' ho29 (Kd.R_lt (zR HO_313000.out))) (Kd.R_lt (zR HO_313001.out))) (Kd.R_lt (zR HO_313002.out))) (Kd.R_lt (zR HO_313003.out))) (below_size (zH2 GE305.out GE312.out)))
                 replace HO_313000 := zRe HO_313000 (Kd.R_base ho29) hb
                 replace HO_313001 := zRe HO_313001 (Kd.R_base ho29) hb
                 replace HO_313002 := zRe HO_313002 (Kd.R_base ho29) hb
                 replace HO_313003 := zRe HO_313003 (Kd.R_base ho29) hb
                 replace BK305 := zb BK305 hb
                 replace BK312 := zb BK312 hb
                 replace HB := zs2 GE305.out GE312.out hb
                 clear hb ho29
                 refine hK.out _ _ ⟨(blk_cell BK312.out 0).trans rfl, (blk_cell BK312.out 1).trans rfl, (blk_cell BK312.out 2).trans rfl, (blk_cell BK312.out 3).trans rfl⟩ (fun hHeld => ?_)
                 clear hK K
                 refine zU (some 26) ?_
                 refine one_ (i := 3) (N := some 21) #[true, true, true, true, false, true, true, true, true, false, false, false, false, false] rfl rfl (one_of HT_.out (by kernel_rfl)) (by decide) (fun K hK => ?_)
                 refine Kd.R_lit_step (Kd.int .i64) _ 3 ?hg (N := 21) ?hd (xs := ([a1] : List Int)) (inner := [.int .i64 a1]) (ok := fun _ => True) (okp := fun _ => True) ?hr ?hp (fun _ hk => hk) trivial (Below.refl _ _) (Nat.le_refl _) (by simp) ?_; (case hd => rfl); (case hg => rfl); (case hr => first | (go_simp; done) | (go_simp; rfl)); (case hp => exact (Reps.one (show Kd.M (Kd.int .i64) _ _ _ a1 [.int .i64 a1] from rfl) (Reps.none _ _)))
                 intro v314 w30 ho31 hb hg_ hnew_
                 clear hg_ hnew_
                 (first | rw [← Ny313.out] at ho31 | (simp only [Int.reduceToNat] at ho31; rw [← Ny313.out] at ho31))
                 have HO315 := Aside0.mk (Kd.R_lower (Kd.R_new' (Kd.R_new' (Kd.R_new' (Kd.R_new' (Kd.R_new' ho31 (Kd.R_lt (zR HO_313000.out))) (Kd.R_lt (zR HO_313001.out))) (Kd.R_lt (zR HO_313002.out))) (Kd.R_lt (zR HO_313003.out))) (Kd.R_lt (zR HO321.out))) (below_size (zH2 GE305.out GE312.out)))
                 replace HO_313000 := zRe HO_313000 (Kd.R_base ho31) hb
                 replace HO_313001 := zRe HO_313001 (Kd.R_base ho31) hb
                 replace HO_313002 := zRe HO_313002 (Kd.R_base ho31) hb
                 replace HO_313003 := zRe HO_313003 (Kd.R_base ho31) hb
                 replace HO321 := zRe HO321 (Kd.R_base ho31) hb
                 replace BK305 := zb BK305 hb
                 replace BK312 := zb BK312 hb
                 replace HB := zs2 GE305.out GE312.out hb
                 clear hb ho31
                 obtain ⟨Ao33, co33, eo33⟩ := Kd.R_slice HO315.out
                 (first | subst eo33 | (injection eo33 with f1_ f2_ f3_; have f4_ := f1_.symm; have f5_ := f3_.symm; clear f1_ f2_ f3_; subst f4_; subst f5_))
                 refine hK.out _ _ ⟨(blk_cell BK312.out 0).trans rfl, (blk_cell BK312.out 1).trans rfl, (blk_cell BK312.out 2).trans rfl, (blk_cell BK312.out 3).trans rfl⟩ (fun hHeld => ?_)
                 clear hK K
                 refine zU (some 21) ?_
                 refine one_ (i := 4) (N := some 22) #[true, true, true, true, true, true, true, true, true, false, false, false, false, false] rfl rfl (one_of HT_.out (by kernel_rfl)) (by decide) (fun K hK => ?_)
                 refine Kd.R_append_rows_step (Kd.int .i64) (w0 := w) w.heap.size (by rfl) (.tmp 19) (.tmp 21) 24 3 (.int .i64 0) 8 rfl Try.underlying24 info3 rfl (by decide) (by omega) (.slice Ao25 x313001_1.length co25) x313001_1 y313 _ _ _ (fun k_ => some k_ ≠ (.slice Ao17 t306.length co17 : Value).ownBlock ∧ some k_ ≠ (.slice Ao16 y309.length co16 : Value).ownBlock ∧ some k_ ≠ (.slice Ao26 x313003_1.length co26 : Value).ownBlock ∧ some k_ ≠ (v320 : Value).ownBlock ∧ some k_ ≠ (.slice Ao33 y313.length co33 : Value).ownBlock) (fun _ => False) rfl rfl ?aO ?aR (fun _ _ h => h) (fun _ h => h.elim) ?aF ?aB ?aS ?aL ?_
                 (case aR => exact zC (Kd.R_reads' HO315.out).2.2)
                 (case aB => exact (zH2 GE305.out GE312.out))
                 (case aF => exact (fun k_ hk => ⟨Kd.fresh' (Kd.R_lt (zR HO_313000.out)) k_ hk, Kd.fresh' (Kd.R_lt (zR HO_313002.out)) k_ hk, Kd.fresh' (Kd.R_lt (zR HO_313003.out)) k_ hk, Kd.fresh' (Kd.R_lt (zR HO321.out)) k_ hk, Kd.fresh' (Kd.R_lt (zR HO315.out)) k_ hk⟩))
                 (case aO => exact (by (with_reducible repeat (first | apply Kd.R_alloc | apply Kd.R_drewN | apply Kd.R_drew)); exact Kd.R_mono HO_313001.out (fun _ hk => ⟨hk.1.1.1, ⟨hk.1.1.2.1, ⟨hk.1.1.2.2, ⟨hk.1.2, hk.2⟩⟩⟩⟩)))
                 (case aS => exact (below_size (zH2 GE305.out GE312.out)))
                 (case aL => have := LMc23.out; omega)
                 intro v317 w32 ho hb hg hat
                 rw [← Ny316.out] at ho
                 have HO318 := Aside0.mk (ho)
                 replace HO_313000 := Aside0.mk (Kd.R_after (ok := (fun k_ => some k_ ≠ (.slice Ao16 y309.length co16 : Value).ownBlock ∧ some k_ ≠ (.slice Ao26 x313003_1.length co26 : Value).ownBlock ∧ some k_ ≠ (v320 : Value).ownBlock ∧ some k_ ≠ (.slice Ao33 y313.length co33 : Value).ownBlock)) (by (with_reducible repeat (first | apply Kd.R_alloc | apply Kd.R_drewN | apply Kd.R_drew)); exact Kd.R_mono HO_313000.out (fun _ hk => ⟨⟨hk.1.1.2.1, ⟨hk.1.1.2.2, ⟨hk.1.2, hk.2⟩⟩⟩, hk.1.1.1⟩)) hg hat)
                 replace HO_313002 := Aside0.mk (Kd.R_after (ok := (fun k_ => some k_ ≠ (.slice Ao17 t306.length co17 : Value).ownBlock ∧ some k_ ≠ (.slice Ao26 x313003_1.length co26 : Value).ownBlock ∧ some k_ ≠ (v320 : Value).ownBlock ∧ some k_ ≠ (.slice Ao33 y313.length co33 : Value).ownBlock)) (by (with_reducible repeat (first | apply Kd.R_alloc | apply Kd.R_drewN | apply Kd.R_drew)); exact Kd.R_mono HO_313002.out (fun _ hk => ⟨⟨hk.1.1.1, ⟨hk.1.1.2.2, ⟨hk.1.2, hk.2⟩⟩⟩, hk.1.1.2.1⟩)) hg hat)
                 replace HO_313003 := Aside0.mk (Kd.R_after (ok := (fun k_ => some k_ ≠ (.slice Ao17 t306.length co17 : Value).ownBlock ∧ some k_ ≠ (.slice Ao16 y309.length co16 : Value).ownBlock ∧ some k_ ≠ (v320 : Value).ownBlock ∧ some k_ ≠ (.slice Ao33 y313.length co33 : Value).ownBlock)) (by (with_reducible repeat (first | apply Kd.R_alloc | apply Kd.R_drewN | apply Kd.R_drew)); exact Kd.R_mono HO_313003.out (fun _ hk => ⟨⟨hk.1.1.1, ⟨hk.1.1.2.2, ⟨hk.1.2, hk.2⟩⟩⟩, hk.1.1.2.1⟩)) hg hat)
                 replace BK305 := Aside0.mk (blk_grown (g := gb305) (o := .cells #[.slice none 0 0, .slice none 0 0, .slice none 0 0, .slice none 0 0] 49 (0, 0)) (zB BK305.out) hg (Kd.R_ne HO_313001.out BK305.out (by decide)))
                 replace BK312 := Aside0.mk (blk_grown (g := gb312) (o := .cells #[.slice Ao17 t306.length co17, .slice Ao25 x313001_1.length co25, .slice Ao16 y309.length co16, .slice Ao26 x313003_1.length co26] 49 (0, 0)) (zB BK312.out) hg (Kd.R_ne HO_313001.out BK312.out (by decide)))
                 replace HO321 := Aside0.mk (Kd.R_after (ok := (fun k_ => some k_ ≠ (.slice Ao17 t306.length co17 : Value).ownBlock ∧ some k_ ≠ (.slice Ao16 y309.length co16 : Value).ownBlock ∧ some k_ ≠ (.slice Ao26 x313003_1.length co26 : Value).ownBlock ∧ some k_ ≠ (.slice Ao33 y313.length co33 : Value).ownBlock)) (by (with_reducible repeat (first | apply Kd.R_alloc | apply Kd.R_drewN | apply Kd.R_drew)); exact Kd.R_mono HO321.out (fun _ hk => ⟨⟨hk.1.1.1.1.2, ⟨hk.1.1.2, ⟨hk.1.2, hk.2⟩⟩⟩, hk.1.1.1.2⟩)) hg hat)
                 replace HO315 := Aside0.mk (Kd.R_after (ok := (fun k_ => some k_ ≠ (.slice Ao17 t306.length co17 : Value).ownBlock ∧ some k_ ≠ (.slice Ao16 y309.length co16 : Value).ownBlock ∧ some k_ ≠ (.slice Ao26 x313003_1.length co26 : Value).ownBlock ∧ some k_ ≠ (v320 : Value).ownBlock)) (by (with_reducible repeat (first | apply Kd.R_alloc | apply Kd.R_drewN | apply Kd.R_drew)); exact Kd.R_mono HO315.out (fun _ hk => ⟨⟨hk.1.1.1.1.2, ⟨hk.1.1.2, ⟨hk.1.2, hk.2⟩⟩⟩, hk.1.1.1.2⟩)) hg hat)
                 replace HB := Aside0.mk (hb)
                 clear HO_313001
                 clear ho hb hg hat
                 refine hK.out _ _ ⟨(blk_cell BK312.out 0).trans rfl, (blk_cell BK312.out 1).trans rfl, (blk_cell BK312.out 2).trans rfl, (blk_cell BK312.out 3).trans rfl⟩ (fun hHeld => ?_)
                 clear hK K
                 refine zU (some 22) ?_
                 refine zP (i := 10) (N := some 28) #[true, true, true, true, true, true, true, true, true, false, true, false, false, false] (any_of HT_.out (by kernel_rfl)) ?_
                 exact norm_ z50 (hCont (.slice Ao33 y313.length co33, v317, v320) _ ⟨hHeld, (by (with_reducible repeat (first | apply Kd.R_alloc | apply Kd.R_drewN | apply Kd.R_drew)); exact Kd.R_mono HO315.out (fun _ hk => ⟨hk.2, ⟨hk.1.2.2.2, ⟨hk.1.1, ⟨hk.1.2.1, hk.1.2.2.1⟩⟩⟩⟩)), (by (with_reducible repeat (first | apply Kd.R_alloc | apply Kd.R_drewN | apply Kd.R_drew)); exact Kd.R_mono HO318.out (fun _ hk => ⟨hk.2.2.2.2, ⟨hk.2.2.2.1, ⟨hk.1, ⟨hk.2.1, hk.2.2.1⟩⟩⟩⟩)), (by (with_reducible repeat (first | apply Kd.R_alloc | apply Kd.R_drewN | apply Kd.R_drew)); exact Kd.R_mono HO321.out (fun _ hk => ⟨hk.1.2.2.2, ⟨hk.2, ⟨hk.1.1, ⟨hk.1.2.1, hk.1.2.2.1⟩⟩⟩⟩)), (by (with_reducible repeat (first | apply Kd.R_alloc | apply Kd.R_drewN | apply Kd.R_drew)); exact Kd.R_mono HO_313000.out (fun _ hk => ⟨hk.1.2.2.2, ⟨hk.2, ⟨hk.1.2.2.1, ⟨hk.1.1, hk.1.2.1⟩⟩⟩⟩)), (by (with_reducible repeat (first | apply Kd.R_alloc | apply Kd.R_drewN | apply Kd.R_drew)); exact Kd.R_mono HO_313002.out (fun _ hk => ⟨hk.1.2.2.2, ⟨hk.2, ⟨hk.1.2.2.1, ⟨hk.1.1, hk.1.2.1⟩⟩⟩⟩)), (by (with_reducible repeat (first | apply Kd.R_alloc | apply Kd.R_drewN | apply Kd.R_drew)); exact Kd.R_mono HO_313003.out (fun _ hk => ⟨hk.1.2.2.2, ⟨hk.2, ⟨hk.1.2.2.1, ⟨hk.1.1, hk.1.2.1⟩⟩⟩⟩)), (zB BK305.out), (zB BK312.out), (zH2 GE305.out GE312.out)⟩)
             rintro ⟨v314, v317, v320⟩ w34 ⟨hS_, h0_, h1_, h2_, h3_, h4_, h5_, h6_, h7_, h8_⟩
             have HO315 : Aside0 (Kd.R (Kd.int .i64) 3 w34 w.heap.size (fun k_ => some k_ ≠ (v317 : Value).ownBlock ∧ some k_ ≠ (v320 : Value).ownBlock ∧ some k_ ≠ (.slice Ao17 t306.length co17 : Value).ownBlock ∧ some k_ ≠ (.slice Ao16 y309.length co16 : Value).ownBlock ∧ some k_ ≠ (.slice Ao26 x313003_1.length co26 : Value).ownBlock) v314 y313) := ⟨h0_⟩
             have HO318 : Aside0 (Kd.R (Kd.int .i64) 3 w34 w.heap.size (fun k_ => some k_ ≠ (v314 : Value).ownBlock ∧ some k_ ≠ (v320 : Value).ownBlock ∧ some k_ ≠ (.slice Ao17 t306.length co17 : Value).ownBlock ∧ some k_ ≠ (.slice Ao16 y309.length co16 : Value).ownBlock ∧ some k_ ≠ (.slice Ao26 x313003_1.length co26 : Value).ownBlock) v317 y316) := ⟨h1_⟩
             have HO321 : Aside0 (Kd.R (Kd.int .i64) 3 w34 w.heap.size (fun k_ => some k_ ≠ (v314 : Value).ownBlock ∧ some k_ ≠ (v317 : Value).ownBlock ∧ some k_ ≠ (.slice Ao17 t306.length co17 : Value).ownBlock ∧ some k_ ≠ (.slice Ao16 y309.length co16 : Value).ownBlock ∧ some k_ ≠ (.slice Ao26 x313003_1.length co26 : Value).ownBlock) v320 y319) := ⟨h2_⟩
             replace HO_313000 : Aside0 (Kd.R (Kd.int .i64) 3 w34 w.heap.size (fun k_ => some k_ ≠ (v314 : Value).ownBlock ∧ some k_ ≠ (v317 : Value).ownBlock ∧ some k_ ≠ (v320 : Value).ownBlock ∧ some k_ ≠ (.slice Ao16 y309.length co16 : Value).ownBlock ∧ some k_ ≠ (.slice Ao26 x313003_1.length co26 : Value).ownBlock) (.slice Ao17 t306.length co17) t306) := ⟨h3_⟩
             replace HO_313002 : Aside0 (Kd.R (Kd.int .i64) 3 w34 w.heap.size (fun k_ => some k_ ≠ (v314 : Value).ownBlock ∧ some k_ ≠ (v317 : Value).ownBlock ∧ some k_ ≠ (v320 : Value).ownBlock ∧ some k_ ≠ (.slice Ao17 t306.length co17 : Value).ownBlock ∧ some k_ ≠ (.slice Ao26 x313003_1.length co26 : Value).ownBlock) (.slice Ao16 y309.length co16) y309) := ⟨h4_⟩
             replace HO_313003 : Aside0 (Kd.R (Kd.int .i64) 3 w34 w.heap.size (fun k_ => some k_ ≠ (v314 : Value).ownBlock ∧ some k_ ≠ (v317 : Value).ownBlock ∧ some k_ ≠ (v320 : Value).ownBlock ∧ some k_ ≠ (.slice Ao17 t306.length co17 : Value).ownBlock ∧ some k_ ≠ (.slice Ao16 y309.length co16 : Value).ownBlock) (.slice Ao26 x313003_1.length co26) x313003_1) := ⟨h5_⟩
             replace BK305 : Aside0 (w34.heap[gb305]? = some (.cells #[.slice none 0 0, .slice none 0 0, .slice none 0 0, .slice none 0 0] 49 (0, 0))) := ⟨h6_⟩
             replace BK312 : Aside0 (w34.heap[gb312]? = some (.cells #[.slice Ao17 t306.length co17, .slice Ao25 x313001_1.length co25, .slice Ao16 y309.length co16, .slice Ao26 x313003_1.length co26] 49 (0, 0))) := ⟨h7_⟩
             replace HB : Aside0 (Below w.heap.size w w34) := ⟨h8_⟩
             clear HO_313001 h0_ h1_ h2_ h3_ h4_ h5_ h6_ h7_ h8_
             have hHeld : w34.cell? ⟨gb312, 0, none⟩ = some (.slice Ao17 t306.length co17) ∧ w34.cell? ⟨gb312, 1, none⟩ = some (.slice Ao25 x313001_1.length co25) ∧ w34.cell? ⟨gb312, 2, none⟩ = some (.slice Ao16 y309.length co16) ∧ w34.cell? ⟨gb312, 3, none⟩ = some (.slice Ao26 x313003_1.length co26) := hS_
             obtain ⟨Ao36, co36, eo36⟩ := Kd.R_slice HO321.out
             (first | subst eo36 | (injection eo36 with f1_ f2_ f3_; have f4_ := f1_.symm; have f5_ := f3_.symm; clear f1_ f2_ f3_; subst f4_; subst f5_))
             refine zW ?_
             refine one_ (i := 9) (N := some 27) #[true, true, true, true, true, true, true, true, true, true, true, false, false, false] rfl rfl (one_of HT_.out (by kernel_rfl)) (by decide) (fun K hK => ?_)
             refine Kd.R_append_rows_step (Kd.int .i64) (w0 := w) w.heap.size (by rfl) (.tmp 24) (.tmp 26) 24 3 (.int .i64 0) 8 rfl Try.underlying24 info3 rfl (by decide) (by omega) (.slice Ao26 x313003_1.length co26) x313003_1 y319 _ _ _ (fun k_ => some k_ ≠ (.slice Ao17 t306.length co17 : Value).ownBlock ∧ some k_ ≠ (.slice Ao16 y309.length co16 : Value).ownBlock ∧ some k_ ≠ (v314 : Value).ownBlock ∧ some k_ ≠ (v317 : Value).ownBlock ∧ some k_ ≠ (.slice Ao36 y319.length co36 : Value).ownBlock) (fun _ => False) rfl rfl ?aO ?aR (fun _ _ h => h) (fun _ h => h.elim) ?aF ?aB ?aS ?aL ?_
             (case aR => exact zC (Kd.R_reads' HO321.out).2.2)
             (case aB => exact (zH2 GE305.out GE312.out))
             (case aF => exact (fun k_ hk => ⟨Kd.fresh' (Kd.R_lt (zR HO_313000.out)) k_ hk, Kd.fresh' (Kd.R_lt (zR HO_313002.out)) k_ hk, Kd.fresh' (Kd.R_lt (zR HO315.out)) k_ hk, Kd.fresh' (Kd.R_lt (zR HO318.out)) k_ hk, Kd.fresh' (Kd.R_lt (zR HO321.out)) k_ hk⟩))
             (case aO => exact (by (with_reducible repeat (first | apply Kd.R_alloc | apply Kd.R_drewN | apply Kd.R_drew)); exact Kd.R_mono HO_313003.out (fun _ hk => ⟨hk.2.2.2.1, ⟨hk.2.2.2.2, ⟨hk.1, ⟨hk.2.1, hk.2.2.1⟩⟩⟩⟩)))
             (case aS => exact (below_size (zH2 GE305.out GE312.out)))
             (case aL => have := LMc24.out; omega)
             intro v323 w35 ho hb hg hat
             rw [← Ny322.out] at ho
             have HO324 := Aside0.mk (ho)
             replace HO_313000 := Aside0.mk (Kd.R_after (ok := (fun k_ => some k_ ≠ (.slice Ao16 y309.length co16 : Value).ownBlock ∧ some k_ ≠ (v314 : Value).ownBlock ∧ some k_ ≠ (v317 : Value).ownBlock ∧ some k_ ≠ (.slice Ao36 y319.length co36 : Value).ownBlock)) (by (with_reducible repeat (first | apply Kd.R_alloc | apply Kd.R_drewN | apply Kd.R_drew)); exact Kd.R_mono HO_313000.out (fun _ hk => ⟨⟨hk.2.2.2.1, ⟨hk.1, ⟨hk.2.1, hk.2.2.1⟩⟩⟩, hk.2.2.2.2⟩)) hg hat)
             replace HO_313002 := Aside0.mk (Kd.R_after (ok := (fun k_ => some k_ ≠ (.slice Ao17 t306.length co17 : Value).ownBlock ∧ some k_ ≠ (v314 : Value).ownBlock ∧ some k_ ≠ (v317 : Value).ownBlock ∧ some k_ ≠ (.slice Ao36 y319.length co36 : Value).ownBlock)) (by (with_reducible repeat (first | apply Kd.R_alloc | apply Kd.R_drewN | apply Kd.R_drew)); exact Kd.R_mono HO_313002.out (fun _ hk => ⟨⟨hk.2.2.2.1, ⟨hk.1, ⟨hk.2.1, hk.2.2.1⟩⟩⟩, hk.2.2.2.2⟩)) hg hat)
             replace BK305 := Aside0.mk (blk_grown (g := gb305) (o := .cells #[.slice none 0 0, .slice none 0 0, .slice none 0 0, .slice none 0 0] 49 (0, 0)) (zB BK305.out) hg (Kd.R_ne HO_313003.out BK305.out (by decide)))
             replace BK312 := Aside0.mk (blk_grown (g := gb312) (o := .cells #[.slice Ao17 t306.length co17, .slice Ao25 x313001_1.length co25, .slice Ao16 y309.length co16, .slice Ao26 x313003_1.length co26] 49 (0, 0)) (zB BK312.out) hg (Kd.R_ne HO_313003.out BK312.out (by decide)))
             replace HO315 := Aside0.mk (Kd.R_after (ok := (fun k_ => some k_ ≠ (.slice Ao17 t306.length co17 : Value).ownBlock ∧ some k_ ≠ (.slice Ao16 y309.length co16 : Value).ownBlock ∧ some k_ ≠ (v317 : Value).ownBlock ∧ some k_ ≠ (.slice Ao36 y319.length co36 : Value).ownBlock)) (by (with_reducible repeat (first | apply Kd.R_alloc | apply Kd.R_drewN | apply Kd.R_drew)); exact Kd.R_mono HO315.out (fun _ hk => ⟨⟨hk.2.2.1, ⟨hk.2.2.2.1, ⟨hk.1, hk.2.1⟩⟩⟩, hk.2.2.2.2⟩)) hg hat)
             replace HO318 := Aside0.mk (Kd.R_after (ok := (fun k_ => some k_ ≠ (.slice Ao17 t306.length co17 : Value).ownBlock ∧ some k_ ≠ (.slice Ao16 y309.length co16 : Value).ownBlock ∧ some k_ ≠ (v314 : Value).ownBlock ∧ some k_ ≠ (.slice Ao36 y319.length co36 : Value).ownBlock)) (by (with_reducible repeat (first | apply Kd.R_alloc | apply Kd.R_drewN | apply Kd.R_drew)); exact Kd.R_mono HO318.out (fun _ hk => ⟨⟨hk.2.2.1, ⟨hk.2.2.2.1, ⟨hk.1, hk.2.1⟩⟩⟩, hk.2.2.2.2⟩)) hg hat)
             replace HO321 := Aside0.mk (Kd.R_after (ok := (fun k_ => some k_ ≠ (.slice Ao17 t306.length co17 : Value).ownBlock ∧ some k_ ≠ (.slice Ao16 y309.length co16 : Value).ownBlock ∧ some k_ ≠ (v314 : Value).ownBlock ∧ some k_ ≠ (v317 : Value).ownBlock)) (by (with_reducible repeat (first | apply Kd.R_alloc | apply Kd.R_drewN | apply Kd.R_drew)); exact Kd.R_mono HO321.out (fun _ hk => ⟨⟨hk.2.2.1, ⟨hk.2.2.2.1, ⟨hk.1, hk.2.1⟩⟩⟩, hk.2.2.2.2⟩)) hg hat)
             replace HB := Aside0.mk (hb)
             clear HO_313003
             clear ho hb hg hat
             obtain ⟨Ao37, co37, eo37⟩ := Kd.R_slice HO318.out
             (first | subst eo37 | (injection eo37 with f1_ f2_ f3_; have f4_ := f1_.symm; have f5_ := f3_.symm; clear f1_ f2_ f3_; subst f4_; subst f5_))
             obtain ⟨Ao39, co39, eo39⟩ := Kd.R_slice HO324.out
             (first | subst eo39 | (injection eo39 with f1_ f2_ f3_; have f4_ := f1_.symm; have f5_ := f3_.symm; clear f1_ f2_ f3_; subst f4_; subst f5_))
             refine hK.out _ _ ⟨(blk_cell BK312.out 0).trans rfl, (blk_cell BK312.out 1).trans rfl, (blk_cell BK312.out 2).trans rfl, (blk_cell BK312.out 3).trans rfl⟩ (fun hHeld => ?_)
             clear hK K
             refine zU (some 27) ?_
             refine last_ (i := 11) (N := none) #[true, true, true, true, true, true, true, true, true, true, true, true, false, false] rfl rfl (one_of HT_.out (by kernel_rfl)) (by decide) (fun K hK => ?_)
             have hs38 : w35.cell? ⟨gb312, 1, none⟩ = some (.slice Ao25 x313001_1.length co25) := (blk_cell BK312.out 1).trans rfl
             have hfs38 := blk_frozen BK312.out 1
             have hns38_0 := NB305_312.out
             have hms38_0 := NB312_305.out
             refine skip_ (w1 := ?_) (by rfl) rfl ?_ ?_
             rotate_left
             · go_simp
               rfl
             refine hK.out _ _ ?_
             clear hK K
             refine zP (i := 12) (N := some 29) #[true, true, true, true, true, true, true, true, true, true, true, true, true, false] (any_of HT_.out (by kernel_rfl)) ?_
             refine last_ (i := 13) (N := none) #[true, true, true, true, true, true, true, true, true, true, true, true, true, true] rfl rfl (one_of HT_.out (by kernel_rfl)) (by decide) (fun K hK => ?_)
             have hs40 : w35.cell? ⟨gb312, 3, none⟩ = some (.slice Ao26 x313003_1.length co26) := (blk_cell BK312.out 3).trans rfl
             have hfs40 := blk_frozen BK312.out 3
             have hns40_0 := NB305_312.out
             have hms40_0 := NB312_305.out
             refine skip_ (w1 := ?_) (by rfl) rfl ?_ ?_
             rotate_left
             · go_simp
               rfl
             refine hK.out _ _ ?_
             clear hK K
             refine done_ (done_of HT_.out (by kernel_rfl)) ?_
             try go_wp2
             go_roundg k1
             case measure => have := HK1.out; omega
             case rel => exact ⟨(wrap64 (x16_1 + 1)), (y316), (y322), (.slice Ao37 y316.length co37), (.slice Ao39 y322.length co39), z3, H', ⟨z21⟩, ⟨(by (with_reducible repeat (first | apply Kd.R_alloc | apply Kd.R_drewN | apply Kd.R_drew)); exact Kd.R_mono (Kd.R_far (p := ⟨gb312, 3, none⟩) (Kd.R_far (p := ⟨gb312, 1, none⟩) (Kd.R_types HO_313000.out BK312.out (by decide)) (fun _ hk => hk.2) (.slice Ao37 y316.length co37)) (fun _ hk => hk.2) (.slice Ao39 y322.length co39)) (fun _ hk => ⟨hk.1.1.2.2.1, ⟨hk.1.1.1, hk.1.2⟩⟩))⟩, ⟨(by (with_reducible repeat (first | apply Kd.R_alloc | apply Kd.R_drewN | apply Kd.R_drew)); exact Kd.R_mono (Kd.R_far (p := ⟨gb312, 3, none⟩) (Kd.R_far (p := ⟨gb312, 1, none⟩) (Kd.R_types HO318.out BK312.out (by decide)) (fun _ hk => hk.2) (.slice Ao37 y316.length co37)) (fun _ hk => hk.2) (.slice Ao39 y322.length co39)) (fun _ hk => ⟨hk.1.1.1, ⟨hk.1.1.2.1, hk.1.2⟩⟩))⟩, ⟨(by (with_reducible repeat (first | apply Kd.R_alloc | apply Kd.R_drewN | apply Kd.R_drew)); exact Kd.R_mono (Kd.R_far (p := ⟨gb312, 3, none⟩) (Kd.R_far (p := ⟨gb312, 1, none⟩) (Kd.R_types HO_313002.out BK312.out (by decide)) (fun _ hk => hk.2) (.slice Ao37 y316.length co37)) (fun _ hk => hk.2) (.slice Ao39 y322.length co39)) (fun _ hk => ⟨hk.1.1.1, ⟨hk.1.1.2.2.1, hk.1.2⟩⟩))⟩, ⟨(by (with_reducible repeat (first | apply Kd.R_alloc | apply Kd.R_drewN | apply Kd.R_drew)); exact Kd.R_mono (Kd.R_far (p := ⟨gb312, 3, none⟩) (Kd.R_far (p := ⟨gb312, 1, none⟩) (Kd.R_types HO324.out BK312.out (by decide)) (fun _ hk => hk.2) (.slice Ao37 y316.length co37)) (fun _ hk => hk.2) (.slice Ao39 y322.length co39)) (fun _ hk => ⟨hk.1.1, ⟨hk.1.2.2.2.1, hk.1.2.1⟩⟩))⟩, ⟨(by (with_reducible repeat (first | refine blk_drewN ?_ _ | refine blk_drew ?_ | refine blk_alloc ?_ _)); refine blk_far ?_ NB305_312.out _; (with_reducible repeat (first | refine blk_drewN ?_ _ | refine blk_drew ?_ | refine blk_alloc ?_ _)); refine blk_far ?_ NB305_312.out _; (with_reducible repeat (first | refine blk_drewN ?_ _ | refine blk_drew ?_ | refine blk_alloc ?_ _)); exact BK305.out)⟩, ⟨(by (with_reducible repeat (first | refine blk_drewN ?_ _ | refine blk_drew ?_ | refine blk_alloc ?_ _)); refine blk_put (cs := #[.slice Ao17 t306.length co17, .slice Ao37 y316.length co37, .slice Ao16 y309.length co16, .slice Ao26 x313003_1.length co26]) ?_ 3 _ rfl; (with_reducible repeat (first | refine blk_drewN ?_ _ | refine blk_drew ?_ | refine blk_alloc ?_ _)); refine blk_put (cs := #[.slice Ao17 t306.length co17, .slice Ao25 x313001_1.length co25, .slice Ao16 y309.length co16, .slice Ao26 x313003_1.length co26]) ?_ 1 _ rfl; (with_reducible repeat (first | refine blk_drewN ?_ _ | refine blk_drew ?_ | refine blk_alloc ?_ _)); exact BK312.out)⟩, ⟨(zH2 GE305.out GE312.out)⟩⟩
           · rw [if_neg c24] at H
             exact absurd H (by simp)
         · rw [if_neg c23] at H
           exact absurd H (by simp)
       · rw [if_neg c22] at H
         have c22b0 : decide (x16_1 < (l0.length : Int)) = false := decide_eq_false c22
         clear c22
         simp only [Option.some.injEq, Prod.mk.injEq] at H
         obtain ⟨rfl, rfl, rfl, rfl⟩ := H
         have hnb41 := NB312_305.out
         have hnc41 := NB305_312.out
         obtain ⟨hcz42_0, hcz42_1, hcz42_2, hcz42_3, hfz42_0, hfz42_1, hfz42_2, hfz42_3⟩ := zc4 BK312.out
         obtain ⟨hcz43_0, hcz43_1, hcz43_2, hcz43_3, hfz43_0, hfz43_1, hfz43_2, hfz43_3⟩ := zc4 BK305.out
         obtain ⟨Ao44, co44, eo44⟩ := Kd.R_slice HO_313001.out
         subst eo44
         obtain ⟨Ao45, co45, eo45⟩ := Kd.R_slice HO_313003.out
         subst eo45
         go_wp2
         refine bodyPost_ret (results_cell_row rfl _ _ gb305 49 #[.slice Ao17 t306.length co17, .slice Ao44 x313001_1.length co44, .slice Ao16 y309.length co16, .slice Ao45 x313003_1.length co45] (0, 0) _ rfl (by (with_reducible repeat (first | refine blk_drewN ?_ _ | refine blk_drew ?_ | refine blk_alloc ?_ _)); refine blk_put (cs := #[.slice Ao17 t306.length co17, .slice Ao44 x313001_1.length co44, .slice Ao16 y309.length co16, .slice none 0 0]) ?_ 3 _ rfl; (with_reducible repeat (first | refine blk_drewN ?_ _ | refine blk_drew ?_ | refine blk_alloc ?_ _)); refine blk_put (cs := #[.slice Ao17 t306.length co17, .slice Ao44 x313001_1.length co44, .slice none 0 0, .slice none 0 0]) ?_ 2 _ rfl; (with_reducible repeat (first | refine blk_drewN ?_ _ | refine blk_drew ?_ | refine blk_alloc ?_ _)); refine blk_put (cs := #[.slice Ao17 t306.length co17, .slice none 0 0, .slice none 0 0, .slice none 0 0]) ?_ 1 _ rfl; (with_reducible repeat (first | refine blk_drewN ?_ _ | refine blk_drew ?_ | refine blk_alloc ?_ _)); refine blk_put (cs := #[.slice none 0 0, .slice none 0 0, .slice none 0 0, .slice none 0 0]) ?_ 0 _ rfl; (with_reducible repeat (first | refine blk_drewN ?_ _ | refine blk_drew ?_ | refine blk_alloc ?_ _)); exact BK305.out) Try.underlying49 rfl (by kernel_rfl)) rfl ?_
         exact ⟨_, _, _, _, z5, (by (with_reducible repeat (first | apply Kd.R_alloc | apply Kd.R_drewN | apply Kd.R_drew)); exact Kd.R_mono (Kd.R_far (p := ⟨gb305, 3, none⟩) (Kd.R_far (p := ⟨gb305, 2, none⟩) (Kd.R_far (p := ⟨gb305, 1, none⟩) (Kd.R_far (p := ⟨gb305, 0, none⟩) (Kd.R_types HO_313000.out BK305.out (by decide)) (fun _ hk => hk.2) (.slice Ao17 t306.length co17)) (fun _ hk => hk.2) (.slice Ao44 x313001_1.length co44)) (fun _ hk => hk.2) (.slice Ao16 y309.length co16)) (fun _ hk => hk.2) (.slice Ao45 x313003_1.length co45)) (fun _ hk => ⟨hk.1.1, ⟨hk.1.2.1, hk.1.2.2⟩⟩)), (by (with_reducible repeat (first | apply Kd.R_alloc | apply Kd.R_drewN | apply Kd.R_drew)); exact Kd.R_mono (Kd.R_far (p := ⟨gb305, 3, none⟩) (Kd.R_far (p := ⟨gb305, 2, none⟩) (Kd.R_far (p := ⟨gb305, 1, none⟩) (Kd.R_far (p := ⟨gb305, 0, none⟩) (Kd.R_types HO_313001.out BK305.out (by decide)) (fun _ hk => hk.2) (.slice Ao17 t306.length co17)) (fun _ hk => hk.2) (.slice Ao44 x313001_1.length co44)) (fun _ hk => hk.2) (.slice Ao16 y309.length co16)) (fun _ hk => hk.2) (.slice Ao45 x313003_1.length co45)) (fun _ hk => ⟨hk.1.1, ⟨hk.1.2.1, hk.1.2.2⟩⟩)), (by (with_reducible repeat (first | apply Kd.R_alloc | apply Kd.R_drewN | apply Kd.R_drew)); exact Kd.R_mono (Kd.R_far (p := ⟨gb305, 3, none⟩) (Kd.R_far (p := ⟨gb305, 2, none⟩) (Kd.R_far (p := ⟨gb305, 1, none⟩) (Kd.R_far (p := ⟨gb305, 0, none⟩) (Kd.R_types HO_313002.out BK305.out (by decide)) (fun _ hk => hk.2) (.slice Ao17 t306.length co17)) (fun _ hk => hk.2) (.slice Ao44 x313001_1.length co44)) (fun _ hk => hk.2) (.slice Ao16 y309.length co16)) (fun _ hk => hk.2) (.slice Ao45 x313003_1.length co45)) (fun _ hk => ⟨hk.1.1, ⟨hk.1.2.1, hk.1.2.2⟩⟩)), (by (with_reducible repeat (first | apply Kd.R_alloc | apply Kd.R_drewN | apply Kd.R_drew)); exact Kd.R_mono (Kd.R_far (p := ⟨gb305, 3, none⟩) (Kd.R_far (p := ⟨gb305, 2, none⟩) (Kd.R_far (p := ⟨gb305, 1, none⟩) (Kd.R_far (p := ⟨gb305, 0, none⟩) (Kd.R_types HO_313003.out BK305.out (by decide)) (fun _ hk => hk.2) (.slice Ao17 t306.length co17)) (fun _ hk => hk.2) (.slice Ao44 x313001_1.length co44)) (fun _ hk => hk.2) (.slice Ao16 y309.length co16)) (fun _ hk => hk.2) (.slice Ao45 x313003_1.length co45)) (fun _ hk => ⟨hk.1.1, ⟨hk.1.2.1, hk.1.2.2⟩⟩)), (zH2 GE305.out GE312.out)⟩
   · rw [if_neg c6] at H
     exact absurd H (by simp)
 · rw [if_neg c5] at H
   exact absurd H (by simp)
mutual
def impl_Case_planFrom.l0 : Nat → List Int → List Int → Int → List Int → Int → Int → Option (List Int × Bool)
 | 0, _, _, _, _, _, _ => none
 | k + 1, x1, x6, x7, x15, x16, x17 => if x17 < x16 then (if 0 ≤ x17 then (if x17 < (x15.length : Int) then (if x7 < (x1.length : Int) then (if 0 ≤ x7 then (impl_Case_planFrom.j1 k x1 x6 x7 (rd x15 x17) x15 x16 x17 ((rd x1 x7) == x17)) else (none)) else (impl_Case_planFrom.j1 k x1 x6 x7 (rd x15 x17) x15 x16 x17 false)) else (none)) else (none)) else (some (x6, true))
def impl_Case_planFrom.j1 : Nat → List Int → List Int → Int → Int → List Int → Int → Int → Bool → Option (List Int × Bool)
 | 0, _, _, _, _, _, _, _, _ => none
 | k + 1, x1, x6, x7, x9, x15, x16, x17, x33 => if x33 = true then (impl_Case_planFrom.j2 k x1 x6 (wrap64 (x7 + 1)) x9 x15 x16 x17) else (impl_Case_planFrom.j2 k x1 x6 x7 x9 x15 x16 x17)
def impl_Case_planFrom.j2 : Nat → List Int → List Int → Int → Int → List Int → Int → Int → Option (List Int × Bool)
 | 0, _, _, _, _, _, _, _ => none
 | k + 1, x1, x6, x7, x9, x15, x16, x17 => if x7 = 0 then (if x9 > 0 then (some (([] : List Int), false)) else (impl_Case_planFrom.l0 k x1 x6 x7 x15 x16 (wrap64 (x17 + 1)))) else (if 0 ≤ (wrap64 (x7 - 1)) then (if (wrap64 (x7 - 1)) < (x1.length : Int) then (if 0 ≤ (rd x1 (wrap64 (x7 - 1))) then (if (rd x1 (wrap64 (x7 - 1))) < (x6.length : Int) then (impl_Case_planFrom.l0 k x1 (x6.set ((rd x1 (wrap64 (x7 - 1))) : Int).toNat (wrap64 ((rd x6 (rd x1 (wrap64 (x7 - 1)))) + x9))) x7 x15 x16 (wrap64 (x17 + 1))) else (none)) else (none)) else (none)) else (none))
end
def impl_Case_planFrom.f (k : Nat) (l0_0 : List Int) (l0_1 : List Int) (l0_2 : List Int) (l0_3 : List Int) (l1 : List Int) : Option (List Int × Bool) := if 0 ≤ (l0_0.length : Int) then (if ((l0_0.length : Int) : Int).toNat ≤ 35184372088832 then (impl_Case_planFrom.l0 k l1 (List.replicate ((l0_0.length : Int) : Int).toNat 0) 0 l0_0 (l0_0.length : Int) 0) else (none)) else (none)
set_option maxHeartbeats 8000000 in
set_option maxRecDepth 100000 in
theorem impl_Case_planFrom.calls (k : Nat) (A0_0 : Option Addr) (c0_0 : Nat) (l0_0 : List Int) (A0_1 : Option Addr) (c0_1 : Nat) (l0_1 : List Int) (A0_2 : Option Addr) (c0_2 : Nat) (l0_2 : List Int) (A0_3 : Option Addr) (c0_3 : Nat) (l0_3 : List Int) (A1 : Option Addr) (c1 : Nat) (l1 : List Int) (r1 : List Int) (r2 : Bool) (w : World) (hr0_0 : Kd.C (Kd.int .i64) w A0_0 l0_0.length l0_0) (hc0_0 : l0_0.length ≤ c0_0) (hr0_1 : Kd.C (Kd.int .i64) w A0_1 l0_1.length l0_1) (hc0_1 : l0_1.length ≤ c0_1) (hr0_2 : Kd.C (Kd.int .i64) w A0_2 l0_2.length l0_2) (hc0_2 : l0_2.length ≤ c0_2) (hr0_3 : Kd.C (Kd.int .i64) w A0_3 l0_3.length l0_3) (hc0_3 : l0_3.length ≤ c0_3) (hr1 : Kd.C (Kd.int .i64) w A1 l1.length l1) (hc1 : l1.length ≤ c1) (h : impl_Case_planFrom.f k l0_0 l0_1 l0_2 l0_3 l1 = some (r1, r2)) :
 Calls Try.prog 71 #[.agg #[.slice A0_0 l0_0.length c0_0, .slice A0_1 l0_1.length c0_1, .slice A0_2 l0_2.length c0_2, .slice A0_3 l0_3.length c0_3], .slice A1 l1.length c1] w fun e w' => ∃ v0_ : Value, e = .returned (.tuple #[v0_, .bool r2]) ∧ Kd.R (Kd.int .i64) 3 w' w.heap.size (fun _ => True) v0_ r1 ∧ Below w.heap.size w w' := by
 have hu49 := Try.underlying49
 have HR0_0 := Aside0.mk hr0_0
 have HC0_0 := Aside0.mk hc0_0
 clear hr0_0 hc0_0
 have HR0_1 := Aside0.mk hr0_1
 have HC0_1 := Aside0.mk hc0_1
 clear hr0_1 hc0_1
 have HR0_2 := Aside0.mk hr0_2
 have HC0_2 := Aside0.mk hc0_2
 clear hr0_2 hc0_2
 have HR0_3 := Aside0.mk hr0_3
 have HC0_3 := Aside0.mk hc0_3
 clear hr0_3 hc0_3
 have HR1 := Aside0.mk hr1
 have HC1 := Aside0.mk hc1
 clear hr1 hc1
 have HB := Aside0.mk (Below.refl w.heap.size w)
 have H : (if 0 ≤ (l0_0.length : Int) then (if ((l0_0.length : Int) : Int).toNat ≤ 35184372088832 then (impl_Case_planFrom.l0 k l1 (List.replicate ((l0_0.length : Int) : Int).toNat 0) 0 l0_0 (l0_0.length : Int) 0) else (none)) else (none)) = some (r1, r2) := h
 clear h
 by_cases c3 : 0 ≤ (l0_0.length : Int)
 · rw [if_pos c3] at H
   have c3b0 := eq_true c3
   have c3b1 : decide (0 ≤ (l0_0.length : Int)) = true := decide_eq_true c3
   clear c3
   by_cases c4 : ((l0_0.length : Int) : Int).toNat ≤ 35184372088832
   · rw [if_pos c4] at H
     have c4b0 := eq_true c4
     have c4b1 : decide (((l0_0.length : Int) : Int).toNat ≤ 35184372088832) = true := decide_eq_true c4
     clear c4
     obtain ⟨y332, hy332⟩ : ∃ y_ : List Int, y_ = (List.replicate ((l0_0.length : Int) : Int).toNat 0) := ⟨_, rfl⟩
     replace H : (impl_Case_planFrom.l0 k l1 y332 0 l0_0 (l0_0.length : Int) 0) = some (r1, r2) := zY hy332
     have Ny332 := Aside0.mk hy332
     clear hy332
     have H' := Aside0.mk H
     clear H
     go_enter Try.func71, Try.ntmps71
     go_wp2_with (first | ((with_reducible refine gate_dst (N := 2) rfl ?_); refine box_event ?hg (N := 2) ?hd (cs := #[.slice A0_0 l0_0.length c0_0, .slice A0_1 l0_1.length c0_1, .slice A0_2 l0_2.length c0_2, .slice A0_3 l0_3.length c0_3]) (t := 49) ?hr ?_; (case hd => rfl); (case hg => rfl); (case hr => first | (go_simp; done) | (go_simp; rfl)); intro gb331 hg w5 hbox hb; have BK331 := Aside0.mk (hbox); have GW331 := Aside0.mk ((z6 : w.heap.size ≤ gb331)); have GE331 := Aside0.mk ((z6 : w.heap.size ≤ gb331)); replace HB := zs0 hb; clear hb hbox hg; obtain ⟨hcz6_0, hcz6_1, hcz6_2, hcz6_3, hfz6_0, hfz6_1, hfz6_2, hfz6_3⟩ := zc4 BK331.out) | ((with_reducible refine gate_dst (N := 13) rfl ?_); refine Kd.R_make (Kd.int .i64) _ 3 rfl (N := 13) rfl 24 _ _ rfl (l0_0.length : Int) rfl rfl Try.underlying24 (.int .i64 0) 8 info3 rfl (by decide) (by omega) 0 (ok := fun _ => True) (okp := fun _ => True) rfl (fun _ hk => hk) trivial (of_decide_eq_true z1) (Nat.le_trans (Nat.mul_le_mul_right _ (of_decide_eq_true z1 : (l0_0.length : Int).toNat ≤ 35184372088832)) (by omega)) (Below.refl _ _) (Nat.le_refl _) ?_; intro v333 w7 ho8 hb hg_ hnew_; clear hg_ hnew_; (first | rw [← Ny332.out] at ho8 | (simp only [Int.reduceToNat] at ho8; rw [← Ny332.out] at ho8)); have HO334 := Aside0.mk (Kd.R_lower ho8 (below_size (zH1 GE331.out))); replace BK331 := zb BK331 hb; replace HB := zs1 GE331.out hb; clear hb ho8; obtain ⟨hcz9_0, hcz9_1, hcz9_2, hcz9_3, hfz9_0, hfz9_1, hfz9_2, hfz9_3⟩ := zc4 BK331.out))
     go_loopg [7, 17] k (fun kq v7 v17 w' => ∃ (x6_1 : List Int) (x7_1 : Int) (x17_1 : Int), v7 = .int .i64 x7_1 ∧ v17 = .int .i64 x17_1 ∧ Aside0 (impl_Case_planFrom.l0 kq l1 x6_1 x7_1 l0_0 (l0_0.length : Int) x17_1 = some (r1, r2)) ∧ Aside0 (kq ≤ k) ∧ Aside0 (Kd.R (Kd.int .i64) 3 w' w.heap.size (fun _ => True) v333 x6_1) ∧ Aside0 (w'.heap[gb331]? = some (.cells #[(.slice A0_0 l0_0.length c0_0), (.slice A0_1 l0_1.length c0_1), (.slice A0_2 l0_2.length c0_2), (.slice A0_3 l0_3.length c0_3)] 49 (0, 0))) ∧ Aside0 (Below w.heap.size w w'))
     case atStart => exact ⟨(y332), (0), (0), z3, z3, H', ⟨Nat.le_refl _⟩, ⟨(zR HO334.out)⟩, ⟨(zB BK331.out)⟩, ⟨(zH1 GE331.out)⟩⟩
     case round =>
      clear H'
      try clear c1
      try clear p2
      try clear c3
      try clear c3b0
      try clear c3b1
      try clear c4
      try clear c4b0
      try clear c4b1
      try clear c7
      try clear hcz6_0
      try clear hcz6_1
      try clear hcz6_2
      try clear hcz6_3
      try clear hcz9_0
      try clear hcz9_1
      try clear hcz9_2
      try clear hcz9_3
      try clear hfz6_0
      try clear hfz6_1
      try clear hfz6_2
      try clear hfz6_3
      try clear hfz9_0
      try clear hfz9_1
      try clear hfz9_2
      try clear hfz9_3
      obtain ⟨x6_1, x7_1, x17_1, rfl, rfl, HA, HK1, HO_6, BK331, HB⟩ := hrel
      cases gk with
      | zero => exact absurd HA.out (by simp [impl_Case_planFrom.l0])
      | succ k1 =>
       have H := HA.out
       clear HA
       simp only [impl_Case_planFrom.l0] at H
       by_cases c10 : x17_1 < (l0_0.length : Int)
       · rw [if_pos c10] at H
         have c10b0 : decide (x17_1 < (l0_0.length : Int)) = true := decide_eq_true c10
         clear c10
         by_cases c11 : 0 ≤ x17_1
         · rw [if_pos c11] at H
           have c11b0 : decide (0 ≤ x17_1) = true := decide_eq_true c11
           clear c11
           by_cases c12 : x17_1 < (l0_0.length : Int)
           · rw [if_pos c12] at H
             have c12b0 : decide (x17_1 < (l0_0.length : Int)) = true := decide_eq_true c12
             clear c12
             have HC13 := Aside0.mk H
             clear H
             have p335 : 0 ≤ (x17_1 : Int) := of_decide_eq_true z1
             have q335 : x17_1 < (l0_0.length : Int) := of_decide_eq_true z1
             obtain ⟨ad335, e335, hx335_0⟩ := Kd.at_int HR0_0.out x17_1 p335 q335
             cases e335
             replace hx335_0 := (HB.out.cell (World.block_lt_of_cell? w _ hx335_0)).trans hx335_0
             replace p335 := eq_true p335
             replace q335 := eq_true q335
             go_upto_region 5 with (fail)
             go_cut [33] (fun v33 wc => ∃ (kq : Nat) (x33_12 : Bool), v33 = .bool x33_12 ∧ Aside0 (impl_Case_planFrom.j1 kq l1 x6_1 x7_1 (rd l0_0 x17_1) l0_0 (l0_0.length : Int) x17_1 x33_12 = some (r1, r2)) ∧ Aside0 (kq ≤ k1) ∧ Aside0 (Kd.R (Kd.int .i64) 3 wc w.heap.size (fun _ => True) v333 x6_1) ∧ Aside0 (wc.heap[gb331]? = some (.cells #[(.slice (some ad335) l0_0.length c0_0), (.slice A0_1 l0_1.length c0_1), (.slice A0_2 l0_2.length c0_2), (.slice A0_3 l0_3.length c0_3)] 49 (0, 0))) ∧ Aside0 (Below w.heap.size w wc))
             case first =>
              have H := HC13.out
              clear HC13
              by_cases c14 : x7_1 < (l1.length : Int)
              · rw [if_pos c14] at H
                have c14b0 : decide (x7_1 < (l1.length : Int)) = true := decide_eq_true c14
                clear c14
                (first | rw [c14b0] | (simp only [i64_w, i32_w]; rw [c14b0]) | skip)
                by_cases c15 : 0 ≤ x7_1
                · rw [if_pos c15] at H
                  have c15b0 : decide (0 ≤ x7_1) = true := decide_eq_true c15
                  clear c15
                  have H' := Aside0.mk H
                  clear H
                  have p336 : 0 ≤ (x7_1 : Int) := of_decide_eq_true z1
                  have q336 : x7_1 < (l1.length : Int) := of_decide_eq_true z1
                  obtain ⟨ad336, e336, hx336_0⟩ := Kd.at_int HR1.out x7_1 p336 q336
                  cases e336
                  replace hx336_0 := (HB.out.cell (World.block_lt_of_cell? w _ hx336_0)).trans hx336_0
                  replace p336 := eq_true p336
                  replace q336 := eq_true q336
                  go_wp2
                  go_meet
                  case rel => exact ⟨_, (((rd l1 x7_1) == x17_1)), z3, H', ⟨z36⟩, ⟨(zR HO_6.out)⟩, ⟨(zB BK331.out)⟩, ⟨(zH1 GE331.out)⟩⟩
                · rw [if_neg c15] at H
                  exact absurd H (by simp)
              · rw [if_neg c14] at H
                have c14b0 : decide (x7_1 < (l1.length : Int)) = false := decide_eq_false c14
                clear c14
                (first | rw [c14b0] | (simp only [i64_w, i32_w]; rw [c14b0]) | skip)
                have H' := Aside0.mk H
                clear H
                go_wp2
                go_meet
                case rel => exact ⟨_, (false), z3, H', ⟨z36⟩, ⟨(zR HO_6.out)⟩, ⟨(zB BK331.out)⟩, ⟨(zH1 GE331.out)⟩⟩
             case rest =>
              clear HC13
              try clear c1
              try clear p2
              try clear c3
              try clear c3b0
              try clear c3b1
              try clear p3
              try clear q3
              try clear hx3
              try clear c4
              try clear c4b0
              try clear c4b1
              try clear c7
              try clear c10
              try clear c10b0
              try clear c11
              try clear c11b0
              try clear c12
              try clear c12b0
              try clear c14
              try clear c14b0
              try clear c15
              try clear c15b0
              try clear hcz6_0
              try clear hcz6_1
              try clear hcz6_2
              try clear hcz6_3
              try clear hcz9_0
              try clear hcz9_1
              try clear hcz9_2
              try clear hcz9_3
              try clear hfz6_0
              try clear hfz6_1
              try clear hfz6_2
              try clear hfz6_3
              try clear hfz9_0
              try clear hfz9_1
              try clear hfz9_2
              try clear hfz9_3
              try clear hx335_0
              try clear hx336_0
              try clear p2
              try clear p335
              try clear p336
              try clear q335
              try clear q336
              obtain ⟨kq, x33_12, rfl, HA, HJ12, HO_6, BK331, HB⟩ := hcut
              cases kq with
              | zero => exact absurd HA.out (by simp [impl_Case_planFrom.j1])
              | succ kj12 =>
               have H := HA.out
               clear HA
               simp only [impl_Case_planFrom.j1] at H
               have HC16 := Aside0.mk H
               clear H
               go_upto_if 33 with (fail)
               go_cut [7] (fun v7 wc => ∃ (kq : Nat) (x7_15 : Int), v7 = .int .i64 x7_15 ∧ Aside0 (impl_Case_planFrom.j2 kq l1 x6_1 x7_15 (rd l0_0 x17_1) l0_0 (l0_0.length : Int) x17_1 = some (r1, r2)) ∧ Aside0 (kq ≤ kj12) ∧ Aside0 (Kd.R (Kd.int .i64) 3 wc w.heap.size (fun _ => True) v333 x6_1) ∧ Aside0 (wc.heap[gb331]? = some (.cells #[(.slice (some ad335) l0_0.length c0_0), (.slice A0_1 l0_1.length c0_1), (.slice A0_2 l0_2.length c0_2), (.slice A0_3 l0_3.length c0_3)] 49 (0, 0))) ∧ Aside0 (Below w.heap.size w wc))
               case first =>
                have H := HC16.out
                clear HC16
                by_cases c17 : x33_12 = true
                · subst c17
                  have H1 : (impl_Case_planFrom.j2 kj12 l1 x6_1 (wrap64 (x7_1 + 1)) (rd l0_0 x17_1) l0_0 (l0_0.length : Int) x17_1) = some (r1, r2) := by rw [if_pos rfl] at H; exact H
                  clear H
                  have H := H1
                  clear H1
                  have H' := Aside0.mk H
                  clear H
                  go_wp2
                  go_meet
                  case rel => exact ⟨_, (wrap64 (x7_1 + 1)), z3, H', ⟨(by have := HK1.out; have := HJ12.out; first | omega | exact Nat.le_refl _)⟩, ⟨(zR HO_6.out)⟩, ⟨(zB BK331.out)⟩, ⟨(zH1 GE331.out)⟩⟩
                · replace c17 := Bool.eq_false_iff.mpr c17
                  subst c17
                  have H1 : (impl_Case_planFrom.j2 kj12 l1 x6_1 x7_1 (rd l0_0 x17_1) l0_0 (l0_0.length : Int) x17_1) = some (r1, r2) := by rw [if_neg (show ¬ (false = true) by decide)] at H; exact H
                  clear H
                  have H := H1
                  clear H1
                  have H' := Aside0.mk H
                  clear H
                  go_wp2
                  go_meet
                  case rel => exact ⟨_, (x7_1), z3, H', ⟨(by have := HK1.out; have := HJ12.out; first | omega | exact Nat.le_refl _)⟩, ⟨(zR HO_6.out)⟩, ⟨(zB BK331.out)⟩, ⟨(zH1 GE331.out)⟩⟩
               case rest =>
                clear HC16
                try clear c1
                try clear p2
                try clear c3
                try clear c3b0
                try clear c3b1
                try clear p3
                try clear q3
                try clear hx3
                try clear c4
                try clear c4b0
                try clear c4b1
                try clear p6
                try clear c7
                try clear c10
                try clear c10b0
                try clear c11
                try clear c11b0
                try clear c12
                try clear c12b0
                try clear c14
                try clear c14b0
                try clear c15
                try clear c15b0
                try clear c17
                try clear hcz6_0
                try clear hcz6_1
                try clear hcz6_2
                try clear hcz6_3
                try clear hcz9_0
                try clear hcz9_1
                try clear hcz9_2
                try clear hcz9_3
                try clear hfz6_0
                try clear hfz6_1
                try clear hfz6_2
                try clear hfz6_3
                try clear hfz9_0
                try clear hfz9_1
                try clear hfz9_2
                try clear hfz9_3
                try clear hx335_0
                try clear hx336_0
                try clear p2
                try clear p3
                try clear p335
                try clear p336
                try clear q3
                try clear q335
                try clear q336
                obtain ⟨kq, x7_15, rfl, HA, HJ15, HO_6, BK331, HB⟩ := hcut
                cases kq with
                | zero => exact absurd HA.out (by simp [impl_Case_planFrom.j2])
                | succ kj15 =>
                 have H := HA.out
                 clear HA
                 simp only [impl_Case_planFrom.j2] at H
                 by_cases c18 : x7_15 = 0
                 · rw [if_pos c18] at H
                   have c18b0 : (x7_15 == 0) = true := beq_iff_eq.mpr c18
                   have c18b1 : (x7_15 != 0) = false := bne_eq_false_iff_eq.mpr c18
                   clear c18
                   by_cases c19 : (rd l0_0 x17_1) > 0
                   · rw [if_pos c19] at H
                     have c19b0 : decide (0 < (rd l0_0 x17_1)) = true := decide_eq_true c19
                     clear c19
                     simp only [Option.some.injEq, Prod.mk.injEq] at H
                     obtain ⟨rfl, rfl⟩ := H
                     go_wp2
                     go_ret2
                     exact ⟨_, z5, z43, (zH1 GE331.out)⟩
                   · rw [if_neg c19] at H
                     have c19b0 : decide (0 < (rd l0_0 x17_1)) = false := decide_eq_false c19
                     clear c19
                     have H' := Aside0.mk H
                     clear H
                     go_wp2
                     go_roundg kj15
                     case measure => have := HK1.out; have := HJ12.out; have := HJ15.out; omega
                     case rel => exact ⟨(x6_1), (x7_15), (wrap64 (x17_1 + 1)), z3, z3, H', ⟨(by have := HK1.out; have := HJ12.out; have := HJ15.out; omega)⟩, ⟨(zR HO_6.out)⟩, ⟨(zB BK331.out)⟩, ⟨(zH1 GE331.out)⟩⟩
                 · rw [if_neg c18] at H
                   have c18b0 : (x7_15 == 0) = false := beq_eq_false_iff_ne.mpr c18
                   have c18b1 : (x7_15 != 0) = true := bne_iff_ne.mpr c18
                   obtain ⟨ji20, hji20⟩ : ∃ j_ : Int, (wrap64 (x7_15 - 1)) = j_ := ⟨_, rfl⟩
                   replace H : (if 0 ≤ (ji20) then (if (ji20) < (l1.length : Int) then (if 0 ≤ (rd l1 (ji20)) then (if (rd l1 (ji20)) < (x6_1.length : Int) then (impl_Case_planFrom.l0 kj15 l1 (x6_1.set ((rd l1 (ji20)) : Int).toNat (wrap64 ((rd x6_1 (rd l1 (ji20))) + (rd l0_0 x17_1)))) x7_15 l0_0 (l0_0.length : Int) (wrap64 (x17_1 + 1))) else (none)) else (none)) else (none)) else (none)) = some (r1, r2) := by first | (rw [hji20] at H; exact H) | (simp only [hji20] at H ⊢; exact H)
                   have hji20w : (IntKind.i64.wrap (x7_15 - 1)) = ji20 := (i64_w _).trans hji20
                   by_cases c21 : 0 ≤ (ji20)
                   · rw [if_pos c21] at H
                     have c21b0 : decide (0 ≤ (ji20)) = true := decide_eq_true c21
                     clear c21
                     by_cases c22 : (ji20) < (l1.length : Int)
                     · rw [if_pos c22] at H
                       have c22b0 : decide ((ji20) < (l1.length : Int)) = true := decide_eq_true c22
                       clear c22
                       by_cases c23 : 0 ≤ (rd l1 (ji20))
                       · rw [if_pos c23] at H
                         have c23b0 : decide (0 ≤ (rd l1 (ji20))) = true := decide_eq_true c23
                         clear c23
                         by_cases c24 : (rd l1 (ji20)) < (x6_1.length : Int)
                         · rw [if_pos c24] at H
                           have c24b0 : decide ((rd l1 (ji20)) < (x6_1.length : Int)) = true := decide_eq_true c24
                           clear c24
                           obtain ⟨y339, hy339⟩ : ∃ y_ : List Int, y_ = (x6_1.set ((rd l1 (ji20)) : Int).toNat (wrap64 ((rd x6_1 (rd l1 (ji20))) + (rd l0_0 x17_1)))) := ⟨_, rfl⟩
                           replace H : (impl_Case_planFrom.l0 kj15 l1 y339 x7_15 l0_0 (l0_0.length : Int) (wrap64 (x17_1 + 1))) = some (r1, r2) := zY hy339
                           have Ny339 := Aside0.mk hy339
                           clear hy339
                           have H' := Aside0.mk H
                           clear H
                           have p337 : 0 ≤ ((ji20) : Int) := of_decide_eq_true z1
                           have q337 : (ji20) < (l1.length : Int) := of_decide_eq_true z1
                           obtain ⟨ad337, e337, hx337_0⟩ := Kd.at_int HR1.out (ji20) p337 q337
                           cases e337
                           replace hx337_0 := (HB.out.cell (World.block_lt_of_cell? w _ hx337_0)).trans hx337_0
                           replace p337 := eq_true p337
                           replace q337 := eq_true q337
                           obtain ⟨Ao26, co26, eo26⟩ := Kd.R_slice HO_6.out
                           subst eo26
                           have p338 : 0 ≤ ((rd l1 (ji20)) : Int) := of_decide_eq_true z1
                           have q338 : (rd l1 (ji20)) < (x6_1.length : Int) := of_decide_eq_true z1
                           obtain ⟨ad338, e338, hx338_0⟩ := Kd.at_int (Kd.R_reads' HO_6.out).2.2 (rd l1 (ji20)) p338 q338
                           cases e338
                           replace p338 := eq_true p338
                           replace q338 := eq_true q338
                           have p25 : 0 ≤ ((rd l1 (ji20)) : Int) := of_decide_eq_true z1
                           have q25 : ((rd l1 (ji20)) : Int) < ((x6_1.length : Int) : Int) := of_decide_eq_true z1
                           obtain ⟨go25, co25, eo25, gb25, gl25, cl25, HG25⟩ := Kd.R_form HO_6.out (by omega)
                           (first | cases eo25 | (injection eo25 with ea_ en_ ec_; (first | subst ea_ | (injection ea_ with ea_; subst ea_)); subst ec_; clear en_))
                           have GB25 := Aside0.mk gb25
                           have GG25 := Aside0.mk HG25
                           clear gb25 gl25 HG25
                           (first | simp only [add_plain] at hx338_0 | skip)
                           obtain ⟨hx25_0, hf25_0⟩ := Kd.R_celln 0 HO_6.out ((rd l1 (ji20)) : Int) p25 q25
                           replace p25 := eq_true p25
                           replace q25 := eq_true q25
                           have HP27 := Kd.R_putg HO_6.out ((rd l1 (ji20)) : Int) (wrap64 ((rd x6_1 (rd l1 (ji20))) + (rd l0_0 x17_1)))
                           go_wp2_with (first | ((with_reducible refine gate_store (t := 3) (p := 50) rfl ?_); refine store_event (t := 3) (p := 50) (v := ?vo_w28) (w1 := (wc.setCell ⟨go25, ((rd l1 (ji20)) : Int).toNat, none⟩ (.int .i64 (wrap64 ((rd x6_1 (rd l1 (ji20))) + (rd l0_0 x17_1)))))) ?hg ?ho ?hn ?hr ?_; (case ho => rfl); (case hg => rfl); (case hn => rfl); (case hr => first | (go_simp; done) | (go_simp; rfl)); intro w28 hw; have hg : wc.grownBy w28 (some go25) := (by rw [hw]; exact HP27.2); have hp_ : Kd.R (Kd.int .i64) 3 w28 w.heap.size (fun _ => True) (.slice (some ⟨go25, 0, none⟩) x6_1.length co26) y339 := (by rw [hw, Ny339.out]; exact HP27.1); clear HP27; replace BK331 := Aside0.mk (blk_grown (g := gb331) (o := .cells #[.slice (some ad335) l0_0.length c0_0, .slice A0_1 l0_1.length c0_1, .slice A0_2 l0_2.length c0_2, .slice A0_3 l0_3.length c0_3] 49 (0, 0)) (zB BK331.out) hg (Kd.R_ne HO_6.out BK331.out (by decide))); replace HO_6 := Aside0.mk (hp_); replace HB := Aside0.mk ((by rw [hw]; exact below_set (HB.out) GB25.out : Below w.heap.size w w28)); clear hg hw hp_))
                           go_roundg kj15
                           case measure => have := HK1.out; have := HJ12.out; have := HJ15.out; omega
                           case rel => exact ⟨(y339), (x7_15), (wrap64 (x17_1 + 1)), z3, z3, H', ⟨(by have := HK1.out; have := HJ12.out; have := HJ15.out; omega)⟩, ⟨(zR HO_6.out)⟩, ⟨(zB BK331.out)⟩, ⟨(zH1 GE331.out)⟩⟩
                         · rw [if_neg c24] at H
                           exact absurd H (by simp)
                       · rw [if_neg c23] at H
                         exact absurd H (by simp)
                     · rw [if_neg c22] at H
                       exact absurd H (by simp)
                   · rw [if_neg c21] at H
                     exact absurd H (by simp)
           · rw [if_neg c12] at H
             exact absurd H (by simp)
         · rw [if_neg c11] at H
           exact absurd H (by simp)
       · rw [if_neg c10] at H
         have c10b0 : decide (x17_1 < (l0_0.length : Int)) = false := decide_eq_false c10
         clear c10
         simp only [Option.some.injEq, Prod.mk.injEq] at H
         obtain ⟨rfl, rfl⟩ := H
         go_wp2
         go_ret2
         exact ⟨_, z5, (zR HO_6.out), (zH1 GE331.out)⟩
   · rw [if_neg c4] at H
     exact absurd H (by simp)
 · rw [if_neg c3] at H
   exact absurd H (by simp)
end Go.Proofs.Ythlmmcmpllgflaa.P
namespace Go.Proofs.Ythlmmcmpllgflaa.P
open Go.RowKit Go.Proofs.YthlmmcmpllgflaaW.PrintWords Go.Proofs.YthlmmcmpllgflaaW.PrintLast Go.Proofs.YthlmmcmpllgflaaW.PrintMore ChainMath
def dsum (need : List Int) (t : Nat) : Int := lsum (need.take t)
theorem dsum_zero (need : List Int) : dsum need 0 = 0 := rfl
theorem dsum_succ (need : List Int) {t : Nat} (h : t < need.length) : dsum need (t + 1) = dsum need t + need.getD t 0 := by
  unfold dsum
  rw [List.take_succ_eq_append_getElem h, lsum_append, List.getD_eq_getElem?_getD, List.getElem?_eq_getElem h]; simp [lsum]
theorem dsum_mono (need : List Int) (hn : ∀ x ∈ need, 0 ≤ x) : ∀ s t, s ≤ t → t ≤ need.length → dsum need s ≤ dsum need t := by
  intro s t hst ht
  induction t with
  | zero => have : s = 0 := by omega
            subst this; exact Int.le_refl _
  | succ t ih =>
    rcases Nat.eq_or_lt_of_le hst with e | e
    · subst e; exact Int.le_refl _
    · rw [dsum_succ need (by omega)]
      have := ih (by omega) (by omega)
      have h0 := hn (need.getD t 0) (by rw [List.getD_eq_getElem?_getD, List.getElem?_eq_getElem (by omega)]; simp)
      omega
theorem getD_mem (l : List Int) {i : Nat} (h : i < l.length) : l.getD i 0 ∈ l := by rw [List.getD_eq_getElem?_getD, List.getElem?_eq_getElem h]; simp
theorem dsum_bound (need : List Int) (M : Int) (hn : ∀ x ∈ need, 0 ≤ x ∧ x ≤ M) : ∀ t, t ≤ need.length → 0 ≤ dsum need t ∧ dsum need t ≤ M * (t : Int) := by
  intro t ht
  unfold dsum
  have := lsum_bound (need.take t) M (fun x hx => hn x (List.mem_of_mem_take hx))
  rw [List.length_take, Nat.min_eq_left ht] at this; exact this
def perN (O : Nat → Bool) (n : Nat) : List Nat := (List.range n).filter O
def per (O : Nat → Bool) (n : Nat) : List Int := (perN O n).map fun t : Nat => (t : Int)
theorem perN_succ (O : Nat → Bool) (n : Nat) : perN O (n + 1) = perN O n ++ (if O n then [n] else []) := by
  unfold perN; rw [List.range_succ, List.filter_append]; congr 1; simp [List.filter_cons]
theorem perN_len (O : Nat → Bool) : ∀ n, (perN O n).length = cnt O n
  | 0 => rfl
  | n + 1 => by rw [perN_succ, List.length_append, perN_len O n]; simp only [cnt]; split <;> simp
theorem per_len (O : Nat → Bool) (n : Nat) : (per O n).length = cnt O n := by unfold per; rw [List.length_map, perN_len]
theorem cnt_mono (O : Nat → Bool) {s t : Nat} (h : s ≤ t) : cnt O s ≤ cnt O t := by
  induction t with
  | zero => have : s = 0 := by omega
            subst this; exact Nat.le_refl _
  | succ t ih =>
    rcases Nat.eq_or_lt_of_le h with e | e
    · subst e; exact Nat.le_refl _
    · have := ih (by omega); simp only [cnt]; omega
theorem perN_get (O : Nat → Bool) : ∀ {n i : Nat}, i < n → O i = true → (perN O n).getD (cnt O i) 0 = i := by
  intro n
  induction n with
  | zero => intro i h; omega
  | succ n ih =>
    intro i h ho
    rw [perN_succ]
    rcases Nat.eq_or_lt_of_le (Nat.le_of_lt_succ h) with e | e
    · subst e
      rw [ho, List.getD_eq_getElem?_getD, List.getElem?_append_right (by rw [perN_len]; exact Nat.le_refl _), perN_len]; simp
    · have h2 := cnt_mono O (show i + 1 ≤ n from e)
      simp only [cnt, ho, if_true] at h2
      rw [List.getD_eq_getElem?_getD, List.getElem?_append_left (by rw [perN_len]; omega), ← List.getD_eq_getElem?_getD]
      exact ih e ho
theorem per_get (O : Nat → Bool) {n i : Nat} (h : i < n) (ho : O i = true) : (per O n).getD (cnt O i) 0 = (i : Int) := by
  have h1 := perN_get O h ho
  have h2 : cnt O i < (perN O n).length := by
    rw [perN_len]; have := cnt_mono O (show i + 1 ≤ n from h); simp only [cnt, ho, if_true] at this; omega
  unfold per
  rw [List.getD_eq_getElem?_getD, List.getElem?_map, List.getElem?_eq_getElem h2]
  rw [List.getD_eq_getElem?_getD, List.getElem?_eq_getElem h2] at h1
  simp at h1 ⊢; omega
theorem cnt_same (O : Nat → Bool) {s : Nat} : ∀ d, (∀ u, s ≤ u → u < s + d → O u = false) → cnt O (s + d) = cnt O s
  | 0, _ => rfl
  | d + 1, h => by
    rw [show s + (d + 1) = (s + d) + 1 by omega]; simp only [cnt]
    rw [cnt_same O d (fun u h1 h2 => h u h1 (by omega)), h (s + d) (by omega) (by omega)]; simp
theorem cnt_nxt (O : Nat → Bool) (n : Nat) {i : Nat} : cnt O (nxt O n i) = cnt O i := by
  have h := nxt_ge O n i
  have := cnt_same O (s := i) (nxt O n i - i) (fun u h1 h2 => nxt_not O (n := n) h1 (by omega))
  rwa [show i + (nxt O n i - i) = nxt O n i by omega] at this
theorem per_get_not (O : Nat → Bool) {n i : Nat} (h : i < n) (ho : O i = false) (hl : cnt O i < cnt O n) : ¬ (per O n).getD (cnt O i) 0 = (i : Int) := by
  have h1 := nxt_ge O n i; have h2 := nxt_le O (n := n) (t := i) (by omega); have h3 := cnt_nxt O n (i := i)
  have h4 : nxt O n i < n := by
    rcases Nat.lt_or_ge (nxt O n i) n with e | e
    · exact e
    · rw [show nxt O n i = n by omega] at h3; omega
  have h5 := per_get O h4 (nxt_in O h4)
  rw [h3] at h5; rw [h5]
  intro e
  have e : nxt O n i = i := by omega
  have := nxt_in O h4; rw [e, ho] at this; simp at this
theorem last_order (O : Nat → Bool) : ∀ i, 0 < cnt O i → ∃ t, t < i ∧ O t = true ∧ (∀ u, t < u → u < i → O u = false) ∧ cnt O i = cnt O t + 1
  | 0, h => by simp [cnt] at h
  | i + 1, h => by
    by_cases ho : O i = true
    · exact ⟨i, (by omega), ho, fun u h1 h2 => by omega, (by simp [cnt, ho])⟩
    · have ho : O i = false := by simpa using ho
      have h' : cnt O (i + 1) = cnt O i := by simp [cnt, ho]
      obtain ⟨t, h1, h2, h3, h4⟩ := last_order O i (by omega)
      exact ⟨t, (by omega), h2, fun u h5 h6 => by rcases Nat.eq_or_lt_of_le (Nat.le_of_lt_succ h6) with e | e; subst e; exact ho; exact h3 u h5 e, (by omega)⟩
def planTo (need : List Int) (O : Nat → Bool) (i : Nat) : List Int := (List.range need.length).map fun t => if O t = true ∧ t < i then dsum need (min (nxt O need.length (t + 1)) i) - dsum need t else 0
def planOf (need : List Int) (O : Nat → Bool) : List Int := (List.range need.length).map fun t => if O t = true then dsum need (nxt O need.length (t + 1)) - dsum need t else 0
theorem planTo_len (need : List Int) (O : Nat → Bool) (i : Nat) : (planTo need O i).length = need.length := by unfold planTo; simp
theorem planOf_len (need : List Int) (O : Nat → Bool) : (planOf need O).length = need.length := by unfold planOf; simp
theorem planTo_get (need : List Int) (O : Nat → Bool) (i : Nat) {t : Nat} (h : t < need.length) : (planTo need O i).getD t 0 = if O t = true ∧ t < i then dsum need (min (nxt O need.length (t + 1)) i) - dsum need t else 0 := by
  unfold planTo; rw [List.getD_eq_getElem?_getD, List.getElem?_map, List.getElem?_range h]; rfl
theorem planOf_get (need : List Int) (O : Nat → Bool) {t : Nat} (h : t < need.length) : (planOf need O).getD t 0 = if O t = true then dsum need (nxt O need.length (t + 1)) - dsum need t else 0 := by
  unfold planOf; rw [List.getD_eq_getElem?_getD, List.getElem?_map, List.getElem?_range h]; rfl
theorem ext_getD {a b : List Int} (hl : a.length = b.length) (h : ∀ t, t < a.length → a.getD t 0 = b.getD t 0) : a = b := by
  apply List.ext_getElem hl
  intro i h1 h2
  have := h i h1
  rw [List.getD_eq_getElem?_getD, List.getElem?_eq_getElem h1, List.getD_eq_getElem?_getD, List.getElem?_eq_getElem h2] at this
  exact this
theorem getD_set (l : List Int) (i j : Nat) (v : Int) (hi : i < l.length) : (l.set i v).getD j 0 = if j = i then v else l.getD j 0 := by
  rw [List.getD_eq_getElem?_getD, List.getElem?_set]
  by_cases h : i = j
  · subst h; simp [hi]
  · rw [if_neg h, if_neg (fun e => h e.symm), List.getD_eq_getElem?_getD]
theorem planTo_n (need : List Int) (O : Nat → Bool) : planTo need O need.length = planOf need O := by
  refine ext_getD (by rw [planTo_len, planOf_len]) fun t ht => ?_
  rw [planTo_len] at ht
  rw [planTo_get need O _ ht, planOf_get need O ht, Nat.min_eq_left (nxt_le O (by omega))]
  by_cases h : O t = true
  · rw [if_pos ⟨h, ht⟩, if_pos h]
  · rw [if_neg (fun e => h e.1), if_neg h]
theorem planTo_at (need : List Int) (O : Nat → Bool) {i : Nat} (h : i < need.length) (ho : O i = true) : (planTo need O i).set i (0 + need.getD i 0) = planTo need O (i + 1) := by
  refine ext_getD (by rw [List.length_set, planTo_len, planTo_len]) fun t ht => ?_
  rw [List.length_set, planTo_len] at ht
  rw [getD_set _ _ _ _ (by rw [planTo_len]; exact h), planTo_get need O _ ht, planTo_get need O _ ht]
  by_cases e : t = i
  · subst e
    rw [if_pos rfl, if_pos ⟨ho, (by omega)⟩]
    have h1 := nxt_ge O need.length (t + 1)
    rw [Nat.min_eq_right h1, dsum_succ need h]; omega
  · rw [if_neg e]
    by_cases h2 : O t = true ∧ t < i
    · rw [if_pos h2, if_pos ⟨h2.1, (by omega)⟩]
      have := nxt_min O (n := need.length) (show t + 1 ≤ i from h2.2) ho
      rw [Nat.min_eq_left this, Nat.min_eq_left (by omega)]
    · rw [if_neg h2, if_neg (fun e2 => h2 ⟨e2.1, (by have := e2.2; omega)⟩)]
theorem planTo_more (need : List Int) (O : Nat → Bool) {i t0 : Nat} (h : i < need.length) (ho : O i = false) (h1 : t0 < i) (h2 : O t0 = true) (h3 : ∀ u, t0 < u → u < i → O u = false) :
    (planTo need O i).set t0 ((planTo need O i).getD t0 0 + need.getD i 0) = planTo need O (i + 1) := by
  have hn : i < nxt O need.length (t0 + 1) := by
    apply Classical.byContradiction; intro hc
    have h4 := nxt_ge O need.length (t0 + 1)
    have h5 := nxt_in O (n := need.length) (t := t0 + 1) (by omega)
    rcases Nat.eq_or_lt_of_le (show nxt O need.length (t0 + 1) ≤ i by omega) with e | e
    · rw [e, ho] at h5; simp at h5
    · rw [h3 _ (by omega) e] at h5; simp at h5
  refine ext_getD (by rw [List.length_set, planTo_len, planTo_len]) fun t ht => ?_
  rw [List.length_set, planTo_len] at ht
  rw [getD_set _ _ _ _ (by rw [planTo_len]; omega), planTo_get need O _ ht, planTo_get need O _ ht, planTo_get need O _ (by omega)]
  by_cases e : t = t0
  · subst e
    rw [if_pos rfl, if_pos ⟨h2, h1⟩, if_pos ⟨h2, (by omega)⟩, Nat.min_eq_right (by omega), Nat.min_eq_right (by omega), dsum_succ need h]; omega
  · rw [if_neg e]
    by_cases h4 : O t = true ∧ t < i
    · rw [if_pos h4, if_pos ⟨h4.1, (by omega)⟩]
      have h5 : t < t0 := by
        rcases Nat.lt_or_ge t t0 with h6 | h6
        · exact h6
        · have := h3 t (by omega) h4.2; rw [h4.1] at this; simp at this
      have := nxt_min O (n := need.length) (show t + 1 ≤ t0 from h5) h2
      rw [Nat.min_eq_left (by omega), Nat.min_eq_left (by omega)]
    · rw [if_neg h4, if_neg (fun e2 => h4 ⟨e2.1, by
        rcases Nat.eq_or_lt_of_le (Nat.le_of_lt_succ e2.2) with e3 | e3
        · rw [e3, ho] at e2; simp at e2
        · exact e3⟩)]
theorem planTo_none (need : List Int) (O : Nat → Bool) {i : Nat} (h : cnt O (i + 1) = 0) : planTo need O i = planTo need O (i + 1) := by
  refine ext_getD (by rw [planTo_len, planTo_len]) fun t ht => ?_
  rw [planTo_len] at ht
  have hz : ∀ u, u < i + 1 → O u = false := by
    intro u hu
    have := cnt_mono O (show u + 1 ≤ i + 1 by omega)
    rcases Bool.eq_false_or_eq_true (O u) with e | e
    · rw [h] at this; simp only [cnt, e, if_true] at this; omega
    · exact e
  rw [planTo_get need O _ ht, planTo_get need O _ ht, if_neg (fun e => by have := hz t (by omega); rw [e.1] at this; simp at this), if_neg (fun e => by have := hz t e.2; rw [e.1] at this; simp at this)]
def cover (need : List Int) (O : Nat → Bool) : Prop := dsum need (nxt O need.length 0) = 0
instance (need : List Int) (O : Nat → Bool) : Decidable (cover need O) := by unfold cover; infer_instance
theorem planFrom_l0 (need : List Int) (O : Nat → Bool) (hl : need.length ≤ 1000) (hn : ∀ x ∈ need, 0 ≤ x ∧ x ≤ 1000000) : ∀ d i, i + d = need.length → (cnt O i = 0 → dsum need i = 0) → (0 < cnt O i → cover need O) →
    Ev (fun k => impl_Case_planFrom.l0 k (per O need.length) (planTo need O i) (cnt O i : Int) need (need.length : Int) (i : Int)) (if cover need O then (planOf need O, true) else ([], false))
  | 0, i, h, h1, h2 => by
    have hi : i = need.length := by omega
    subst hi
    refine Ev.step (fun k => impl_Case_planFrom.l0.eq_2 ..) ?_
    refine Ev.neg (by omega) ((Ev.now _).to ?_)
    have hc : cover need O := by
      by_cases hz : 0 < cnt O need.length
      · exact h2 hz
      · unfold cover
        have h3 : nxt O need.length 0 = need.length := by
          apply Classical.byContradiction; intro hc
          have h4 := nxt_le O (n := need.length) (t := 0) (by omega)
          have h5 := nxt_in O (n := need.length) (t := 0) (by omega)
          have := cnt_mono O (show nxt O need.length 0 + 1 ≤ need.length by omega)
          simp only [cnt, h5, if_true] at this; omega
        rw [h3]; exact h1 (by omega)
    rw [if_pos hc, planTo_n]
  | d + 1, i, h, h1, h2 => by
    have hi : i < need.length := by omega
    have hci : cnt O i ≤ i := by
      have : ∀ j, cnt O j ≤ j := fun j => by
        induction j with
        | zero => exact Nat.le_refl _
        | succ j ih => simp only [cnt]; split <;> omega
      exact this i
    refine Ev.step (fun k => impl_Case_planFrom.l0.eq_2 ..) ?_
    refine Ev.pos (by omega) (Ev.pos (by omega) (Ev.pos (by omega) ?_))
    rw [rd_nat need i, rd_nat (per O need.length) (cnt O i), per_len]
    have hx := hn _ (getD_mem need hi)
    have hds := dsum_bound need 1000000 hn i (by omega)
    by_cases ho : O i = true
    ·
      have hlt : cnt O i < cnt O need.length := by have := cnt_mono O (show i + 1 ≤ need.length from hi); simp only [cnt, ho, if_true] at this; omega
      have hcs : cnt O (i + 1) = cnt O i + 1 := by simp [cnt, ho]
      refine Ev.pos (by omega) (Ev.pos (by omega) (Ev.step (fun k => impl_Case_planFrom.j1.eq_2 ..) ?_))
      rw [per_get O hi ho]
      refine Ev.pos (by simp) (Ev.step (fun k => impl_Case_planFrom.j2.eq_2 ..) ?_)
      rw [wrS (by omega)]
      refine Ev.neg (by omega) ?_
      rw [wrP (by omega), rd_nat, per_get O hi ho, per_len, planTo_len]
      refine Ev.pos (by omega) (Ev.pos (by omega) (Ev.pos (by omega) (Ev.pos (by omega) ?_)))
      rw [rd_nat, planTo_get need O i hi, if_neg (by omega), Int.toNat_natCast, wr (by omega) (by omega), wrS (by omega), planTo_at need O hi ho, ← hcs]
      refine planFrom_l0 need O hl hn d (i + 1) (by omega) (by omega) (fun _ => ?_)
      by_cases hz : 0 < cnt O i
      · exact h2 hz
      · unfold cover
        have h3 : nxt O need.length 0 = i := by
          have h4 := nxt_min O (n := need.length) (Nat.zero_le i) ho
          rcases Nat.eq_or_lt_of_le h4 with e | e
          · exact e
          · have h5 := nxt_in O (n := need.length) (t := 0) (by omega)
            have := cnt_mono O (show nxt O need.length 0 + 1 ≤ i by omega)
            simp only [cnt, h5, if_true] at this; omega
        rw [h3]; exact h1 (by omega)
    · have ho : O i = false := by simpa using ho
      have hcs : cnt O (i + 1) = cnt O i := by simp [cnt, ho]
      have hj2 : Ev (fun k => impl_Case_planFrom.j2 k (per O need.length) (planTo need O i) (cnt O i : Int) (need.getD i 0) need (need.length : Int) (i : Int)) (if cover need O then (planOf need O, true) else ([], false)) := by
        refine Ev.step (fun k => impl_Case_planFrom.j2.eq_2 ..) ?_
        by_cases hz : cnt O i = 0
        · refine Ev.pos (by omega) ?_
          have hz0 := h1 hz
          by_cases hp : need.getD i 0 > 0
          · refine Ev.pos hp ((Ev.now _).to ?_)
            rw [if_neg]
            intro hc
            unfold cover at hc
            have h3 : i + 1 ≤ nxt O need.length 0 := by
              apply Classical.byContradiction; intro hcc
              have h5 := nxt_in O (n := need.length) (t := 0) (by omega)
              have := cnt_mono O (show nxt O need.length 0 + 1 ≤ i + 1 by omega)
              simp only [cnt, h5, if_true] at this; simp only [cnt] at hcs; omega
            have h4 := dsum_mono need (fun x hx => (hn x hx).1) _ _ h3 (nxt_le O (by omega))
            rw [dsum_succ need hi] at h4; omega
          · refine Ev.neg hp ?_
            rw [wrS (by omega), planTo_none need O (i := i) (by omega), ← hcs]
            exact planFrom_l0 need O hl hn d (i + 1) (by omega) (fun _ => by rw [dsum_succ need hi]; omega) (fun hh => by omega)
        · refine Ev.neg (by omega) ?_
          obtain ⟨t0, g1, g2, g3, g4⟩ := last_order O i (by omega)
          have e : wrap64 ((cnt O i : Int) - 1) = (cnt O t0 : Int) := by rw [wr (by omega) (by omega)]; omega
          rw [e, rd_nat, per_get O (by omega) g2, per_len, planTo_len]
          have hlt : cnt O t0 < cnt O need.length := by have := cnt_mono O (show t0 + 1 ≤ need.length by omega); simp only [cnt, g2, if_true] at this; omega
          refine Ev.pos (by omega) (Ev.pos (by omega) (Ev.pos (by omega) (Ev.pos (by omega) ?_)))
          have hpt : 0 ≤ (planTo need O i).getD t0 0 ∧ (planTo need O i).getD t0 0 ≤ 1000000000 := by
            rw [planTo_get need O i (by omega), if_pos ⟨g2, g1⟩]
            have a1 := nxt_ge O need.length (t0 + 1)
            have a2 := dsum_mono need (fun x hx => (hn x hx).1) t0 (min (nxt O need.length (t0 + 1)) i) (by omega) (by omega)
            have a3 := dsum_bound need 1000000 hn (min (nxt O need.length (t0 + 1)) i) (by omega)
            have a4 := dsum_bound need 1000000 hn t0 (by omega)
            omega
          rw [rd_nat, Int.toNat_natCast, wr (by omega) (by omega), wrS (by omega), planTo_more need O hi ho g1 g2 g3, ← hcs]
          exact planFrom_l0 need O hl hn d (i + 1) (by omega) (fun hh => by omega) (fun _ => h2 (by omega))
      have hj1 : Ev (fun k => impl_Case_planFrom.j1 k (per O need.length) (planTo need O i) (cnt O i : Int) (need.getD i 0) need (need.length : Int) (i : Int) false) (if cover need O then (planOf need O, true) else ([], false)) := by
        refine Ev.step (fun k => impl_Case_planFrom.j1.eq_2 ..) ?_
        exact Ev.neg (by simp) hj2
      by_cases hlt : cnt O i < cnt O need.length
      · refine Ev.pos (by omega) (Ev.pos (by omega) ?_)
        rw [show ((per O need.length).getD (cnt O i) 0 == (i : Int)) = false from beq_eq_false_iff_ne.2 (per_get_not O hi ho hlt)]
        exact hj1
      · exact Ev.neg (by omega) hj1
theorem planFrom_ev (need a b c : List Int) (O : Nat → Bool) (hl : need.length ≤ 1000) (hn : ∀ x ∈ need, 0 ≤ x ∧ x ≤ 1000000) :
    Ev (fun k => impl_Case_planFrom.f k need a b c (per O need.length)) (if cover need O then (planOf need O, true) else ([], false)) := by
  unfold impl_Case_planFrom.f
  refine Ev.pos (by omega) (Ev.pos (by omega) ?_)
  have e : List.replicate ((need.length : Int)).toNat (0 : Int) = planTo need O 0 := by
    refine ext_getD (by rw [planTo_len]; simp) fun t ht => ?_
    simp at ht
    rw [planTo_get need O 0 ht, if_neg (by omega)]; simp [List.getD_eq_getElem?_getD, List.getElem?_replicate]; rw [if_pos ht]; rfl
  rw [e]
  exact planFrom_l0 need O hl hn need.length 0 (by omega) (fun _ => rfl) (fun h => by simp [cnt] at h)
end Go.Proofs.Ythlmmcmpllgflaa.P
namespace Go.Proofs.Ythlmmcmpllgflaa.P
open Go.RowKit Go.Proofs.YthlmmcmpllgflaaW.PrintWords Go.Proofs.YthlmmcmpllgflaaW.PrintLast Go.Proofs.YthlmmcmpllgflaaW.PrintMore
attribute [local go_sem] max2_int min2_int max_two min_two max_three min_three max_four min_four
set_option linter.unusedVariables false
set_option linter.unusedSimpArgs false
def impl_IsChain.f (k : Nat) (l0_0 : List Int) (l0_1 : List Int) (l0_2 : List Int) : Option (Bool) := if (l0_0.length : Int) ≤ 6 then ((impl_allWithin.f k l0_0 0 20).bind fun t294 => (if t294 = true then ((impl_within.f (l0_1.length : Int) 1 3).bind fun t295 => (if t295 = true then (if (l0_2.length : Int) = (l0_1.length : Int) then ((impl_allWithin.f k l0_1 0 99).bind fun t296 => (if t296 = true then ((impl_allWithin.f k l0_2 0 9).bind fun t297 => (if t297 = true then ((slices_IsSorted_int_int.f k l0_2).bind fun t298 => (some t298)) else (some false))) else (some false))) else (some false)) else (some false))) else (some false))) else (some false)
set_option maxHeartbeats 8000000 in
set_option maxRecDepth 100000 in
theorem impl_IsChain.calls (k : Nat) (A0_0 : Option Addr) (c0_0 : Nat) (l0_0 : List Int) (A0_1 : Option Addr) (c0_1 : Nat) (l0_1 : List Int) (A0_2 : Option Addr) (c0_2 : Nat) (l0_2 : List Int) (r : Bool) (w : World) (hr0_0 : Kd.C (Kd.int .i64) w A0_0 l0_0.length l0_0) (hc0_0 : l0_0.length ≤ c0_0) (hr0_1 : Kd.C (Kd.int .i64) w A0_1 l0_1.length l0_1) (hc0_1 : l0_1.length ≤ c0_1) (hr0_2 : Kd.C (Kd.int .i64) w A0_2 l0_2.length l0_2) (hc0_2 : l0_2.length ≤ c0_2) (h : impl_IsChain.f k l0_0 l0_1 l0_2 = some r) :
 Calls Try.prog 50 #[.agg #[.slice A0_0 l0_0.length c0_0, .slice A0_1 l0_1.length c0_1, .slice A0_2 l0_2.length c0_2]] w fun e w' => e = .returned (.bool r) ∧ Below w.heap.size w w' := by
 have hu26 := Try.underlying26
 have HR0_0 := Aside0.mk hr0_0
 have HC0_0 := Aside0.mk hc0_0
 clear hr0_0 hc0_0
 have HR0_1 := Aside0.mk hr0_1
 have HC0_1 := Aside0.mk hc0_1
 clear hr0_1 hc0_1
 have HR0_2 := Aside0.mk hr0_2
 have HC0_2 := Aside0.mk hc0_2
 clear hr0_2 hc0_2
 have HB := Aside0.mk (Below.refl w.heap.size w)
 have H : (if (l0_0.length : Int) ≤ 6 then ((impl_allWithin.f k l0_0 0 20).bind fun t294 => (if t294 = true then ((impl_within.f (l0_1.length : Int) 1 3).bind fun t295 => (if t295 = true then (if (l0_2.length : Int) = (l0_1.length : Int) then ((impl_allWithin.f k l0_1 0 99).bind fun t296 => (if t296 = true then ((impl_allWithin.f k l0_2 0 9).bind fun t297 => (if t297 = true then ((slices_IsSorted_int_int.f k l0_2).bind fun t298 => (some t298)) else (some false))) else (some false))) else (some false)) else (some false))) else (some false))) else (some false)) = some r := h
 clear h
 by_cases c2 : (l0_0.length : Int) ≤ 6
 · rw [if_pos c2] at H
   have c2b0 : decide ((l0_0.length : Int) ≤ 6) = true := decide_eq_true c2
   have c2b1 : decide (l0_0.length ≤ 6) = true := decide_eq_true (by omega)
   clear c2
   replace H := Option.bind_eq_some_iff.mp H
   obtain ⟨t294, A30, H⟩ := H
   replace H : (if t294 = true then ((impl_within.f (l0_1.length : Int) 1 3).bind fun t295 => (if t295 = true then (if (l0_2.length : Int) = (l0_1.length : Int) then ((impl_allWithin.f k l0_1 0 99).bind fun t296 => (if t296 = true then ((impl_allWithin.f k l0_2 0 9).bind fun t297 => (if t297 = true then ((slices_IsSorted_int_int.f k l0_2).bind fun t298 => (some t298)) else (some false))) else (some false))) else (some false)) else (some false))) else (some false)) = some r := H
   have A3 := Aside0.mk A30
   clear A30
   by_cases c4 : t294 = true
   · subst c4
     have H1 : ((impl_within.f (l0_1.length : Int) 1 3).bind fun t295 => (if t295 = true then (if (l0_2.length : Int) = (l0_1.length : Int) then ((impl_allWithin.f k l0_1 0 99).bind fun t296 => (if t296 = true then ((impl_allWithin.f k l0_2 0 9).bind fun t297 => (if t297 = true then ((slices_IsSorted_int_int.f k l0_2).bind fun t298 => (some t298)) else (some false))) else (some false))) else (some false)) else (some false))) = some r := by rw [if_pos rfl] at H; exact H
     clear H
     have H := H1
     clear H1
     replace H := Option.bind_eq_some_iff.mp H
     obtain ⟨t295, A50, H⟩ := H
     replace H : (if t295 = true then (if (l0_2.length : Int) = (l0_1.length : Int) then ((impl_allWithin.f k l0_1 0 99).bind fun t296 => (if t296 = true then ((impl_allWithin.f k l0_2 0 9).bind fun t297 => (if t297 = true then ((slices_IsSorted_int_int.f k l0_2).bind fun t298 => (some t298)) else (some false))) else (some false))) else (some false)) else (some false)) = some r := H
     have A5 := Aside0.mk A50
     clear A50
     by_cases c6 : t295 = true
     · subst c6
       have H1 : (if (l0_2.length : Int) = (l0_1.length : Int) then ((impl_allWithin.f k l0_1 0 99).bind fun t296 => (if t296 = true then ((impl_allWithin.f k l0_2 0 9).bind fun t297 => (if t297 = true then ((slices_IsSorted_int_int.f k l0_2).bind fun t298 => (some t298)) else (some false))) else (some false))) else (some false)) = some r := by rw [if_pos rfl] at H; exact H
       clear H
       have H := H1
       clear H1
       by_cases c7 : (l0_2.length : Int) = (l0_1.length : Int)
       · rw [if_pos c7] at H
         have c7b0 : ((l0_2.length : Int) == (l0_1.length : Int)) = true := beq_iff_eq.mpr c7
         have c7b1 : ((l0_2.length : Int) != (l0_1.length : Int)) = false := bne_eq_false_iff_eq.mpr c7
         have c7b2 : (l0_2.length == l0_1.length) = true := by first | simpa using c7 | (simp at c7 ⊢; omega)
         clear c7
         replace H := Option.bind_eq_some_iff.mp H
         obtain ⟨t296, A80, H⟩ := H
         replace H : (if t296 = true then ((impl_allWithin.f k l0_2 0 9).bind fun t297 => (if t297 = true then ((slices_IsSorted_int_int.f k l0_2).bind fun t298 => (some t298)) else (some false))) else (some false)) = some r := H
         have A8 := Aside0.mk A80
         clear A80
         by_cases c9 : t296 = true
         · subst c9
           have H1 : ((impl_allWithin.f k l0_2 0 9).bind fun t297 => (if t297 = true then ((slices_IsSorted_int_int.f k l0_2).bind fun t298 => (some t298)) else (some false))) = some r := by rw [if_pos rfl] at H; exact H
           clear H
           have H := H1
           clear H1
           replace H := Option.bind_eq_some_iff.mp H
           obtain ⟨t297, A100, H⟩ := H
           replace H : (if t297 = true then ((slices_IsSorted_int_int.f k l0_2).bind fun t298 => (some t298)) else (some false)) = some r := H
           have A10 := Aside0.mk A100
           clear A100
           by_cases c11 : t297 = true
           · subst c11
             have H1 : ((slices_IsSorted_int_int.f k l0_2).bind fun t298 => (some t298)) = some r := by rw [if_pos rfl] at H; exact H
             clear H
             have H := H1
             clear H1
             replace H := Option.bind_eq_some_iff.mp H
             obtain ⟨t298, A120, H⟩ := H
             replace H : (some t298) = some r := H
             have A12 := Aside0.mk A120
             clear A120
             obtain rfl := Option.some.inj H
             go_enter Try.func50, Try.ntmps50
             go_wp2_with (first | ((with_reducible refine gate_dst (N := 1) rfl ?_); (try (refine gate_guard (by rfl) ?_; dsimp only)); refine box_event ?hg (N := 1) ?hd (cs := #[.slice A0_0 l0_0.length c0_0, .slice A0_1 l0_1.length c0_1, .slice A0_2 l0_2.length c0_2]) (t := 26) ?hr ?_; (case hd => rfl); (case hg => rfl); (case hr => first | (go_simp; done) | (go_simp; rfl)); intro gb293 hg w13 hbox hb; have BK293 := Aside0.mk (hbox); have GW293 := Aside0.mk ((z6 : w.heap.size ≤ gb293)); have GE293 := Aside0.mk ((z6 : w.heap.size ≤ gb293)); replace HB := zs0 hb; clear hb hbox hg; obtain ⟨hcz14_0, hcz14_1, hcz14_2, hfz14_0, hfz14_1, hfz14_2⟩ := zc3 BK293.out) | (go_at_call 69; (with_reducible refine (impl_allWithin.calls k _ _ l0_0 0 20 true _ ?side1 ?side2 A3.out).mono ?_); (case side1 => exact zC (Kd.C_below HR0_0.out HB.out)); (case side2 => exact HC0_0.out); rintro e w' ⟨rfl, ⟨nd, rfl⟩⟩) | (go_at_call 85; (with_reducible refine (impl_within.calls (l0_1.length : Int) 1 3 true _ A5.out).mono ?_); rintro e w' ⟨rfl, ⟨nd, rfl⟩⟩) | (go_at_call 69; (with_reducible refine (impl_allWithin.calls k _ _ l0_1 0 99 true _ ?side1 ?side2 A8.out).mono ?_); (case side1 => repeat (first | exact (Kd.C_below HR0_1.out (zH1 GE293.out)) | (with_reducible refine Kd.C_alloc ?_ _) | (with_reducible refine Kd.C_drewN ?_ _) | (with_reducible refine Kd.C_drew ?_))); (case side2 => exact HC0_1.out); rintro e w' ⟨rfl, ⟨nd, rfl⟩⟩) | (go_at_call 69; (with_reducible refine (impl_allWithin.calls k _ _ l0_2 0 9 true _ ?side1 ?side2 A10.out).mono ?_); (case side1 => repeat (first | exact (Kd.C_below HR0_2.out (zH1 GE293.out)) | (with_reducible refine Kd.C_alloc ?_ _) | (with_reducible refine Kd.C_drewN ?_ _) | (with_reducible refine Kd.C_drew ?_))); (case side2 => exact HC0_2.out); rintro e w' ⟨rfl, ⟨nd, rfl⟩⟩) | (go_at_call 105; (with_reducible refine (slices_IsSorted_int_int.calls k _ _ l0_2 t298 _ ?side1 ?side2 A12.out).mono ?_); (case side1 => repeat (first | exact (Kd.C_below HR0_2.out (zH1 GE293.out)) | (with_reducible refine Kd.C_alloc ?_ _) | (with_reducible refine Kd.C_drewN ?_ _) | (with_reducible refine Kd.C_drew ?_))); (case side2 => exact HC0_2.out); rintro e w' ⟨rfl, ⟨nd, rfl⟩⟩))
             go_ret
             exact ⟨z5, (zH1 GE293.out)⟩
           · replace c11 := Bool.eq_false_iff.mpr c11
             subst c11
             have H1 : (some false) = some r := by rw [if_neg (show ¬ (false = true) by decide)] at H; exact H
             clear H
             have H := H1
             clear H1
             obtain rfl := Option.some.inj H
             go_enter Try.func50, Try.ntmps50
             go_wp2_with (first | ((with_reducible refine gate_dst (N := 1) rfl ?_); (try (refine gate_guard (by rfl) ?_; dsimp only)); refine box_event ?hg (N := 1) ?hd (cs := #[.slice A0_0 l0_0.length c0_0, .slice A0_1 l0_1.length c0_1, .slice A0_2 l0_2.length c0_2]) (t := 26) ?hr ?_; (case hd => rfl); (case hg => rfl); (case hr => first | (go_simp; done) | (go_simp; rfl)); intro gb293 hg w15 hbox hb; have BK293 := Aside0.mk (hbox); have GW293 := Aside0.mk ((z6 : w.heap.size ≤ gb293)); have GE293 := Aside0.mk ((z6 : w.heap.size ≤ gb293)); replace HB := zs0 hb; clear hb hbox hg; obtain ⟨hcz16_0, hcz16_1, hcz16_2, hfz16_0, hfz16_1, hfz16_2⟩ := zc3 BK293.out) | (go_at_call 69; (with_reducible refine (impl_allWithin.calls k _ _ l0_0 0 20 true _ ?side1 ?side2 A3.out).mono ?_); (case side1 => exact zC (Kd.C_below HR0_0.out HB.out)); (case side2 => exact HC0_0.out); rintro e w' ⟨rfl, ⟨nd, rfl⟩⟩) | (go_at_call 85; (with_reducible refine (impl_within.calls (l0_1.length : Int) 1 3 true _ A5.out).mono ?_); rintro e w' ⟨rfl, ⟨nd, rfl⟩⟩) | (go_at_call 69; (with_reducible refine (impl_allWithin.calls k _ _ l0_1 0 99 true _ ?side1 ?side2 A8.out).mono ?_); (case side1 => repeat (first | exact (Kd.C_below HR0_1.out (zH1 GE293.out)) | (with_reducible refine Kd.C_alloc ?_ _) | (with_reducible refine Kd.C_drewN ?_ _) | (with_reducible refine Kd.C_drew ?_))); (case side2 => exact HC0_1.out); rintro e w' ⟨rfl, ⟨nd, rfl⟩⟩) | (go_at_call 69; (with_reducible refine (impl_allWithin.calls k _ _ l0_2 0 9 false _ ?side1 ?side2 A10.out).mono ?_); (case side1 => repeat (first | exact (Kd.C_below HR0_2.out (zH1 GE293.out)) | (with_reducible refine Kd.C_alloc ?_ _) | (with_reducible refine Kd.C_drewN ?_ _) | (with_reducible refine Kd.C_drew ?_))); (case side2 => exact HC0_2.out); rintro e w' ⟨rfl, ⟨nd, rfl⟩⟩))
             go_ret
             exact ⟨z5, (zH1 GE293.out)⟩
         · replace c9 := Bool.eq_false_iff.mpr c9
           subst c9
           have H1 : (some false) = some r := by rw [if_neg (show ¬ (false = true) by decide)] at H; exact H
           clear H
           have H := H1
           clear H1
           obtain rfl := Option.some.inj H
           go_enter Try.func50, Try.ntmps50
           go_wp2_with (first | ((with_reducible refine gate_dst (N := 1) rfl ?_); (try (refine gate_guard (by rfl) ?_; dsimp only)); refine box_event ?hg (N := 1) ?hd (cs := #[.slice A0_0 l0_0.length c0_0, .slice A0_1 l0_1.length c0_1, .slice A0_2 l0_2.length c0_2]) (t := 26) ?hr ?_; (case hd => rfl); (case hg => rfl); (case hr => first | (go_simp; done) | (go_simp; rfl)); intro gb293 hg w17 hbox hb; have BK293 := Aside0.mk (hbox); have GW293 := Aside0.mk ((z6 : w.heap.size ≤ gb293)); have GE293 := Aside0.mk ((z6 : w.heap.size ≤ gb293)); replace HB := zs0 hb; clear hb hbox hg; obtain ⟨hcz18_0, hcz18_1, hcz18_2, hfz18_0, hfz18_1, hfz18_2⟩ := zc3 BK293.out) | (go_at_call 69; (with_reducible refine (impl_allWithin.calls k _ _ l0_0 0 20 true _ ?side1 ?side2 A3.out).mono ?_); (case side1 => exact zC (Kd.C_below HR0_0.out HB.out)); (case side2 => exact HC0_0.out); rintro e w' ⟨rfl, ⟨nd, rfl⟩⟩) | (go_at_call 85; (with_reducible refine (impl_within.calls (l0_1.length : Int) 1 3 true _ A5.out).mono ?_); rintro e w' ⟨rfl, ⟨nd, rfl⟩⟩) | (go_at_call 69; (with_reducible refine (impl_allWithin.calls k _ _ l0_1 0 99 false _ ?side1 ?side2 A8.out).mono ?_); (case side1 => repeat (first | exact (Kd.C_below HR0_1.out (zH1 GE293.out)) | (with_reducible refine Kd.C_alloc ?_ _) | (with_reducible refine Kd.C_drewN ?_ _) | (with_reducible refine Kd.C_drew ?_))); (case side2 => exact HC0_1.out); rintro e w' ⟨rfl, ⟨nd, rfl⟩⟩))
           go_ret
           exact ⟨z5, (zH1 GE293.out)⟩
       · rw [if_neg c7] at H
         have c7b0 : ((l0_2.length : Int) == (l0_1.length : Int)) = false := beq_eq_false_iff_ne.mpr c7
         have c7b1 : ((l0_2.length : Int) != (l0_1.length : Int)) = true := bne_iff_ne.mpr c7
         have c7b2 : (l0_2.length == l0_1.length) = false := by first | simpa using c7 | (simp at c7 ⊢; omega)
         obtain rfl := Option.some.inj H
         go_enter Try.func50, Try.ntmps50
         go_wp2_with (first | ((with_reducible refine gate_dst (N := 1) rfl ?_); (try (refine gate_guard (by rfl) ?_; dsimp only)); refine box_event ?hg (N := 1) ?hd (cs := #[.slice A0_0 l0_0.length c0_0, .slice A0_1 l0_1.length c0_1, .slice A0_2 l0_2.length c0_2]) (t := 26) ?hr ?_; (case hd => rfl); (case hg => rfl); (case hr => first | (go_simp; done) | (go_simp; rfl)); intro gb293 hg w19 hbox hb; have BK293 := Aside0.mk (hbox); have GW293 := Aside0.mk ((z6 : w.heap.size ≤ gb293)); have GE293 := Aside0.mk ((z6 : w.heap.size ≤ gb293)); replace HB := zs0 hb; clear hb hbox hg; obtain ⟨hcz20_0, hcz20_1, hcz20_2, hfz20_0, hfz20_1, hfz20_2⟩ := zc3 BK293.out) | (go_at_call 69; (with_reducible refine (impl_allWithin.calls k _ _ l0_0 0 20 true _ ?side1 ?side2 A3.out).mono ?_); (case side1 => exact zC (Kd.C_below HR0_0.out HB.out)); (case side2 => exact HC0_0.out); rintro e w' ⟨rfl, ⟨nd, rfl⟩⟩) | (go_at_call 85; (with_reducible refine (impl_within.calls (l0_1.length : Int) 1 3 true _ A5.out).mono ?_); rintro e w' ⟨rfl, ⟨nd, rfl⟩⟩))
         go_ret
         exact ⟨z5, (zH1 GE293.out)⟩
     · replace c6 := Bool.eq_false_iff.mpr c6
       subst c6
       have H1 : (some false) = some r := by rw [if_neg (show ¬ (false = true) by decide)] at H; exact H
       clear H
       have H := H1
       clear H1
       obtain rfl := Option.some.inj H
       go_enter Try.func50, Try.ntmps50
       go_wp2_with (first | ((with_reducible refine gate_dst (N := 1) rfl ?_); (try (refine gate_guard (by rfl) ?_; dsimp only)); refine box_event ?hg (N := 1) ?hd (cs := #[.slice A0_0 l0_0.length c0_0, .slice A0_1 l0_1.length c0_1, .slice A0_2 l0_2.length c0_2]) (t := 26) ?hr ?_; (case hd => rfl); (case hg => rfl); (case hr => first | (go_simp; done) | (go_simp; rfl)); intro gb293 hg w21 hbox hb; have BK293 := Aside0.mk (hbox); have GW293 := Aside0.mk ((z6 : w.heap.size ≤ gb293)); have GE293 := Aside0.mk ((z6 : w.heap.size ≤ gb293)); replace HB := zs0 hb; clear hb hbox hg; obtain ⟨hcz22_0, hcz22_1, hcz22_2, hfz22_0, hfz22_1, hfz22_2⟩ := zc3 BK293.out) | (go_at_call 69; (with_reducible refine (impl_allWithin.calls k _ _ l0_0 0 20 true _ ?side1 ?side2 A3.out).mono ?_); (case side1 => exact zC (Kd.C_below HR0_0.out HB.out)); (case side2 => exact HC0_0.out); rintro e w' ⟨rfl, ⟨nd, rfl⟩⟩) | (go_at_call 85; (with_reducible refine (impl_within.calls (l0_1.length : Int) 1 3 false _ A5.out).mono ?_); rintro e w' ⟨rfl, ⟨nd, rfl⟩⟩))
       go_ret
       exact ⟨z5, (zH1 GE293.out)⟩
   · replace c4 := Bool.eq_false_iff.mpr c4
     subst c4
     have H1 : (some false) = some r := by rw [if_neg (show ¬ (false = true) by decide)] at H; exact H
     clear H
     have H := H1
     clear H1
     obtain rfl := Option.some.inj H
     go_enter Try.func50, Try.ntmps50
     go_wp2_with (first | ((with_reducible refine gate_dst (N := 1) rfl ?_); (try (refine gate_guard (by rfl) ?_; dsimp only)); refine box_event ?hg (N := 1) ?hd (cs := #[.slice A0_0 l0_0.length c0_0, .slice A0_1 l0_1.length c0_1, .slice A0_2 l0_2.length c0_2]) (t := 26) ?hr ?_; (case hd => rfl); (case hg => rfl); (case hr => first | (go_simp; done) | (go_simp; rfl)); intro gb293 hg w23 hbox hb; have BK293 := Aside0.mk (hbox); have GW293 := Aside0.mk ((z6 : w.heap.size ≤ gb293)); have GE293 := Aside0.mk ((z6 : w.heap.size ≤ gb293)); replace HB := zs0 hb; clear hb hbox hg; obtain ⟨hcz24_0, hcz24_1, hcz24_2, hfz24_0, hfz24_1, hfz24_2⟩ := zc3 BK293.out) | (go_at_call 69; (with_reducible refine (impl_allWithin.calls k _ _ l0_0 0 20 false _ ?side1 ?side2 A3.out).mono ?_); (case side1 => exact zC (Kd.C_below HR0_0.out HB.out)); (case side2 => exact HC0_0.out); rintro e w' ⟨rfl, ⟨nd, rfl⟩⟩))
     go_ret
     exact ⟨z5, (zH1 GE293.out)⟩
 · rw [if_neg c2] at H
   have c2b0 : decide ((l0_0.length : Int) ≤ 6) = false := decide_eq_false c2
   have c2b1 : decide (l0_0.length ≤ 6) = false := decide_eq_false (by omega)
   clear c2
   obtain rfl := Option.some.inj H
   go_enter Try.func50, Try.ntmps50
   go_wp2_with (first | ((with_reducible refine gate_dst (N := 1) rfl ?_); (try (refine gate_guard (by rfl) ?_; dsimp only)); refine box_event ?hg (N := 1) ?hd (cs := #[.slice A0_0 l0_0.length c0_0, .slice A0_1 l0_1.length c0_1, .slice A0_2 l0_2.length c0_2]) (t := 26) ?hr ?_; (case hd => rfl); (case hg => rfl); (case hr => first | (go_simp; done) | (go_simp; rfl)); intro gb293 hg w25 hbox hb; have BK293 := Aside0.mk (hbox); have GW293 := Aside0.mk ((z6 : w.heap.size ≤ gb293)); have GE293 := Aside0.mk ((z6 : w.heap.size ≤ gb293)); replace HB := zs0 hb; clear hb hbox hg; obtain ⟨hcz26_0, hcz26_1, hcz26_2, hfz26_0, hfz26_1, hfz26_2⟩ := zc3 BK293.out))
   go_ret
   exact ⟨z5, (zH1 GE293.out)⟩
end Go.Proofs.Ythlmmcmpllgflaa.P
