/- The law FnExactStagewisePlan: for every chain the program and the reference make the same plan stage by stage, which leaves its arguments as they are and shares no memory; no condition. -/
import Derived.Test.YthlmmcmpllgflaaR2g
import Derived.Test.YthlmmcmpllgflaaRows
import Derived.WalkKit
import Derived.ProofKit
import Derived.OpenShut
import Derived.ShutString
import Derived.ChangeOld
import Derived.Below
import Derived.SizedLaws
import Derived.Lib.SmallJoins
namespace Go.Proofs.Ythlmmcmpllgflaa.P
open Go.RowKit Go.Proofs.YthlmmcmpllgflaaW.PrintWords Go.Proofs.YthlmmcmpllgflaaW.PrintLast Go.Proofs.YthlmmcmpllgflaaW.PrintMore
attribute [local go_sem] max2_int min2_int max_two min_two max_three min_three max_four min_four
set_option linter.unusedVariables false
set_option linter.unusedSimpArgs false
set_option maxHeartbeats 8000000 in
set_option maxRecDepth 100000 in
theorem laws_FnExactStagewisePlan.early (A0_0 : Option Addr) (c0_0 : Nat) (l0_0 : List Int) (A0_1 : Option Addr) (c0_1 : Nat) (l0_1 : List Int) (A0_2 : Option Addr) (c0_2 : Nat) (l0_2 : List Int) (sz : Int) (w : World) (hr0_0 : Kd.C (Kd.int .i64) w A0_0 l0_0.length l0_0) (hc0_0 : l0_0.length ≤ c0_0) (hr0_1 : Kd.C (Kd.int .i64) w A0_1 l0_1.length l0_1) (hc0_1 : l0_1.length ≤ c0_1) (hr0_2 : Kd.C (Kd.int .i64) w A0_2 l0_2.length l0_2) (hc0_2 : l0_2.length ≤ c0_2) (hsz : laws_szChain.f l0_0 l0_1 l0_2 1048576 = some sz) (hsc : sz < 0) :
    Calls Try.prog 5 #[.agg #[.slice A0_0 l0_0.length c0_0, .slice A0_1 l0_1.length c0_1, .slice A0_2 l0_2.length c0_2]] w fun e w' => e = .returned (.bool true) ∧ Below w.heap.size w w' := by
  have hu39 := Try.underlying39
  have HR0_0 := Aside0.mk hr0_0
  have HC0_0 := Aside0.mk hc0_0
  clear hr0_0 hc0_0
  have HR0_1 := Aside0.mk hr0_1
  have HC0_1 := Aside0.mk hc0_1
  clear hr0_1 hc0_1
  have HR0_2 := Aside0.mk hr0_2
  have HC0_2 := Aside0.mk hc0_2
  clear hr0_2 hc0_2
  have HB := Aside0.mk (Below.refl w.heap.size w)
  have hscb : decide (sz < 0) = true := decide_eq_true hsc
  clear hsc
  have ASZ := Aside0.mk hsz
  clear hsz
  go_enter Try.func5, Try.ntmps5
  go_wp2_with (first | ((with_reducible refine gate_dst (N := 1) rfl ?_); refine box_event ?hg (N := 1) ?hd (cs := #[.slice A0_0 l0_0.length c0_0, .slice A0_1 l0_1.length c0_1, .slice A0_2 l0_2.length c0_2]) (t := 39) ?hr ?_; (case hd => rfl); (case hg => rfl); (case hr => first | (go_simp; done) | (go_simp; rfl)); intro gb1532 hg wp12 hbox hb; have n0_ := Aside0.mk (below_step zH0 hb); have n1_ := Aside0.mk (hbox); have n2_ := Aside0.mk ((z6 : w.heap.size ≤ gb1532)); have n3_ := Aside0.mk ((z6 : w.heap.size ≤ gb1532)); clear HB; have HB := n0_; have BK1532 := n1_; have GW1532 := n2_; have GE1532 := n3_; clear n0_ n1_ n2_ n3_; clear hb hbox hg; have hcz13_0 : wp12.cell? ⟨gb1532, 0, none⟩ = some (.slice A0_0 l0_0.length c0_0) := (blk_cell BK1532.out 0).trans rfl; have hcz13_1 : wp12.cell? ⟨gb1532, 1, none⟩ = some (.slice A0_1 l0_1.length c0_1) := (blk_cell BK1532.out 1).trans rfl; have hcz13_2 : wp12.cell? ⟨gb1532, 2, none⟩ = some (.slice A0_2 l0_2.length c0_2) := (blk_cell BK1532.out 2).trans rfl; have hfz13_0 := blk_frozen BK1532.out 0; have hfz13_1 := blk_frozen BK1532.out 1; have hfz13_2 := blk_frozen BK1532.out 2) | ((with_reducible refine gate_callee (f := 22) rfl ?_); refine goesL_ (some 16) rfl rfl Try.func22 (by kernel_rfl) rfl #[.agg #[.slice A0_0 l0_0.length c0_0, .slice A0_1 l0_1.length c0_1, .slice A0_2 l0_2.length c0_2], .int .i64 1048576] rfl z1 ?_; (with_reducible refine (laws_szChain.calls _ _ l0_0 _ _ l0_1 _ _ l0_2 1048576 sz _ ?side1 ?side2 ?side3 ?side4 ?side5 ?side6 ASZ.out).mono ?_); (case side1 => exact zC (Kd.C_below HR0_0.out HB.out)); (case side2 => exact HC0_0.out); (case side3 => exact zC (Kd.C_below HR0_1.out HB.out)); (case side4 => exact HC0_1.out); (case side5 => exact zC (Kd.C_below HR0_2.out HB.out)); (case side6 => exact HC0_2.out); rintro e wp14 ⟨rfl, hb⟩; refine ⟨_, rfl, ?_⟩; have n0_ := Aside0.mk (blk_below (g := gb1532) (o := .cells #[.slice A0_0 l0_0.length c0_0, .slice A0_1 l0_1.length c0_1, .slice A0_2 l0_2.length c0_2] 39 (0, 0)) (zB BK1532.out) hb); have n1_ := Aside0.mk (below_step (zH1 GE1532.out) hb); clear BK1532; clear HB; have BK1532 := n0_; have HB := n1_; clear n0_ n1_; (try clear hb); (try clear hb2); (try clear hk); (try clear hi); have hcz15_0 : wp14.cell? ⟨gb1532, 0, none⟩ = some (.slice A0_0 l0_0.length c0_0) := (blk_cell BK1532.out 0).trans rfl; have hcz15_1 : wp14.cell? ⟨gb1532, 1, none⟩ = some (.slice A0_1 l0_1.length c0_1) := (blk_cell BK1532.out 1).trans rfl; have hcz15_2 : wp14.cell? ⟨gb1532, 2, none⟩ = some (.slice A0_2 l0_2.length c0_2) := (blk_cell BK1532.out 2).trans rfl; have hfz15_0 := blk_frozen BK1532.out 0; have hfz15_1 := blk_frozen BK1532.out 1; have hfz15_2 := blk_frozen BK1532.out 2))
  go_ret
  exact ⟨by first | rfl | (simp; done) | (simp [*]; done), zH0⟩
set_option maxHeartbeats 8000000 in
set_option maxRecDepth 100000 in
theorem laws_FnExactStagewisePlan.good (k : Nat) (A0_0 : Option Addr) (c0_0 : Nat) (l0_0 : List Int) (A0_1 : Option Addr) (c0_1 : Nat) (l0_1 : List Int) (A0_2 : Option Addr) (c0_2 : Nat) (l0_2 : List Int) (sz : Int) (t1558 t1563 t1564 t1579 : Int) (t1533 t1536 t1539 t1548 t1551 t1554 t1559 t1560 t1561 t1565 t1568 t1571 p1 p2 p3 : List Int) (t1543 t1574 l1 tM : List (List Int)) (t1546 t1577 a2 : Bool) (w : World) (hr0_0 : Kd.C (Kd.int .i64) w A0_0 l0_0.length l0_0) (hc0_0 : l0_0.length ≤ c0_0) (hr0_1 : Kd.C (Kd.int .i64) w A0_1 l0_1.length l0_1) (hc0_1 : l0_1.length ≤ c0_1) (hr0_2 : Kd.C (Kd.int .i64) w A0_2 l0_2.length l0_2) (hc0_2 : l0_2.length ≤ c0_2)
    (hsz : laws_szChain.f l0_0 l0_1 l0_2 1048576 = some sz) (hsc : ¬ sz < 0)
    (hP1 : laws_toChain.f k l0_0 l0_1 l0_2 = some (p1, p2, p3))
    (hP2 : spec_StagewisePlan.f k p1 p2 p3 = some (l1, a2))
    (hA4 : laws_toChain.f k l0_0 l0_1 l0_2 = some (t1533, t1536, t1539))
    (hA5 : impl_StagewisePlan.f k t1533 t1536 t1539 = some (t1543, t1546))
    (hA6 : laws_eqIntSS.f k t1543 l1 = some true)
    (hA22 : laws_toChain.f k l0_0 l0_1 l0_2 = some (t1548, t1551, t1554))
    (hA23 : laws_eqChain.f k t1533 t1536 t1539 t1548 t1551 t1554 = some true)
    (hA25 : laws_markChain.f k t1533 t1536 t1539 1 = some (t1558, t1559, t1560, t1561))
    (hA48 : laws_eqIntSS.f k t1543 l1 = some true)
    (hA50 : laws_markIntSS.f k t1543 1 = some (t1563, tM))
    (hA51 : laws_heldIntSS.f k tM 1 = some t1564)
    (hA75 : laws_toChain.f k l0_0 l0_1 l0_2 = some (t1565, t1568, t1571))
    (hA76 : impl_StagewisePlan.f k t1565 t1568 t1571 = some (t1574, t1577))
    (hA77 : laws_eqIntSS.f k t1574 l1 = some true)
    (hA108 : laws_heldIntSS.f k tM 1 = some t1579)
    (c8 : ¬ ((t1546 != a2) = true)) (c26 : ¬ (t1558 < 0)) (c52 : ¬ (t1564 < 0)) (c74 : t1564 = t1563) (c79 : ¬ ((t1577 != a2) = true)) (c109 : ¬ (t1579 < 0)) (c138 : t1579 = t1563) :
    Calls Try.prog 5 #[.agg #[.slice A0_0 l0_0.length c0_0, .slice A0_1 l0_1.length c0_1, .slice A0_2 l0_2.length c0_2]] w fun e w' => e = .returned (.bool true) ∧ Below w.heap.size w w' := by
  have hu39 := Try.underlying39
  have hu26 := Try.underlying26
  have HR0_0 := Aside0.mk hr0_0
  have HC0_0 := Aside0.mk hc0_0
  clear hr0_0 hc0_0
  have HR0_1 := Aside0.mk hr0_1
  have HC0_1 := Aside0.mk hc0_1
  clear hr0_1 hc0_1
  have HR0_2 := Aside0.mk hr0_2
  have HC0_2 := Aside0.mk hc0_2
  clear hr0_2 hc0_2
  have HB := Aside0.mk (Below.refl w.heap.size w)
  have hscb : decide (sz < 0) = false := decide_eq_false hsc
  clear hsc
  have ASZ := Aside0.mk hsz
  clear hsz
  have AP1 := Aside0.mk hP1
  clear hP1
  have AP2 := Aside0.mk hP2
  clear hP2
  have A4 := Aside0.mk hA4
  clear hA4
  have A5 := Aside0.mk hA5
  clear hA5
  have A6 := Aside0.mk hA6
  clear hA6
  have A22 := Aside0.mk hA22
  clear hA22
  have A23 := Aside0.mk hA23
  clear hA23
  have A25 := Aside0.mk hA25
  clear hA25
  have A48 := Aside0.mk hA48
  clear hA48
  have A50 := Aside0.mk hA50
  clear hA50
  have A51 := Aside0.mk hA51
  clear hA51
  have A75 := Aside0.mk hA75
  clear hA75
  have A76 := Aside0.mk hA76
  clear hA76
  have A77 := Aside0.mk hA77
  clear hA77
  have A108 := Aside0.mk hA108
  clear hA108
  have c8b0 : (t1546 != a2) = false := by simpa using c8
  (try (have c8b1 : decide (t1546 = a2) = true := by simpa using c8))
  (try (have c8b2 : (t1546 == a2) = true := by simpa using c8))
  have c26b0 : decide (t1558 < 0) = false := decide_eq_false c26
  have c52b0 : decide (t1564 < 0) = false := decide_eq_false c52
  have c74b0 : (t1564 == t1563) = true := beq_iff_eq.mpr c74
  have c74b1 : (t1564 != t1563) = false := bne_eq_false_iff_eq.mpr c74
  have c79b0 : (t1577 != a2) = false := by simpa using c79
  (try (have c79b1 : decide (t1577 = a2) = true := by simpa using c79))
  (try (have c79b2 : (t1577 == a2) = true := by simpa using c79))
  have c109b0 : decide (t1579 < 0) = false := decide_eq_false c109
  have c138b0 : (t1579 == t1563) = true := beq_iff_eq.mpr c138
  have c138b1 : (t1579 != t1563) = false := bne_eq_false_iff_eq.mpr c138
  clear c8
  clear c26
  clear c52
  clear c74
  clear c79
  clear c109
  clear c138
  go_enter Try.func5, Try.ntmps5
  go_wp2_with (first | ((with_reducible refine gate_dst (N := 1) rfl ?_); refine box_event ?hg (N := 1) ?hd (cs := #[.slice A0_0 l0_0.length c0_0, .slice A0_1 l0_1.length c0_1, .slice A0_2 l0_2.length c0_2]) (t := 39) ?hr ?_; (case hd => rfl); (case hg => rfl); (case hr => first | (go_simp; done) | (go_simp; rfl)); intro gb1532 hg wp12 hbox hb; have n0_ := Aside0.mk (below_step z21 hb); have n1_ := Aside0.mk (hbox); have n2_ := Aside0.mk ((by rw [hg]; exact (below_size z21) : w.heap.size ≤ gb1532)); have n3_ := Aside0.mk ((by rw [hg]; exact (below_size z21) : w.heap.size ≤ gb1532)); clear HB; have HB := n0_; have BK1532 := n1_; have GW1532 := n2_; have GE1532 := n3_; clear n0_ n1_ n2_ n3_; clear hb hbox hg; have hcz13_0 : wp12.cell? ⟨gb1532, 0, none⟩ = some (.slice A0_0 l0_0.length c0_0) := (blk_cell BK1532.out 0).trans rfl; have hcz13_1 : wp12.cell? ⟨gb1532, 1, none⟩ = some (.slice A0_1 l0_1.length c0_1) := (blk_cell BK1532.out 1).trans rfl; have hcz13_2 : wp12.cell? ⟨gb1532, 2, none⟩ = some (.slice A0_2 l0_2.length c0_2) := (blk_cell BK1532.out 2).trans rfl; have hfz13_0 := blk_frozen BK1532.out 0; have hfz13_1 := blk_frozen BK1532.out 1; have hfz13_2 := blk_frozen BK1532.out 2) | ((with_reducible refine gate_callee (f := 22) rfl ?_); refine goesL_ (some 16) rfl rfl Try.func22 (by kernel_rfl) rfl #[.agg #[.slice A0_0 l0_0.length c0_0, .slice A0_1 l0_1.length c0_1, .slice A0_2 l0_2.length c0_2], .int .i64 1048576] rfl z1 ?_; (with_reducible refine (laws_szChain.calls _ _ l0_0 _ _ l0_1 _ _ l0_2 1048576 sz _ ?side1 ?side2 ?side3 ?side4 ?side5 ?side6 ASZ.out).mono ?_); (case side1 => repeat (first | exact (Kd.C_below HR0_0.out HB.out) | (with_reducible refine Kd.C_alloc ?_ _) | (with_reducible refine Kd.C_drewN ?_ _) | (with_reducible refine Kd.C_drew ?_))); (case side2 => exact HC0_0.out); (case side3 => repeat (first | exact (Kd.C_below HR0_1.out HB.out) | (with_reducible refine Kd.C_alloc ?_ _) | (with_reducible refine Kd.C_drewN ?_ _) | (with_reducible refine Kd.C_drew ?_))); (case side4 => exact HC0_1.out); (case side5 => repeat (first | exact (Kd.C_below HR0_2.out HB.out) | (with_reducible refine Kd.C_alloc ?_ _) | (with_reducible refine Kd.C_drewN ?_ _) | (with_reducible refine Kd.C_drew ?_))); (case side6 => exact HC0_2.out); rintro e wp14 ⟨rfl, hb⟩; refine ⟨_, rfl, ?_⟩; have n0_ := Aside0.mk (blk_below (g := gb1532) (o := .cells #[.slice A0_0 l0_0.length c0_0, .slice A0_1 l0_1.length c0_1, .slice A0_2 l0_2.length c0_2] 39 (0, 0)) z12 hb); have n1_ := Aside0.mk (below_step z10 hb); clear BK1532; clear HB; have BK1532 := n0_; have HB := n1_; clear n0_ n1_; (try clear hb); (try clear hb2); (try clear hk); (try clear hi); have hcz15_0 : wp14.cell? ⟨gb1532, 0, none⟩ = some (.slice A0_0 l0_0.length c0_0) := (blk_cell BK1532.out 0).trans rfl; have hcz15_1 : wp14.cell? ⟨gb1532, 1, none⟩ = some (.slice A0_1 l0_1.length c0_1) := (blk_cell BK1532.out 1).trans rfl; have hcz15_2 : wp14.cell? ⟨gb1532, 2, none⟩ = some (.slice A0_2 l0_2.length c0_2) := (blk_cell BK1532.out 2).trans rfl; have hfz15_0 := blk_frozen BK1532.out 0; have hfz15_1 := blk_frozen BK1532.out 1; have hfz15_2 := blk_frozen BK1532.out 2) | ((with_reducible refine gate_callee (f := 23) rfl ?_); refine goesL_ (some 21) rfl rfl Try.func23 (by kernel_rfl) rfl #[.agg #[.slice A0_0 l0_0.length c0_0, .slice A0_1 l0_1.length c0_1, .slice A0_2 l0_2.length c0_2]] rfl z1 ?_; (with_reducible refine (laws_toChain.calls k _ _ l0_0 _ _ l0_1 _ _ l0_2 p1 p2 p3 _ ?side1 ?side2 ?side3 ?side4 ?side5 ?side6 AP1.out).mono ?_); (case side1 => repeat (first | exact (Kd.C_below HR0_0.out HB.out) | (with_reducible refine Kd.C_alloc ?_ _) | (with_reducible refine Kd.C_drewN ?_ _) | (with_reducible refine Kd.C_drew ?_))); (case side2 => exact HC0_0.out); (case side3 => repeat (first | exact (Kd.C_below HR0_1.out HB.out) | (with_reducible refine Kd.C_alloc ?_ _) | (with_reducible refine Kd.C_drewN ?_ _) | (with_reducible refine Kd.C_drew ?_))); (case side4 => exact HC0_1.out); (case side5 => repeat (first | exact (Kd.C_below HR0_2.out HB.out) | (with_reducible refine Kd.C_alloc ?_ _) | (with_reducible refine Kd.C_drewN ?_ _) | (with_reducible refine Kd.C_drew ?_))); (case side6 => exact HC0_2.out); rintro e wp16 ⟨vp1583, vp1586, vp1589, rfl, ho0, ho1, ho2, hb⟩; refine ⟨_, rfl, ?_⟩; have n0_ := Aside0.mk (Kd.R_lower ho0 (below_size z10)); have n1_ := Aside0.mk (Kd.R_lower ho1 (below_size z10)); have n2_ := Aside0.mk (Kd.R_lower ho2 (below_size z10)); have n3_ := Aside0.mk (blk_below (g := gb1532) (o := .cells #[.slice A0_0 l0_0.length c0_0, .slice A0_1 l0_1.length c0_1, .slice A0_2 l0_2.length c0_2] 39 (0, 0)) z12 hb); have n4_ := Aside0.mk (below_step z10 hb); clear BK1532; clear HB; have HOp1584 := n0_; have HOp1587 := n1_; have HOp1590 := n2_; have BK1532 := n3_; have HB := n4_; clear n0_ n1_ n2_ n3_ n4_; (try clear hb); (try clear hb2); (try clear hk); (try clear hi); (try clear ho0); (try clear ho1); (try clear ho2); obtain ⟨Aop17, cop17, eop17⟩ := Kd.R_slice HOp1584.out; subst eop17; obtain ⟨Aop18, cop18, eop18⟩ := Kd.R_slice HOp1587.out; subst eop18; obtain ⟨Aop19, cop19, eop19⟩ := Kd.R_slice HOp1590.out; subst eop19) | ((with_reducible refine gate_callee (f := 18) rfl ?_); refine goesL_ (some 22) rfl rfl Try.func18 (by kernel_rfl) rfl #[.agg #[.slice Aop17 p1.length cop17, .slice Aop18 p2.length cop18, .slice Aop19 p3.length cop19]] rfl z1 ?_; (with_reducible refine (spec_StagewisePlan.calls k (fun k_ => some k_ = (.slice Aop17 p1.length cop17 : Value).ownBlock) _ _ p1 _ _ p2 _ _ p3 l1 a2 _ ?side1 ?side2 ?side3 ?side4 ?side5 AP2.out).mono ?_); (case side1 => exact Kd.R_V (Kd.R_tight rfl HOp1584.out)); (case side2 => repeat (first | exact (Kd.R_reads' HOp1587.out).2.2 | (with_reducible refine Kd.C_alloc ?_ _) | (with_reducible refine Kd.C_drewN ?_ _) | (with_reducible refine Kd.C_drew ?_))); (case side3 => exact (Kd.R_reads' HOp1587.out).2.1); (case side4 => repeat (first | exact (Kd.R_reads' HOp1590.out).2.2 | (with_reducible refine Kd.C_alloc ?_ _) | (with_reducible refine Kd.C_drewN ?_ _) | (with_reducible refine Kd.C_drew ?_))); (case side5 => exact (Kd.R_reads' HOp1590.out).2.1); rintro e wb ⟨vb, rfl, ho, hb⟩; refine ⟨_, rfl, ?_⟩; have nB_ := Aside0.mk (below_step z10 hb); have nK_ := Aside0.mk (blk_below (g := gb1532) (o := .cells #[.slice A0_0 l0_0.length c0_0, .slice A0_1 l0_1.length c0_1, .slice A0_2 l0_2.length c0_2] 39 (0, 0)) z12 hb); have nR0_ := Aside0.mk (Kd.C_below HR0_0.out nB_.out); have nR1_ := Aside0.mk (Kd.C_below HR0_1.out nB_.out); have nR2_ := Aside0.mk (Kd.C_below HR0_2.out nB_.out); obtain ⟨A1, c1, eb_⟩ := Kd.N_slice ho; subst eb_; have HR1 := Aside0.mk (Kd.N_reads' ho).2.2; have HC1 := Aside0.mk (Kd.N_reads' ho).2.1; clear ho hb HB; clear BK1532 GW1532 GE1532; clear HR0_0 HR0_1 HR0_2; clear HOp1584 HOp1587 HOp1590; have HBO := nB_; have BK1532 := nK_; have HR0_0 := nR0_; have HR0_1 := nR1_; have HR0_2 := nR2_; clear nB_ nK_ nR0_ nR1_ nR2_; have HB := Aside0.mk (Below.refl wb.heap.size wb); have hczb_0 : wb.cell? ⟨gb1532, 0, none⟩ = some (.slice A0_0 l0_0.length c0_0) := (blk_cell BK1532.out 0).trans rfl; have hczb_1 : wb.cell? ⟨gb1532, 1, none⟩ = some (.slice A0_1 l0_1.length c0_1) := (blk_cell BK1532.out 1).trans rfl; have hczb_2 : wb.cell? ⟨gb1532, 2, none⟩ = some (.slice A0_2 l0_2.length c0_2) := (blk_cell BK1532.out 2).trans rfl; have hfzb_0 := blk_frozen BK1532.out 0; have hfzb_1 := blk_frozen BK1532.out 1; have hfzb_2 := blk_frozen BK1532.out 2) | ((with_reducible refine gate_callee (f := 23) rfl ?_); refine goesL_ (some 26) rfl rfl Try.func23 (by kernel_rfl) rfl #[.agg #[.slice A0_0 l0_0.length c0_0, .slice A0_1 l0_1.length c0_1, .slice A0_2 l0_2.length c0_2]] rfl z1 ?_; (with_reducible refine (laws_toChain.calls k _ _ l0_0 _ _ l0_1 _ _ l0_2 t1533 t1536 t1539 _ ?side1 ?side2 ?side3 ?side4 ?side5 ?side6 A4.out).mono ?_); (case side1 => repeat (first | exact (Kd.C_below HR0_0.out HB.out) | (with_reducible refine Kd.C_alloc ?_ _) | (with_reducible refine Kd.C_drewN ?_ _) | (with_reducible refine Kd.C_drew ?_))); (case side2 => exact HC0_0.out); (case side3 => repeat (first | exact (Kd.C_below HR0_1.out HB.out) | (with_reducible refine Kd.C_alloc ?_ _) | (with_reducible refine Kd.C_drewN ?_ _) | (with_reducible refine Kd.C_drew ?_))); (case side4 => exact HC0_1.out); (case side5 => repeat (first | exact (Kd.C_below HR0_2.out HB.out) | (with_reducible refine Kd.C_alloc ?_ _) | (with_reducible refine Kd.C_drewN ?_ _) | (with_reducible refine Kd.C_drew ?_))); (case side6 => exact HC0_2.out); rintro e w141 ⟨v1534, v1537, v1540, rfl, ho0, ho1, ho2, hb⟩; refine ⟨_, rfl, ?_⟩; have n0_ := Aside0.mk (Kd.R_lower ho0 (below_size z10)); have n1_ := Aside0.mk (Kd.R_lower ho1 (below_size z10)); have n2_ := Aside0.mk (Kd.R_lower ho2 (below_size z10)); have n3_ := Aside0.mk (blk_below (g := gb1532) (o := .cells #[.slice A0_0 l0_0.length c0_0, .slice A0_1 l0_1.length c0_1, .slice A0_2 l0_2.length c0_2] 39 (0, 0)) z12 hb); have n4_ := Aside0.mk (below_step z10 hb); clear BK1532; clear HB; have HO1535 := n0_; have HO1538 := n1_; have HO1541 := n2_; have BK1532 := n3_; have HB := n4_; clear n0_ n1_ n2_ n3_ n4_; (try clear hb); (try clear hb2); (try clear hk); (try clear hi); (try clear ho0); (try clear ho1); (try clear ho2)) | ((with_reducible refine gate_dst (N := 6) rfl ?_); refine box_event ?hg (N := 6) ?hd (cs := #[.slice none 0 0, .slice none 0 0, .slice none 0 0]) (t := 26) ?hr ?_; (case hd => rfl); (case hg => rfl); (case hr => first | (go_simp; done) | (go_simp; rfl)); intro gb1542 hg w142 hbox hb; have n0_ := Aside0.mk (Kd.R_below z19 hb); have n1_ := Aside0.mk (Kd.R_below z18 hb); have n2_ := Aside0.mk (Kd.R_below z17 hb); have n3_ := Aside0.mk (blk_below (g := gb1532) (o := .cells #[.slice A0_0 l0_0.length c0_0, .slice A0_1 l0_1.length c0_1, .slice A0_2 l0_2.length c0_2] 39 (0, 0)) z12 hb); have n4_ := Aside0.mk (below_step z10 hb); have n5_ := Aside0.mk (hbox); have n6_ := Aside0.mk ((by rw [hg]; exact (below_size z10) : wb.heap.size ≤ gb1542)); have n7_ := Aside0.mk ((by rw [hg]; exact (below_size z10) : wb.heap.size ≤ gb1542)); have n8_ := Aside0.mk ((by rw [hg]; exact Nat.ne_of_lt (blk_lt (g := gb1532) (o := .cells #[.slice A0_0 l0_0.length c0_0, .slice A0_1 l0_1.length c0_1, .slice A0_2 l0_2.length c0_2] 39 (0, 0)) z12) : gb1532 ≠ gb1542)); have n9_ := Aside0.mk ((by rw [hg]; exact Nat.ne_of_gt (blk_lt (g := gb1532) (o := .cells #[.slice A0_0 l0_0.length c0_0, .slice A0_1 l0_1.length c0_1, .slice A0_2 l0_2.length c0_2] 39 (0, 0)) z12) : gb1542 ≠ gb1532)); clear HO1535; clear HO1538; clear HO1541; clear BK1532; clear HB; have HO1535 := n0_; have HO1538 := n1_; have HO1541 := n2_; have BK1532 := n3_; have HB := n4_; have BK1542 := n5_; have GW1542 := n6_; have GE1542 := n7_; have NB1532_1542 := n8_; have NB1542_1532 := n9_; clear n0_ n1_ n2_ n3_ n4_ n5_ n6_ n7_ n8_ n9_; clear hb hbox hg; obtain ⟨Ao143, co143, eo143⟩ := Kd.R_slice HO1535.out; subst eo143; have hnb144 := NB1542_1532.out; have hnc144 := NB1532_1542.out; have hcz145_0 : w142.cell? ⟨gb1542, 0, none⟩ = some (.slice none 0 0) := (blk_cell BK1542.out 0).trans rfl; have hcz145_1 : w142.cell? ⟨gb1542, 1, none⟩ = some (.slice none 0 0) := (blk_cell BK1542.out 1).trans rfl; have hcz145_2 : w142.cell? ⟨gb1542, 2, none⟩ = some (.slice none 0 0) := (blk_cell BK1542.out 2).trans rfl; have hfz145_0 := blk_frozen BK1542.out 0; have hfz145_1 := blk_frozen BK1542.out 1; have hfz145_2 := blk_frozen BK1542.out 2; obtain ⟨Ao146, co146, eo146⟩ := Kd.R_slice HO1538.out; subst eo146; obtain ⟨Ao147, co147, eo147⟩ := Kd.R_slice HO1541.out; subst eo147) | ((with_reducible refine gate_store (t := 26) (p := 6) rfl ?_); refine store_event (t := 26) (p := 6) (v := ?vo_w148) (w1 := (((w142.setCell ⟨gb1542, 0, none⟩ (.slice Ao143 t1533.length co143)).setCell ⟨gb1542, 1, none⟩ (.slice Ao146 t1536.length co146)).setCell ⟨gb1542, 2, none⟩ (.slice Ao147 t1539.length co147))) ?hg ?ho ?hn ?hr ?_; (case ho => rfl); (case hg => rfl); (case hn => rfl); (case hr => first | (go_simp; done) | (go_simp; rfl)); intro w148 hw; have n0_ : Aside0 (Kd.R (Kd.int .i64) 3 w148 wb.heap.size (fun k_ => some k_ ≠ (.slice Ao146 t1536.length co146 : Value).ownBlock ∧ some k_ ≠ (.slice Ao147 t1539.length co147 : Value).ownBlock) (.slice Ao143 t1533.length co143) t1533) := ⟨(by rw [hw]; exact (by (with_reducible repeat (first | apply Kd.R_alloc | apply Kd.R_drewN | apply Kd.R_drew)); exact Kd.R_mono (Kd.R_far (p := ⟨gb1542, 2, none⟩) (Kd.R_far (p := ⟨gb1542, 1, none⟩) (Kd.R_far (p := ⟨gb1542, 0, none⟩) (Kd.R_types HO1535.out BK1542.out (by decide)) (fun _ hk => hk.2) (.slice Ao143 t1533.length co143)) (fun _ hk => hk.2) (.slice Ao146 t1536.length co146)) (fun _ hk => hk.2) (.slice Ao147 t1539.length co147)) (fun _ hk => ⟨hk.1.1, hk.1.2⟩)))⟩; have n1_ : Aside0 (Kd.R (Kd.int .i64) 3 w148 wb.heap.size (fun k_ => some k_ ≠ (.slice Ao143 t1533.length co143 : Value).ownBlock ∧ some k_ ≠ (.slice Ao147 t1539.length co147 : Value).ownBlock) (.slice Ao146 t1536.length co146) t1536) := ⟨(by rw [hw]; exact (by (with_reducible repeat (first | apply Kd.R_alloc | apply Kd.R_drewN | apply Kd.R_drew)); exact Kd.R_mono (Kd.R_far (p := ⟨gb1542, 2, none⟩) (Kd.R_far (p := ⟨gb1542, 1, none⟩) (Kd.R_far (p := ⟨gb1542, 0, none⟩) (Kd.R_types HO1538.out BK1542.out (by decide)) (fun _ hk => hk.2) (.slice Ao143 t1533.length co143)) (fun _ hk => hk.2) (.slice Ao146 t1536.length co146)) (fun _ hk => hk.2) (.slice Ao147 t1539.length co147)) (fun _ hk => ⟨hk.1.1, hk.1.2⟩)))⟩; have n2_ : Aside0 (Kd.R (Kd.int .i64) 3 w148 wb.heap.size (fun k_ => some k_ ≠ (.slice Ao143 t1533.length co143 : Value).ownBlock ∧ some k_ ≠ (.slice Ao146 t1536.length co146 : Value).ownBlock) (.slice Ao147 t1539.length co147) t1539) := ⟨(by rw [hw]; exact (by (with_reducible repeat (first | apply Kd.R_alloc | apply Kd.R_drewN | apply Kd.R_drew)); exact Kd.R_mono (Kd.R_far (p := ⟨gb1542, 2, none⟩) (Kd.R_far (p := ⟨gb1542, 1, none⟩) (Kd.R_far (p := ⟨gb1542, 0, none⟩) (Kd.R_types HO1541.out BK1542.out (by decide)) (fun _ hk => hk.2) (.slice Ao143 t1533.length co143)) (fun _ hk => hk.2) (.slice Ao146 t1536.length co146)) (fun _ hk => hk.2) (.slice Ao147 t1539.length co147)) (fun _ hk => ⟨hk.1.1, hk.1.2⟩)))⟩; have n3_ : Aside0 (w148.heap[gb1532]? = some (.cells #[.slice A0_0 l0_0.length c0_0, .slice A0_1 l0_1.length c0_1, .slice A0_2 l0_2.length c0_2] 39 (0, 0))) := ⟨(by rw [hw]; exact (by (with_reducible repeat (first | refine blk_drewN ?_ _ | refine blk_drew ?_ | refine blk_alloc ?_ _)); refine blk_far ?_ NB1532_1542.out _; (with_reducible repeat (first | refine blk_drewN ?_ _ | refine blk_drew ?_ | refine blk_alloc ?_ _)); refine blk_far ?_ NB1532_1542.out _; (with_reducible repeat (first | refine blk_drewN ?_ _ | refine blk_drew ?_ | refine blk_alloc ?_ _)); refine blk_far ?_ NB1532_1542.out _; (with_reducible repeat (first | refine blk_drewN ?_ _ | refine blk_drew ?_ | refine blk_alloc ?_ _)); exact BK1532.out))⟩; have n4_ : Aside0 (w148.heap[gb1542]? = some (.cells #[.slice Ao143 t1533.length co143, .slice Ao146 t1536.length co146, .slice Ao147 t1539.length co147] 26 (0, 0))) := ⟨(by rw [hw]; exact (by (with_reducible repeat (first | refine blk_drewN ?_ _ | refine blk_drew ?_ | refine blk_alloc ?_ _)); refine blk_put (cs := #[.slice Ao143 t1533.length co143, .slice Ao146 t1536.length co146, .slice none 0 0]) ?_ 2 _ rfl; (with_reducible repeat (first | refine blk_drewN ?_ _ | refine blk_drew ?_ | refine blk_alloc ?_ _)); refine blk_put (cs := #[.slice Ao143 t1533.length co143, .slice none 0 0, .slice none 0 0]) ?_ 1 _ rfl; (with_reducible repeat (first | refine blk_drewN ?_ _ | refine blk_drew ?_ | refine blk_alloc ?_ _)); refine blk_put (cs := #[.slice none 0 0, .slice none 0 0, .slice none 0 0]) ?_ 0 _ rfl; (with_reducible repeat (first | refine blk_drewN ?_ _ | refine blk_drew ?_ | refine blk_alloc ?_ _)); exact BK1542.out))⟩; have n5_ : Aside0 (Below wb.heap.size wb w148) := ⟨(by rw [hw]; exact z11)⟩; clear hw; clear HO1535; clear HO1538; clear HO1541; clear BK1532; clear BK1542; clear HB; have HO1535 := n0_; have HO1538 := n1_; have HO1541 := n2_; have BK1532 := n3_; have BK1542 := n4_; have HB := n5_; clear n0_ n1_ n2_ n3_ n4_ n5_; have hcz149_0 : w148.cell? ⟨gb1542, 0, none⟩ = some (.slice Ao143 t1533.length co143) := (blk_cell BK1542.out 0).trans rfl; have hcz149_1 : w148.cell? ⟨gb1542, 1, none⟩ = some (.slice Ao146 t1536.length co146) := (blk_cell BK1542.out 1).trans rfl; have hcz149_2 : w148.cell? ⟨gb1542, 2, none⟩ = some (.slice Ao147 t1539.length co147) := (blk_cell BK1542.out 2).trans rfl; have hfz149_0 := blk_frozen BK1542.out 0; have hfz149_1 := blk_frozen BK1542.out 1; have hfz149_2 := blk_frozen BK1542.out 2) | ((with_reducible refine gate_callee (f := 17) rfl ?_); refine goesL_ (some 29) rfl rfl Try.func17 (by kernel_rfl) rfl #[.agg #[.slice Ao143 t1533.length co143, .slice Ao146 t1536.length co146, .slice Ao147 t1539.length co147]] rfl z1 ?_; (with_reducible refine (impl_StagewisePlan.calls k (fun k_ => some k_ = (.slice Ao143 t1533.length co143 : Value).ownBlock) _ _ t1533 _ _ t1536 _ _ t1539 t1543 t1546 _ ?side1 ?side2 ?side3 ?side4 ?side5 A5.out).mono ?_); (case side1 => exact Kd.R_V (Kd.R_tight rfl (Kd.R_types (Kd.R_types (HO1535.out) BK1532.out (by decide)) BK1542.out (by decide)))); (case side2 => repeat (first | exact (Kd.R_reads' HO1538.out).2.2 | (with_reducible refine Kd.C_alloc ?_ _) | (with_reducible refine Kd.C_drewN ?_ _) | (with_reducible refine Kd.C_drew ?_))); (case side3 => exact (Kd.R_reads' HO1538.out).2.1); (case side4 => repeat (first | exact (Kd.R_reads' HO1541.out).2.2 | (with_reducible refine Kd.C_alloc ?_ _) | (with_reducible refine Kd.C_drewN ?_ _) | (with_reducible refine Kd.C_drew ?_))); (case side5 => exact (Kd.R_reads' HO1541.out).2.1); rintro e w150 ⟨v1544, rfl, ho0, hb⟩; refine ⟨_, rfl, ?_⟩; have n0_ := Aside0.mk (Kd.R_below z19 hb); have n1_ := Aside0.mk (Kd.R_below z18 hb); have n2_ := Aside0.mk (Kd.R_below z17 hb); have n3_ := Aside0.mk (Kd.S_lower (Kd.S_new' (Kd.S_new' (Kd.S_new' (Kd.S_mono (ok' := fun k_ => True) ho0 (fun _ hk_ => trivial)) (Kd.R_lt z19)) (Kd.R_lt z18)) (Kd.R_lt z17)) (below_size z11)); have n4_ := Aside0.mk (blk_below (g := gb1532) (o := .cells #[.slice A0_0 l0_0.length c0_0, .slice A0_1 l0_1.length c0_1, .slice A0_2 l0_2.length c0_2] 39 (0, 0)) z12 hb); have n5_ := Aside0.mk (blk_below (g := gb1542) (o := .cells #[.slice Ao143 t1533.length co143, .slice Ao146 t1536.length co146, .slice Ao147 t1539.length co147] 26 (0, 0)) z33 hb); have n6_ := Aside0.mk (below_step z11 hb); clear HO1535; clear HO1538; clear HO1541; clear BK1532; clear BK1542; clear HB; have HO1535 := n0_; have HO1538 := n1_; have HO1541 := n2_; have HO1545 := n3_; have BK1532 := n4_; have BK1542 := n5_; have HB := n6_; clear n0_ n1_ n2_ n3_ n4_ n5_ n6_; (try clear hb); (try clear hb2); (try clear hk); (try clear hi); (try clear ho0); obtain ⟨Ao151, co151, eo151⟩ := Kd.S_slice HO1545.out; subst eo151) | ((with_reducible refine gate_callee (f := 25) rfl ?_); refine goesL_ (some 34) rfl rfl Try.func25 (by kernel_rfl) rfl #[.slice Ao151 t1543.length co151, .slice A1 l1.length c1] rfl z1 ?_; (with_reducible refine (laws_eqIntSS.calls k _ _ t1543 _ _ l1 true _ ?side1 ?side2 ?side3 ?side4 A6.out).mono ?_); (case side1 => repeat (first | exact (Kd.S_reads' HO1545.out).2.2 | (with_reducible refine Kd.C_alloc ?_ _) | (with_reducible refine Kd.C_drewN ?_ _) | (with_reducible refine Kd.C_drew ?_))); (case side2 => exact (Kd.S_reads' HO1545.out).2.1); (case side3 => repeat (first | exact (Kd.C_below HR1.out HB.out) | (with_reducible refine Kd.C_alloc ?_ _) | (with_reducible refine Kd.C_drewN ?_ _) | (with_reducible refine Kd.C_drew ?_))); (case side4 => exact HC1.out); rintro e w' ⟨rfl, ⟨nd, rfl⟩⟩; refine ⟨_, rfl, ?_⟩))
  (try (rw [drewN_self w150]; generalize hq_ : World.drewN w150 _ = w150; have n0_ : Aside0 (Kd.R (Kd.int .i64) 3 w150 wb.heap.size (fun k_ => some k_ ≠ (.slice Ao146 t1536.length co146 : Value).ownBlock ∧ some k_ ≠ (.slice Ao147 t1539.length co147 : Value).ownBlock) (.slice Ao143 t1533.length co143) t1533) := ⟨by rw [← hq_]; exact z19⟩; have n1_ : Aside0 (Kd.R (Kd.int .i64) 3 w150 wb.heap.size (fun k_ => some k_ ≠ (.slice Ao143 t1533.length co143 : Value).ownBlock ∧ some k_ ≠ (.slice Ao147 t1539.length co147 : Value).ownBlock) (.slice Ao146 t1536.length co146) t1536) := ⟨by rw [← hq_]; exact z18⟩; have n2_ : Aside0 (Kd.R (Kd.int .i64) 3 w150 wb.heap.size (fun k_ => some k_ ≠ (.slice Ao143 t1533.length co143 : Value).ownBlock ∧ some k_ ≠ (.slice Ao146 t1536.length co146 : Value).ownBlock) (.slice Ao147 t1539.length co147) t1539) := ⟨by rw [← hq_]; exact z17⟩; have n3_ : Aside0 (Kd.S (Kd.slice 3 (Kd.int .i64)) 24 w150 wb.heap.size (fun k_ => some k_ ≠ (.slice Ao143 t1533.length co143 : Value).ownBlock ∧ some k_ ≠ (.slice Ao146 t1536.length co146 : Value).ownBlock ∧ some k_ ≠ (.slice Ao147 t1539.length co147 : Value).ownBlock) (.slice Ao151 t1543.length co151) t1543) := ⟨by rw [← hq_]; exact (by (with_reducible repeat (first | apply Kd.S_alloc | apply Kd.S_drewN | apply Kd.S_drew)); exact Kd.S_mono HO1545.out (fun _ hk => ⟨hk.1.1.2, ⟨hk.1.2, hk.2⟩⟩))⟩; have n4_ : Aside0 (w150.heap[gb1532]? = some (.cells #[.slice A0_0 l0_0.length c0_0, .slice A0_1 l0_1.length c0_1, .slice A0_2 l0_2.length c0_2] 39 (0, 0))) := ⟨by rw [← hq_]; exact z12⟩; have n5_ : Aside0 (w150.heap[gb1542]? = some (.cells #[.slice Ao143 t1533.length co143, .slice Ao146 t1536.length co146, .slice Ao147 t1539.length co147] 26 (0, 0))) := ⟨by rw [← hq_]; exact z33⟩; have n6_ : Aside0 (Below wb.heap.size wb w150) := ⟨by rw [← hq_]; exact z11⟩; clear HO1535 HO1538 HO1541 HO1545 BK1532 BK1542 HB hq_; have HO1535 := n0_; have HO1538 := n1_; have HO1541 := n2_; have HO1545 := n3_; have BK1532 := n4_; have BK1542 := n5_; have HB := n6_; clear n0_ n1_ n2_ n3_ n4_ n5_ n6_))
  have n0_ := Aside0.mk (Kd.R_drew HO1535.out)
  have n1_ := Aside0.mk (Kd.R_drew HO1538.out)
  have n2_ := Aside0.mk (Kd.R_drew HO1541.out)
  have n3_ := Aside0.mk (Kd.S_drew HO1545.out)
  have n4_ := Aside0.mk (blk_drew BK1532.out)
  have n5_ := Aside0.mk (blk_drew BK1542.out)
  have n6_ := Aside0.mk (below_drew1 HB.out)
  clear HO1535
  clear HO1538
  clear HO1541
  clear HO1545
  clear BK1532
  clear BK1542
  clear HB
  have HO1535 := n0_
  have HO1538 := n1_
  have HO1541 := n2_
  have HO1545 := n3_
  have BK1532 := n4_
  have BK1542 := n5_
  have HB := n6_
  clear n0_ n1_ n2_ n3_ n4_ n5_ n6_
  refine start_ (n := 5) (S := fun w' => w'.cell? ⟨gb1542, 0, none⟩ = some (.slice Ao143 t1533.length co143) ∧ w'.cell? ⟨gb1542, 1, none⟩ = some (.slice Ao146 t1536.length co146) ∧ w'.cell? ⟨gb1542, 2, none⟩ = some (.slice Ao147 t1539.length co147) ∧ w'.cell? ⟨gb1532, 0, none⟩ = some (.slice A0_0 l0_0.length c0_0) ∧ w'.cell? ⟨gb1532, 1, none⟩ = some (.slice A0_1 l0_1.length c0_1) ∧ w'.cell? ⟨gb1532, 2, none⟩ = some (.slice A0_2 l0_2.length c0_2)) (ds := []) #[false, false, false, false, false] (by kernel_rfl) rfl rfl ⟨(blk_cell BK1542.out 0).trans rfl, (blk_cell BK1542.out 1).trans rfl, (blk_cell BK1542.out 2).trans rfl, (blk_cell BK1532.out 0).trans rfl, (blk_cell BK1532.out 1).trans rfl, (blk_cell BK1532.out 2).trans rfl⟩ (fun hHeld => ?_)
  generalize w150.drew = w152 at HO1535 HO1538 HO1541 HO1545 BK1532 BK1542 HB hHeld ⊢
  refine take_ (i := 0) (N := some 41) (v := ?_) (a' := ?_) #[true, false, false, false, false] rfl rfl (by kernel_rfl) (fun _ _ _ h => h) (Or.inl ⟨by rfl, ?_⟩) hHeld ?_ ?_
  rotate_left
  · rintro w' ⟨s0, s1, s2, s3, s4, s5⟩
    go_simp
    with_reducible rfl
  rotate_left
  · simp only [Act.put, List.setIfInBounds_toArray, List.set_cons_zero, List.set_cons_succ, i64_w, i32_w]
    rfl
  refine take_ (i := 1) (N := some 42) (v := ?_) (a' := ?_) #[true, true, false, false, false] rfl rfl (by kernel_rfl) (fun _ _ _ h => h) (Or.inl ⟨by rfl, ?_⟩) hHeld ?_ ?_
  rotate_left
  · rintro w' ⟨s0, s1, s2, s3, s4, s5⟩
    go_simp
    with_reducible rfl
  rotate_left
  · simp only [Act.put, List.setIfInBounds_toArray, List.set_cons_zero, List.set_cons_succ, i64_w, i32_w]
    rfl
  refine one_ (i := 2) (N := some 43) #[true, true, true, false, false] rfl rfl (by kernel_rfl) (by decide) (fun K hK => ?_)
  refine goes_ Try.func23 (by kernel_rfl) rfl #[.agg #[.slice A0_0 l0_0.length c0_0, .slice A0_1 l0_1.length c0_1, .slice A0_2 l0_2.length c0_2]] (by rfl) rfl rfl z1 ?_
  with_reducible refine (laws_toChain.calls k _ _ l0_0 _ _ l0_1 _ _ l0_2 t1548 t1551 t1554 _ ?side1 ?side2 ?side3 ?side4 ?side5 ?side6 A22.out).mono ?_
  (case side1 => repeat (first | exact (Kd.C_below HR0_0.out HB.out) | (with_reducible refine Kd.C_alloc ?_ _) | (with_reducible refine Kd.C_drewN ?_ _) | (with_reducible refine Kd.C_drew ?_)))
  (case side2 => exact HC0_0.out)
  (case side3 => repeat (first | exact (Kd.C_below HR0_1.out HB.out) | (with_reducible refine Kd.C_alloc ?_ _) | (with_reducible refine Kd.C_drewN ?_ _) | (with_reducible refine Kd.C_drew ?_)))
  (case side4 => exact HC0_1.out)
  (case side5 => repeat (first | exact (Kd.C_below HR0_2.out HB.out) | (with_reducible refine Kd.C_alloc ?_ _) | (with_reducible refine Kd.C_drewN ?_ _) | (with_reducible refine Kd.C_drew ?_)))
  (case side6 => exact HC0_2.out)
  rintro e w153 ⟨v1549, v1552, v1555, rfl, ho0, ho1, ho2, hb⟩
  refine ⟨_, rfl, ?_⟩
  have n0_ := Aside0.mk (Kd.R_mono (Kd.R_told (Kd.R_told (Kd.R_told (Kd.R_old z19 hb) (Kd.R_base ho0)) (Kd.R_base ho1)) (Kd.R_base ho2)) (fun _ h_ => h_.1))
  have n1_ := Aside0.mk (Kd.R_mono (Kd.R_told (Kd.R_told (Kd.R_told (Kd.R_old z18 hb) (Kd.R_base ho0)) (Kd.R_base ho1)) (Kd.R_base ho2)) (fun _ h_ => h_.1))
  have n2_ := Aside0.mk (Kd.R_mono (Kd.R_told (Kd.R_told (Kd.R_told (Kd.R_old z17 hb) (Kd.R_base ho0)) (Kd.R_base ho1)) (Kd.R_base ho2)) (fun _ h_ => h_.1))
  have n3_ := Aside0.mk (Kd.S_mono (Kd.S_told (Kd.S_told (Kd.S_told (Kd.S_old z35 hb) (Kd.R_base ho0)) (Kd.R_base ho1)) (Kd.R_base ho2)) (fun _ h_ => h_.1))
  have n4_ := Aside0.mk (Kd.R_lower (Kd.R_new' (Kd.R_new' (Kd.R_new' ho0 (Kd.R_lt z19)) (Kd.R_lt z18)) (Kd.R_lt z17)) (below_size z11))
  have n5_ := Aside0.mk (Kd.R_lower (Kd.R_new' (Kd.R_new' (Kd.R_new' ho1 (Kd.R_lt z19)) (Kd.R_lt z18)) (Kd.R_lt z17)) (below_size z11))
  have n6_ := Aside0.mk (Kd.R_lower (Kd.R_new' (Kd.R_new' (Kd.R_new' ho2 (Kd.R_lt z19)) (Kd.R_lt z18)) (Kd.R_lt z17)) (below_size z11))
  have n7_ := Aside0.mk (blk_below (g := gb1532) (o := .cells #[.slice A0_0 l0_0.length c0_0, .slice A0_1 l0_1.length c0_1, .slice A0_2 l0_2.length c0_2] 39 (0, 0)) z12 hb)
  have n8_ := Aside0.mk (blk_below (g := gb1542) (o := .cells #[.slice Ao143 t1533.length co143, .slice Ao146 t1536.length co146, .slice Ao147 t1539.length co147] 26 (0, 0)) z33 hb)
  have n9_ := Aside0.mk (below_step z11 hb)
  clear HO1535
  clear HO1538
  clear HO1541
  clear HO1545
  clear BK1532
  clear BK1542
  clear HB
  have HO1535 := n0_
  have HO1538 := n1_
  have HO1541 := n2_
  have HO1545 := n3_
  have HO1550 := n4_
  have HO1553 := n5_
  have HO1556 := n6_
  have BK1532 := n7_
  have BK1542 := n8_
  have HB := n9_
  clear n0_ n1_ n2_ n3_ n4_ n5_ n6_ n7_ n8_ n9_
  (try clear hb)
  (try clear hb2)
  (try clear hk)
  (try clear hi)
  (try clear ho0)
  (try clear ho1)
  (try clear ho2)
  obtain ⟨Ao154, co154, eo154⟩ := Kd.R_slice HO1550.out
  (first | subst eo154 | (injection eo154 with f1_ f2_ f3_; have f4_ := f1_.symm; have f5_ := f3_.symm; clear f1_ f2_ f3_; subst f4_; subst f5_))
  obtain ⟨Ao155, co155, eo155⟩ := Kd.R_slice HO1553.out
  (first | subst eo155 | (injection eo155 with f1_ f2_ f3_; have f4_ := f1_.symm; have f5_ := f3_.symm; clear f1_ f2_ f3_; subst f4_; subst f5_))
  obtain ⟨Ao156, co156, eo156⟩ := Kd.R_slice HO1556.out
  (first | subst eo156 | (injection eo156 with f1_ f2_ f3_; have f4_ := f1_.symm; have f5_ := f3_.symm; clear f1_ f2_ f3_; subst f4_; subst f5_))
  refine hK.out _ _ ⟨(blk_cell BK1542.out 0).trans rfl, (blk_cell BK1542.out 1).trans rfl, (blk_cell BK1542.out 2).trans rfl, (blk_cell BK1532.out 0).trans rfl, (blk_cell BK1532.out 1).trans rfl, (blk_cell BK1532.out 2).trans rfl⟩ (fun hHeld => ?_)
  clear hK K
  refine norm_ (a' := ?_) ?_ ?_
  rotate_left
  · show Act.put _ (some 43) _ = _
    simp only [Act.put, List.setIfInBounds_toArray, List.set_cons_zero, List.set_cons_succ, i64_w, i32_w]
    rfl
  refine one_ (i := 3) (N := some 44) #[true, true, true, true, false] rfl rfl (by kernel_rfl) (by decide) (fun K hK => ?_)
  refine goes_ Try.func24 (by kernel_rfl) rfl #[.agg #[.slice Ao143 t1533.length co143, .slice Ao146 t1536.length co146, .slice Ao147 t1539.length co147], .agg #[.slice Ao154 t1548.length co154, .slice Ao155 t1551.length co155, .slice Ao156 t1554.length co156]] (by rfl) rfl rfl z1 ?_
  with_reducible refine (laws_eqChain.calls k _ _ t1533 _ _ t1536 _ _ t1539 _ _ t1548 _ _ t1551 _ _ t1554 true _ ?side1 ?side2 ?side3 ?side4 ?side5 ?side6 ?side7 ?side8 ?side9 ?side10 ?side11 ?side12 A23.out).mono ?_
  (case side1 => repeat (first | exact (Kd.R_reads' HO1535.out).2.2 | (with_reducible refine Kd.C_alloc ?_ _) | (with_reducible refine Kd.C_drewN ?_ _) | (with_reducible refine Kd.C_drew ?_)))
  (case side2 => exact (Kd.R_reads' HO1535.out).2.1)
  (case side3 => repeat (first | exact (Kd.R_reads' HO1538.out).2.2 | (with_reducible refine Kd.C_alloc ?_ _) | (with_reducible refine Kd.C_drewN ?_ _) | (with_reducible refine Kd.C_drew ?_)))
  (case side4 => exact (Kd.R_reads' HO1538.out).2.1)
  (case side5 => repeat (first | exact (Kd.R_reads' HO1541.out).2.2 | (with_reducible refine Kd.C_alloc ?_ _) | (with_reducible refine Kd.C_drewN ?_ _) | (with_reducible refine Kd.C_drew ?_)))
  (case side6 => exact (Kd.R_reads' HO1541.out).2.1)
  (case side7 => repeat (first | exact (Kd.R_reads' HO1550.out).2.2 | (with_reducible refine Kd.C_alloc ?_ _) | (with_reducible refine Kd.C_drewN ?_ _) | (with_reducible refine Kd.C_drew ?_)))
  (case side8 => exact (Kd.R_reads' HO1550.out).2.1)
  (case side9 => repeat (first | exact (Kd.R_reads' HO1553.out).2.2 | (with_reducible refine Kd.C_alloc ?_ _) | (with_reducible refine Kd.C_drewN ?_ _) | (with_reducible refine Kd.C_drew ?_)))
  (case side10 => exact (Kd.R_reads' HO1553.out).2.1)
  (case side11 => repeat (first | exact (Kd.R_reads' HO1556.out).2.2 | (with_reducible refine Kd.C_alloc ?_ _) | (with_reducible refine Kd.C_drewN ?_ _) | (with_reducible refine Kd.C_drew ?_)))
  (case side12 => exact (Kd.R_reads' HO1556.out).2.1)
  rintro e w157 ⟨rfl, hb⟩
  refine ⟨_, rfl, ?_⟩
  have n0_ := Aside0.mk (Kd.R_below z19 hb)
  have n1_ := Aside0.mk (Kd.R_below z18 hb)
  have n2_ := Aside0.mk (Kd.R_below z17 hb)
  have n3_ := Aside0.mk (Kd.S_below z35 hb)
  have n4_ := Aside0.mk (Kd.R_below (by (with_reducible repeat (first | apply Kd.R_alloc | apply Kd.R_drewN | apply Kd.R_drew)); exact HO1550.out) hb)
  have n5_ := Aside0.mk (Kd.R_below (by (with_reducible repeat (first | apply Kd.R_alloc | apply Kd.R_drewN | apply Kd.R_drew)); exact HO1553.out) hb)
  have n6_ := Aside0.mk (Kd.R_below (by (with_reducible repeat (first | apply Kd.R_alloc | apply Kd.R_drewN | apply Kd.R_drew)); exact HO1556.out) hb)
  have n7_ := Aside0.mk (blk_below (g := gb1532) (o := .cells #[.slice A0_0 l0_0.length c0_0, .slice A0_1 l0_1.length c0_1, .slice A0_2 l0_2.length c0_2] 39 (0, 0)) z12 hb)
  have n8_ := Aside0.mk (blk_below (g := gb1542) (o := .cells #[.slice Ao143 t1533.length co143, .slice Ao146 t1536.length co146, .slice Ao147 t1539.length co147] 26 (0, 0)) z33 hb)
  have n9_ := Aside0.mk (below_step z11 hb)
  clear HO1535
  clear HO1538
  clear HO1541
  clear HO1545
  clear HO1550
  clear HO1553
  clear HO1556
  clear BK1532
  clear BK1542
  clear HB
  have HO1535 := n0_
  have HO1538 := n1_
  have HO1541 := n2_
  have HO1545 := n3_
  have HO1550 := n4_
  have HO1553 := n5_
  have HO1556 := n6_
  have BK1532 := n7_
  have BK1542 := n8_
  have HB := n9_
  clear n0_ n1_ n2_ n3_ n4_ n5_ n6_ n7_ n8_ n9_
  (try clear hb)
  (try clear hb2)
  (try clear hk)
  (try clear hi)
  refine hK.out _ _ ⟨(blk_cell BK1542.out 0).trans rfl, (blk_cell BK1542.out 1).trans rfl, (blk_cell BK1542.out 2).trans rfl, (blk_cell BK1532.out 0).trans rfl, (blk_cell BK1532.out 1).trans rfl, (blk_cell BK1532.out 2).trans rfl⟩ (fun hHeld => ?_)
  clear hK K
  refine norm_ (a' := ?_) ?_ ?_
  rotate_left
  · show Act.put _ (some 44) _ = _
    simp only [Act.put, List.setIfInBounds_toArray, List.set_cons_zero, List.set_cons_succ, i64_w, i32_w]
    rfl
  refine pure_ (i := 4) (N := some 45) (v := ?_) (a' := ?_) #[true, true, true, true, true] rfl rfl (by kernel_rfl) (fun _ _ _ h => h) (Or.inl ⟨by rfl, ?_⟩) ?_ ?_
  rotate_left
  · intro w'
    go_simp
    with_reducible rfl
  rotate_left
  · simp only [Act.put, List.setIfInBounds_toArray, List.set_cons_zero, List.set_cons_succ, i64_w, i32_w]
    rfl
  refine done_ (by kernel_rfl) ?_
  have hcz158_0 : w157.cell? ⟨gb1542, 0, none⟩ = some (.slice Ao143 t1533.length co143) := (blk_cell BK1542.out 0).trans rfl
  have hcz158_1 : w157.cell? ⟨gb1542, 1, none⟩ = some (.slice Ao146 t1536.length co146) := (blk_cell BK1542.out 1).trans rfl
  have hcz158_2 : w157.cell? ⟨gb1542, 2, none⟩ = some (.slice Ao147 t1539.length co147) := (blk_cell BK1542.out 2).trans rfl
  have hfz158_0 := blk_frozen BK1542.out 0
  have hfz158_1 := blk_frozen BK1542.out 1
  have hfz158_2 := blk_frozen BK1542.out 2
  go_wp2_with (first | ((with_reducible refine gate_callee (f := 26) rfl ?_); refine goesL_ (some 48) rfl rfl Try.func26 (by kernel_rfl) rfl #[.agg #[.slice Ao143 t1533.length co143, .slice Ao146 t1536.length co146, .slice Ao147 t1539.length co147], .int .i64 1] rfl z1 ?_; (with_reducible refine (laws_markChain.calls k (fun k_ => some k_ = (.slice Ao143 t1533.length co143 : Value).ownBlock) (.slice Ao143 t1533.length co143) t1533 (fun k_ => some k_ = (.slice Ao146 t1536.length co146 : Value).ownBlock) (.slice Ao146 t1536.length co146) t1536 (fun k_ => some k_ = (.slice Ao147 t1539.length co147 : Value).ownBlock) (.slice Ao147 t1539.length co147) t1539 1 t1558 t1559 t1560 t1561 wb _ ?side1 ?side2 ?side3 ?side4 ?side5 ?side6 ?side7 ?side8 ?side9 ?side10 A25.out).mono ?_); (case side1 => repeat (first | (with_reducible first | exact HB.out | apply below_alloc | apply pw_below_drewN | apply below_drew1 | refine below_set ?_ GE1532.out | refine below_set ?_ GE1542.out) | exact HB.out)); (case side2 => exact Kd.R_tight rfl HO1535.out); (case side3 => exact fun k_ e_ => (HO1535.out.1 k_ e_.symm).1.1.1.1); (case side4 => exact fun k_ e_ => (HO1535.out.1 k_ e_.symm).1.1.1.2); (case side5 => exact Kd.R_tight rfl HO1538.out); (case side6 => exact fun k_ e_ => (HO1538.out.1 k_ e_.symm).1.1.1.1); (case side7 => exact fun k_ e_ => (HO1538.out.1 k_ e_.symm).1.1.1.2); (case side8 => exact Kd.R_tight rfl HO1541.out); (case side9 => exact fun k_ e_ => (HO1541.out.1 k_ e_.symm).1.1.1.1); (case side10 => exact fun k_ e_ => (HO1541.out.1 k_ e_.symm).1.1.1.2); rintro e w159 ⟨rfl, hy0, hy1, hy2, hb, hkp⟩; refine ⟨_, rfl, ?_⟩; have n0_ := Aside0.mk (blk_kept z12 hkp (fun hs_ => Or.elim hs_ (fun e_ => (fun e_ => (Kd.R_ne HO1535.out BK1532.out (by decide)) e_) e_) (fun e_ => Or.elim e_ (fun e_ => (fun e_ => (Kd.R_ne HO1538.out BK1532.out (by decide)) e_) e_) (fun e_ => (fun e_ => (Kd.R_ne HO1541.out BK1532.out (by decide)) e_) e_)))); have n1_ := Aside0.mk (Kd.S_kept (HO1545.out) hkp (fun k_ hk_ hs_ => by rcases hs_ with e_ | e_ | e_ <;> first | exact hk_ e_ | exact hk_.2 e_ | exact hk_.2.1 e_ | exact hk_.2.2 e_ | exact hk_.2.2.1 e_ | exact hk_.2.2.2 e_ | exact hk_.1 e_ | exact hk_.1.2 e_ | exact hk_.1.2.1 e_ | exact hk_.1.2.2 e_ | exact hk_.1.2.2.1 e_ | exact hk_.1.2.2.2 e_ | exact hk_.1.1 e_ | exact hk_.1.1.2 e_ | exact hk_.1.1.2.1 e_ | exact hk_.1.1.2.2 e_ | exact hk_.1.1.2.2.1 e_ | exact hk_.1.1.2.2.2 e_ | exact hk_.1.1.1 e_ | exact hk_.1.1.1.2 e_ | exact hk_.1.1.1.2.1 e_ | exact hk_.1.1.1.2.2 e_ | exact hk_.1.1.1.2.2.1 e_ | exact hk_.1.1.1.2.2.2 e_ | exact hk_.1.1.1.1 e_ | exact hk_.1.1.1.1.2 e_ | exact hk_.1.1.1.1.2.1 e_ | exact hk_.1.1.1.1.2.2 e_ | exact hk_.1.1.1.1.2.2.1 e_ | exact hk_.1.1.1.1.2.2.2 e_ | exact hk_.1.1.1.1.1 e_ | exact hk_.1.1.1.1.1.2 e_ | exact hk_.1.1.1.1.1.2.1 e_ | exact hk_.1.1.1.1.1.2.2 e_ | exact hk_.1.1.1.1.1.2.2.1 e_ | exact hk_.1.1.1.1.1.2.2.2 e_ | exact hk_.1.1.1.1.1.1 e_ | exact hk_.1.1.1.1.1.1.2 e_ | exact hk_.1.1.1.1.1.1.2.1 e_ | exact hk_.1.1.1.1.1.1.2.2 e_ | exact hk_.1.1.1.1.1.1.2.2.1 e_ | exact hk_.1.1.1.1.1.1.2.2.2 e_)); have n2_ := Aside0.mk hb; clear BK1532 HB HO1545 BK1542 HO1535 HO1538 HO1541 HO1550 HO1553 HO1556; clear hb hkp hy0 hy1 hy2; have BK1532 := n0_; have HO1545 := n1_; have HB := n2_; clear n0_ n1_ n2_) | (go_at_call 25; (with_reducible refine (laws_eqIntSS.calls k _ _ t1543 _ _ l1 true _ ?side1 ?side2 ?side3 ?side4 A48.out).mono ?_); (case side1 => repeat (first | exact (Kd.S_reads' HO1545.out).2.2 | (with_reducible refine Kd.C_alloc ?_ _) | (with_reducible refine Kd.C_drewN ?_ _) | (with_reducible refine Kd.C_drew ?_))); (case side2 => exact (Kd.S_reads' HO1545.out).2.1); (case side3 => repeat (first | exact (Kd.C_below HR1.out HB.out) | (with_reducible refine Kd.C_alloc ?_ _) | (with_reducible refine Kd.C_drewN ?_ _) | (with_reducible refine Kd.C_drew ?_))); (case side4 => exact HC1.out); rintro e w' ⟨rfl, ⟨nd, rfl⟩⟩) | ((with_reducible refine gate_callee (f := 27) rfl ?_); obtain ⟨okg, hS_⟩ : ∃ okg : Nat → Prop, Kd.S (Kd.slice 3 (Kd.int .i64)) 24 _ _ (fun k => okg k ∧ k ≠ gb1532) _ _ := ⟨_, Kd.S_types HO1545.out BK1532.out (by decide)⟩; refine goesL_ (some 64) rfl rfl Try.func27 (by kernel_rfl) rfl #[.slice Ao151 t1543.length co151, .int .i64 1] rfl z1 ?_; (with_reducible refine (laws_markIntSS.calls k (fun k_ => okg k_ ∧ k_ ≠ gb1532) (.slice Ao151 t1543.length co151) t1543 1 t1563 tM wb _ ?side1 ?side2 A50.out).mono ?_); (case side1 => repeat (first | (with_reducible first | exact HB.out | apply below_alloc | apply pw_below_drewN | apply below_drew1) | exact HB.out)); (case side2 => (with_reducible repeat (first | apply Kd.S_alloc | apply Kd.S_drewN | apply Kd.S_drew)); exact hS_); clear hS_; rintro e wm ⟨rfl, hy0, hb, hkp⟩; refine ⟨_, rfl, ?_⟩; have n0_ := Aside0.mk hy0; have n1_ := Aside0.mk (blk_kept (g := gb1532) (o := .cells #[.slice A0_0 l0_0.length c0_0, .slice A0_1 l0_1.length c0_1, .slice A0_2 l0_2.length c0_2] 39 (0, 0)) z12 hkp (fun h_ => h_.2 rfl)); have n2_ := Aside0.mk hb; have hL_ := (Kd.S_reads' hy0).1; clear HO1545 BK1532 HB; clear hy0 hb hkp; have HO1545 := n0_; have BK1532 := n1_; have HB := n2_; clear n0_ n1_ n2_; rw [hL_] at HO1545 ⊢; clear hL_; have hczm_0 : wm.cell? ⟨gb1532, 0, none⟩ = some (.slice A0_0 l0_0.length c0_0) := (blk_cell BK1532.out 0).trans rfl; have hczm_1 : wm.cell? ⟨gb1532, 1, none⟩ = some (.slice A0_1 l0_1.length c0_1) := (blk_cell BK1532.out 1).trans rfl; have hczm_2 : wm.cell? ⟨gb1532, 2, none⟩ = some (.slice A0_2 l0_2.length c0_2) := (blk_cell BK1532.out 2).trans rfl; have hfzm_0 := blk_frozen BK1532.out 0; have hfzm_1 := blk_frozen BK1532.out 1; have hfzm_2 := blk_frozen BK1532.out 2) | ((with_reducible refine gate_callee (f := 28) rfl ?_); refine goesL_ (some 67) rfl rfl Try.func28 (by kernel_rfl) rfl #[.slice Ao151 tM.length co151, .int .i64 1] rfl z1 ?_; (with_reducible refine (laws_heldIntSS.calls k _ _ tM 1 t1564 _ ?side1 ?side2 A51.out).mono ?_); (case side1 => repeat (first | exact (Kd.S_reads' HO1545.out).2.2 | (with_reducible refine Kd.C_alloc ?_ _) | (with_reducible refine Kd.C_drewN ?_ _) | (with_reducible refine Kd.C_drew ?_))); (case side2 => exact (Kd.S_reads' HO1545.out).2.1); rintro e w' ⟨rfl, ⟨nd, rfl⟩⟩; refine ⟨_, rfl, ?_⟩) | ((with_reducible refine gate_callee (f := 23) rfl ?_); refine goesL_ (some 75) rfl rfl Try.func23 (by kernel_rfl) rfl #[.agg #[.slice A0_0 l0_0.length c0_0, .slice A0_1 l0_1.length c0_1, .slice A0_2 l0_2.length c0_2]] rfl z1 ?_; (with_reducible refine (laws_toChain.calls k _ _ l0_0 _ _ l0_1 _ _ l0_2 t1565 t1568 t1571 _ ?side1 ?side2 ?side3 ?side4 ?side5 ?side6 A75.out).mono ?_); (case side1 => repeat (first | exact (Kd.C_below HR0_0.out HB.out) | (with_reducible refine Kd.C_alloc ?_ _) | (with_reducible refine Kd.C_drewN ?_ _) | (with_reducible refine Kd.C_drew ?_))); (case side2 => exact HC0_0.out); (case side3 => repeat (first | exact (Kd.C_below HR0_1.out HB.out) | (with_reducible refine Kd.C_alloc ?_ _) | (with_reducible refine Kd.C_drewN ?_ _) | (with_reducible refine Kd.C_drew ?_))); (case side4 => exact HC0_1.out); (case side5 => repeat (first | exact (Kd.C_below HR0_2.out HB.out) | (with_reducible refine Kd.C_alloc ?_ _) | (with_reducible refine Kd.C_drewN ?_ _) | (with_reducible refine Kd.C_drew ?_))); (case side6 => exact HC0_2.out); rintro e wt ⟨vt0, vt1, vt2, rfl, ho0, ho1, ho2, hb⟩; refine ⟨_, rfl, ?_⟩; have n0_ := Aside0.mk (Kd.S_below z35 hb); have n1_ := Aside0.mk (below_step z21 hb); clear HO1545 HB BK1532; have HO1545 := n0_; have HB := n1_; clear n0_ n1_ hb; obtain ⟨At0, ct0, et0⟩ := Kd.R_slice ho0; subst et0; obtain ⟨At1, ct1, et1⟩ := Kd.R_slice ho1; subst et1; obtain ⟨At2, ct2, et2⟩ := Kd.R_slice ho2; subst et2; have HT0 := Aside0.mk ho0; have HT1 := Aside0.mk ho1; have HT2 := Aside0.mk ho2; clear ho0 ho1 ho2) | ((with_reducible refine gate_callee (f := 17) rfl ?_); refine goesL_ (some 76) rfl rfl Try.func17 (by kernel_rfl) rfl #[.agg #[.slice At0 t1565.length ct0, .slice At1 t1568.length ct1, .slice At2 t1571.length ct2]] rfl z1 ?_; (with_reducible refine (impl_StagewisePlan.calls k (fun k_ => some k_ = (.slice At0 t1565.length ct0 : Value).ownBlock) _ _ t1565 _ _ t1568 _ _ t1571 t1574 t1577 _ ?side1 ?side2 ?side3 ?side4 ?side5 A76.out).mono ?_); (case side1 => exact Kd.R_V (Kd.R_tight rfl HT0.out)); (case side2 => repeat (first | exact (Kd.R_reads' HT1.out).2.2 | (with_reducible refine Kd.C_alloc ?_ _) | (with_reducible refine Kd.C_drewN ?_ _) | (with_reducible refine Kd.C_drew ?_))); (case side3 => exact (Kd.R_reads' HT1.out).2.1); (case side4 => repeat (first | exact (Kd.R_reads' HT2.out).2.2 | (with_reducible refine Kd.C_alloc ?_ _) | (with_reducible refine Kd.C_drewN ?_ _) | (with_reducible refine Kd.C_drew ?_))); (case side5 => exact (Kd.R_reads' HT2.out).2.1); rintro e wh ⟨vh, rfl, ho, hb⟩; refine ⟨_, rfl, ?_⟩; have n0_ := Aside0.mk (Kd.S_below z35 hb); have n1_ := Aside0.mk (below_step z21 hb); clear HO1545 HB HT0 HT1 HT2; have HO1545 := n0_; have HB := n1_; clear n0_ n1_ hb; obtain ⟨Ah, ch, eh⟩ := Kd.S_slice ho; subst eh; have HH := Aside0.mk ho; clear ho) | ((with_reducible refine gate_callee (f := 25) rfl ?_); refine goesL_ (some 81) rfl rfl Try.func25 (by kernel_rfl) rfl #[.slice Ah t1574.length ch, .slice A1 l1.length c1] rfl z1 ?_; (with_reducible refine (laws_eqIntSS.calls k _ _ t1574 _ _ l1 true _ ?side1 ?side2 ?side3 ?side4 A77.out).mono ?_); (case side1 => repeat (first | exact (Kd.S_reads' HH.out).2.2 | (with_reducible refine Kd.C_alloc ?_ _) | (with_reducible refine Kd.C_drewN ?_ _) | (with_reducible refine Kd.C_drew ?_))); (case side2 => exact (Kd.S_reads' HH.out).2.1); (case side3 => repeat (first | exact (Kd.C_below HR1.out HB.out) | (with_reducible refine Kd.C_alloc ?_ _) | (with_reducible refine Kd.C_drewN ?_ _) | (with_reducible refine Kd.C_drew ?_))); (case side4 => exact HC1.out); rintro e w' ⟨rfl, ⟨nd, rfl⟩⟩; refine ⟨_, rfl, ?_⟩) | ((with_reducible refine gate_callee (f := 28) rfl ?_); refine goesL_ (some 90) rfl rfl Try.func28 (by kernel_rfl) rfl #[.slice Ao151 tM.length co151, .int .i64 1] rfl z1 ?_; (with_reducible refine (laws_heldIntSS.calls k _ _ tM 1 t1579 _ ?side1 ?side2 A108.out).mono ?_); (case side1 => repeat (first | exact (Kd.S_reads' HO1545.out).2.2 | (with_reducible refine Kd.C_alloc ?_ _) | (with_reducible refine Kd.C_drewN ?_ _) | (with_reducible refine Kd.C_drew ?_))); (case side2 => exact (Kd.S_reads' HO1545.out).2.1); rintro e w' ⟨rfl, ⟨nd, rfl⟩⟩; refine ⟨_, rfl, ?_⟩))
  go_ret
  exact ⟨by first | rfl | (simp; done) | (simp [*]; done), below_step HBO.out z21⟩
end Go.Proofs.Ythlmmcmpllgflaa.P
namespace Go.Proofs.Ythlmmcmpllgflaa.P
open Go.RowKit Go.Proofs.YthlmmcmpllgflaaW.PrintWords Go.Proofs.YthlmmcmpllgflaaW.PrintLast Go.Proofs.YthlmmcmpllgflaaW.PrintMore ChainMath
theorem stagewise_calls (A0_0 : Option Addr) (c0_0 : Nat) (l0_0 : List Int) (A0_1 : Option Addr) (c0_1 : Nat) (l0_1 : List Int) (A0_2 : Option Addr) (c0_2 : Nat) (l0_2 : List Int) (w : World) (hr0_0 : Kd.C (Kd.int .i64) w A0_0 l0_0.length l0_0) (hc0_0 : l0_0.length ≤ c0_0) (hr0_1 : Kd.C (Kd.int .i64) w A0_1 l0_1.length l0_1) (hc0_1 : l0_1.length ≤ c0_1) (hr0_2 : Kd.C (Kd.int .i64) w A0_2 l0_2.length l0_2) (hc0_2 : l0_2.length ≤ c0_2)
    (ha : l0_0.length ≤ 9223372036854775807) (hb : l0_1.length ≤ 9223372036854775807) (hc : l0_2.length ≤ 9223372036854775807) :
    Calls Try.prog 5 #[.agg #[.slice A0_0 l0_0.length c0_0, .slice A0_1 l0_1.length c0_1, .slice A0_2 l0_2.length c0_2]] w fun e w' => e = .returned (.bool true) ∧ Below w.heap.size w w' := by
  obtain ⟨sz, h1, h2⟩ := szChain_ev l0_0 l0_1 l0_2 ha hb hc
  by_cases hs : sz < 0
  · exact laws_FnExactStagewisePlan.early A0_0 c0_0 l0_0 A0_1 c0_1 l0_1 A0_2 c0_2 l0_2 sz w hr0_0 hc0_0 hr0_1 hc0_1 hr0_2 hc0_2 h1 hs
  · obtain ⟨b1, b2, b3⟩ := h2 (by omega)
    obtain ⟨R1, R2⟩ := staged_rows l0_0 l0_1 l0_2
    have R2' : ∀ r ∈ (staged l0_0 l0_1 l0_2).1, r.length ≤ 1000 := fun r hr => Nat.le_trans (R2 r hr) (by omega)
    obtain ⟨K1, e1⟩ := toChain_ev l0_0 l0_1 l0_2 (by omega) (by omega) (by omega)
    obtain ⟨K2, e2⟩ := stagedS_ev l0_0 l0_1 l0_2 (by omega) (by omega) (by omega)
    obtain ⟨K3, e3⟩ := stagedI_ev l0_0 l0_1 l0_2 (by omega) (by omega) (by omega)
    obtain ⟨K4, e4⟩ := eqIntSS_self (staged l0_0 l0_1 l0_2).1 R2' (by omega)
    obtain ⟨K5, e5⟩ := eqChain_self l0_0 l0_1 l0_2 (by omega) (by omega) (by omega)
    obtain ⟨⟨m1, m2, m3, m4⟩, ⟨K6, e6⟩, hm⟩ := markChain_ev l0_0 l0_1 l0_2 b1 b2 b3
    obtain ⟨K7, e7⟩ := markIntSS_ev (staged l0_0 l0_1 l0_2).1 R2' (by omega)
    obtain ⟨K8, e8⟩ := heldIntSS_ev (staged l0_0 l0_1 l0_2).1 R2' (by omega)
    have hmt := mtot_bound (staged l0_0 l0_1 l0_2).1 R2'
    obtain ⟨K, hK⟩ : ∃ K, K = K1 + K2 + K3 + K4 + K5 + K6 + K7 + K8 := ⟨_, rfl⟩
    have f1 := e1 K (by omega); have f2 := e2 K (by omega); have f3 := e3 K (by omega); have f4 := e4 K (by omega)
    have f5 := e5 K (by omega); have f6 := e6 K (by omega); have f7 := e7 K (by omega); have f8 := e8 K (by omega)
    exact laws_FnExactStagewisePlan.good K A0_0 c0_0 l0_0 A0_1 c0_1 l0_1 A0_2 c0_2 l0_2 sz m1 (1 + mtot (staged l0_0 l0_1 l0_2).1) (1 + mtot (staged l0_0 l0_1 l0_2).1) (1 + mtot (staged l0_0 l0_1 l0_2).1)
      l0_0 l0_1 l0_2 l0_0 l0_1 l0_2 m2 m3 m4 l0_0 l0_1 l0_2 l0_0 l0_1 l0_2 (staged l0_0 l0_1 l0_2).1 (staged l0_0 l0_1 l0_2).1 (staged l0_0 l0_1 l0_2).1 (marked (staged l0_0 l0_1 l0_2).1 1) (staged l0_0 l0_1 l0_2).2 (staged l0_0 l0_1 l0_2).2 (staged l0_0 l0_1 l0_2).2
      w hr0_0 hc0_0 hr0_1 hc0_1 hr0_2 hc0_2 h1 hs f1 f2 f1 f3 f4 f1 f5 f6 f4 f7 f8 f1 f3 f4 f8 (by simp) (by dsimp only at hm; omega) (by omega) rfl (by simp) (by omega) rfl
end Go.Proofs.Ythlmmcmpllgflaa.P
namespace Go.Proofs.Ythlmmcmpllgflaa.fnExactStagewisePlan
open Go.ChangeShapes Go.WideShapes Go.ChangeAt Go.RowKit Go.Joins
open Go.ChangeMaps (open_string shut_string)
open Go.Proofs.YthlmmcmpllgflaaW.PrintWords
set_option linter.unusedVariables false
theorem own : ownKnob Try.prog.godebug = none := by kernel_rfl
theorem laidOut : laidOutB Try.prog = true := by kernel_rfl
def IsRow (k : IntKind) (w : World) (a : Option Addr) (len cap : Nat) (zs : List Int) : Prop :=
  (a = none ∧ len = 0 ∧ cap = 0 ∧ zs = []) ∨
  ∃ x, a = some x ∧ len ≤ cap ∧ cap ≤ maxLen ∧ zs.length = cap ∧ (∀ i, i < zs.length → w.cell? (x.add i) = some (.int k (zs.getD i 0))) ∧ ∀ n ∈ zs, (Lit.int k n).wf = true
theorem open_field {H : Type} {enc : TypeId × Value → H} {W : World} {n : Nat} {v : Value} {y : DataW H × List MemPlace}
    (h : DataW.trod enc Try.prog W 0 (fun _ => true) true n 24 [v] = some y) :
    ∃ a len cap l, v = .slice a len cap ∧ len = List.length l ∧ ReadsInt W .i64 a l.length l ∧ l.length ≤ maxLen ∧ l.length ≤ cap := by
  rcases open_ints Try.underlying24 Try.underlying3 (by kernel_rfl) h with ⟨hcs, _⟩ | ⟨x, l, c, zs, hcs, _, hl, hm, hz, _, hcell, hwz⟩
  · simp at hcs; subst hcs
    obtain ⟨l, e, h1, h2, _, h4⟩ := ReadsInt.ofRowC (k := .i64) (w := W) (a := none) (len := 0) (cap := 0) (zs := []) (.inl ⟨rfl, rfl, rfl, rfl⟩)
    exact ⟨_, _, _, l, rfl, e, h1, h2, h4⟩
  · simp at hcs; subst hcs
    obtain ⟨r, e, h1, h2, _, h4⟩ := ReadsInt.ofRowC (k := .i64) (w := W) (a := some x) (len := l) (cap := c) (zs := zs) (.inr ⟨_, rfl, hl, hm, by simpa using hz, hcell, hwz⟩)
    exact ⟨_, _, _, r, rfl, e, h1, h2, h4⟩
set_option maxRecDepth 100000 in
theorem lifted (os : Os) (started : os.Started) (H : Type) (enc : TypeId × Value → H) :
    ReturnsInHanded {} Try.checked os 5 .any (Rows.fnExactStagewisePlanSpec.pre6 enc Try.prog Try.f5 Rows.fnExactStagewisePlanRow.domain false) (Rows.fnExactStagewisePlanSpec.post enc Try.prog Try.f5 false true false false) := by
  refine returnsInHanded_of_change_sized (C := Try.checked) own started (by kernel_rfl) Try.func5
    (ChangeSpec.witness6 (enc := enc) (C := Try.checked) false ⟨#[], #[.agg #[.slice none 0 0, .slice none 0 0, .slice none 0 0]], []⟩ 8 (by kernel_rfl) (by kernel_rfl) (by kernel_rfl) (by kernel_rfl)) ?_
  intro W base args ds gs before hval0 hW hcnd hsz0 _
  have hval : ∀ (j : Nat) t v, Try.f5.params[j]? = some t → args[j]? = some v → Value.okWide Try.prog W .any base t v := hval0
  have hW' := hW
  obtain ⟨p, q, hA0, hV, rfl, hfz, hnd⟩ := hW
  have hA : DataW.TrodAll enc Try.prog W 0 (fun _ => true) true Try.f5.params.toList args.toList ds p := hA0
  rw [Try.params5] at hA hval
  obtain ⟨v0, vs0, d0, ds0, p0, q0, hargs, rfl, rfl, h0, r0⟩ := trodAll_cons hA
  obtain ⟨rfl, rfl, rfl⟩ := trodAll_nil r0
  obtain rfl : args = #[v0] := by cases args; simp_all
  obtain ⟨rfl, rfl⟩ := trodVars_none hV
  have k0 := h0
  have lt0 : ∀ x ∈ p0, x.block < W.heap.size := by obtain ⟨m, hm⟩ := k0; exact DataW.trod_lt m _ _ _ hm
  obtain ⟨c0, c1, c2, y0, y1, y2, m, rfl, rfl, rfl, hy0, hy1, hy2⟩ := open_agg3 Try.underlying39 (by kernel_rfl) (by kernel_rfl) (hval 0 39 v0 rfl rfl) h0
  obtain ⟨a0, len0, cap0, l0, rfl, rfl, hr0, hm0, hc0⟩ := open_field hy0
  obtain ⟨a1, len1, cap1, l1, rfl, rfl, hr1, hm1, hc1⟩ := open_field hy1
  obtain ⟨a2, len2, cap2, l2, rfl, rfl, hr2, hm2, hc2⟩ := open_field hy2
  clear hA0 hval0 hsz0
  refine (P.stagewise_calls _ _ l0 _ _ l1 _ _ l2 W (Kd.C_of_reads (d := (0 : Int)) (h1 := fun _ => rfl) hr0) hc0 (Kd.C_of_reads (d := (0 : Int)) (h1 := fun _ => rfl) hr1) hc1 (Kd.C_of_reads (d := (0 : Int)) (h1 := fun _ => rfl) hr2) hc2 (by simpa [maxLen] using hm0) (by simpa [maxLen] using hm1) (by simpa [maxLen] using hm2)).mono fun e W' ⟨he, bel⟩ => ?_
  subst he
  exact ⟨_, rfl, _, _, _, [], _, [], hW', trodAll_mk1 (shut_bool Try.underlying4 _), (trodAll_cons_mk (Below.trod laidOut (by kernel_rfl) (of_decide_eq_true (by kernel_rfl)) k0 bel lt0) trodAll_mk0), rfl, bel.frame _, fun h => by cases h⟩
theorem over : Rows.fnExactStagewisePlanRow.holds Try.pinned (OpenSpec.ofChange Rows.fnExactStagewisePlanSpec) :=
  OpenClaim.holds_of_wide 5 Try.f5 rfl rfl rfl rfl rfl rfl rfl ⟨rfl, rfl, rfl, rfl, rfl⟩ rfl rfl rfl rfl rfl (by kernel_rfl) Try.func5 (by kernel_rfl)
    (of_decide_eq_true (by kernel_rfl)) (by unfold Func.isWrapper; first | (rw [if_pos (by decide +kernel)]; kernel_rfl) | (rw [if_neg (by decide +kernel)]; exact ⟨rfl, rfl⟩))
    (fun os started H enc _ => lifted os started H enc)
theorem proved : Rows.FnExactStagewisePlanSaid := over
#print axioms proved
end Go.Proofs.Ythlmmcmpllgflaa.fnExactStagewisePlan
namespace Go.Proofs.Ythlmmcmpllgflaa
theorem fnExactStagewisePlan_holds : Rows.FnExactStagewisePlanSaid := fnExactStagewisePlan.proved
end Go.Proofs.Ythlmmcmpllgflaa
