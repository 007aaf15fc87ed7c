/- The law FnExactBestNested: for every chain the program and the reference find the same nested order periods, which leave the arguments as they are and share no memory; no condition. -/
import Derived.Test.YthlmmcmpllgflaaR4g
import Derived.Test.YthlmmcmpllgflaaRows
import Derived.WalkKit
import Derived.ProofKit
import Derived.OpenShut
import Derived.ShutString
import Derived.ChangeOld
import Derived.Below
import Derived.SizedLaws
import Derived.Lib.SmallJoins
namespace Go.Proofs.Ythlmmcmpllgflaa.P
open Go.RowKit Go.Proofs.YthlmmcmpllgflaaW.PrintWords Go.Proofs.YthlmmcmpllgflaaW.PrintLast Go.Proofs.YthlmmcmpllgflaaW.PrintMore
attribute [local go_sem] max2_int min2_int max_two min_two max_three min_three max_four min_four
set_option linter.unusedVariables false
set_option linter.unusedSimpArgs false
set_option maxHeartbeats 8000000 in
set_option maxRecDepth 100000 in
theorem laws_FnExactBestNested.early (A0_0 : Option Addr) (c0_0 : Nat) (l0_0 : List Int) (A0_1 : Option Addr) (c0_1 : Nat) (l0_1 : List Int) (A0_2 : Option Addr) (c0_2 : Nat) (l0_2 : List Int) (sz : Int) (w : World) (hr0_0 : Kd.C (Kd.int .i64) w A0_0 l0_0.length l0_0) (hc0_0 : l0_0.length ≤ c0_0) (hr0_1 : Kd.C (Kd.int .i64) w A0_1 l0_1.length l0_1) (hc0_1 : l0_1.length ≤ c0_1) (hr0_2 : Kd.C (Kd.int .i64) w A0_2 l0_2.length l0_2) (hc0_2 : l0_2.length ≤ c0_2) (hsz : laws_szChain.f l0_0 l0_1 l0_2 1048576 = some sz) (hsc : sz < 0) :
    Calls Try.prog 6 #[.agg #[.slice A0_0 l0_0.length c0_0, .slice A0_1 l0_1.length c0_1, .slice A0_2 l0_2.length c0_2]] w fun e w' => e = .returned (.bool true) ∧ Below w.heap.size w w' := by
  have hu39 := Try.underlying39
  have HR0_0 := Aside0.mk hr0_0
  have HC0_0 := Aside0.mk hc0_0
  clear hr0_0 hc0_0
  have HR0_1 := Aside0.mk hr0_1
  have HC0_1 := Aside0.mk hc0_1
  clear hr0_1 hc0_1
  have HR0_2 := Aside0.mk hr0_2
  have HC0_2 := Aside0.mk hc0_2
  clear hr0_2 hc0_2
  have HB := Aside0.mk (Below.refl w.heap.size w)
  have hscb : decide (sz < 0) = true := decide_eq_true hsc
  clear hsc
  have ASZ := Aside0.mk hsz
  clear hsz
  go_enter Try.func6, Try.ntmps6
  go_wp2_with (first | ((with_reducible refine gate_dst (N := 1) rfl ?_); refine box_event ?hg (N := 1) ?hd (cs := #[.slice A0_0 l0_0.length c0_0, .slice A0_1 l0_1.length c0_1, .slice A0_2 l0_2.length c0_2]) (t := 39) ?hr ?_; (case hd => rfl); (case hg => rfl); (case hr => first | (go_simp; done) | (go_simp; rfl)); intro gb1251 hg wp12 hbox hb; have BK1251 := Aside0.mk (hbox); have GW1251 := Aside0.mk ((z6 : w.heap.size ≤ gb1251)); have GE1251 := Aside0.mk ((z6 : w.heap.size ≤ gb1251)); replace HB := zs0 hb; clear hb hbox hg; obtain ⟨hcz13_0, hcz13_1, hcz13_2, hfz13_0, hfz13_1, hfz13_2⟩ := zc3 BK1251.out) | ((with_reducible refine gate_callee (f := 22) rfl ?_); refine goesL_ (some 16) rfl rfl Try.func22 (by kernel_rfl) rfl #[.agg #[.slice A0_0 l0_0.length c0_0, .slice A0_1 l0_1.length c0_1, .slice A0_2 l0_2.length c0_2], .int .i64 1048576] rfl z2 ?_; (with_reducible refine (laws_szChain.calls _ _ l0_0 _ _ l0_1 _ _ l0_2 1048576 sz _ ?side1 ?side2 ?side3 ?side4 ?side5 ?side6 ASZ.out).mono ?_); (case side1 => exact zC (Kd.C_below HR0_0.out HB.out)); (case side2 => exact HC0_0.out); (case side3 => exact zC (Kd.C_below HR0_1.out HB.out)); (case side4 => exact HC0_1.out); (case side5 => exact zC (Kd.C_below HR0_2.out HB.out)); (case side6 => exact HC0_2.out); rintro e wp14 ⟨rfl, hb⟩; refine ⟨_, rfl, ?_⟩; replace BK1251 := zb BK1251 hb; replace HB := zs1 GE1251.out hb; (try clear hb); (try clear hb2); (try clear hk); (try clear hi); obtain ⟨hcz15_0, hcz15_1, hcz15_2, hfz15_0, hfz15_1, hfz15_2⟩ := zc3 BK1251.out))
  go_ret
  exact ⟨z3, zH0⟩
set_option maxHeartbeats 8000000 in
set_option maxRecDepth 100000 in
theorem laws_FnExactBestNested.good (k : Nat) (A0_0 : Option Addr) (c0_0 : Nat) (l0_0 : List Int) (A0_1 : Option Addr) (c0_1 : Nat) (l0_1 : List Int) (A0_2 : Option Addr) (c0_2 : Nat) (l0_2 : List Int) (sz : Int) (t1277 t1282 t1283 t1298 : Int) (t1252 t1255 t1258 t1267 t1270 t1273 t1278 t1279 t1280 t1284 t1287 t1290 p1 p2 p3 : List Int) (t1262 t1293 l1 tM : List (List Int)) (t1265 t1296 a2 : Bool) (w : World) (hr0_0 : Kd.C (Kd.int .i64) w A0_0 l0_0.length l0_0) (hc0_0 : l0_0.length ≤ c0_0) (hr0_1 : Kd.C (Kd.int .i64) w A0_1 l0_1.length l0_1) (hc0_1 : l0_1.length ≤ c0_1) (hr0_2 : Kd.C (Kd.int .i64) w A0_2 l0_2.length l0_2) (hc0_2 : l0_2.length ≤ c0_2)
    (hsz : laws_szChain.f l0_0 l0_1 l0_2 1048576 = some sz) (hsc : ¬ sz < 0)
    (hP1 : laws_toChain.f k l0_0 l0_1 l0_2 = some (p1, p2, p3))
    (hP2 : spec_BestNested.f k p1 p2 p3 = some (l1, a2))
    (hA4 : laws_toChain.f k l0_0 l0_1 l0_2 = some (t1252, t1255, t1258))
    (hA5 : impl_BestNested.f k t1252 t1255 t1258 = some (t1262, t1265))
    (hA6 : laws_eqIntSS.f k t1262 l1 = some true)
    (hA20 : laws_toChain.f k l0_0 l0_1 l0_2 = some (t1267, t1270, t1273))
    (hA21 : laws_eqChain.f k t1252 t1255 t1258 t1267 t1270 t1273 = some true)
    (hA23 : laws_markChain.f k t1252 t1255 t1258 1 = some (t1277, t1278, t1279, t1280))
    (hA44 : laws_eqIntSS.f k t1262 l1 = some true)
    (hA46 : laws_markIntSS.f k t1262 1 = some (t1282, tM))
    (hA47 : laws_heldIntSS.f k tM 1 = some t1283)
    (hA69 : laws_toChain.f k l0_0 l0_1 l0_2 = some (t1284, t1287, t1290))
    (hA70 : impl_BestNested.f k t1284 t1287 t1290 = some (t1293, t1296))
    (hA71 : laws_eqIntSS.f k t1293 l1 = some true)
    (hA100 : laws_heldIntSS.f k tM 1 = some t1298)
    (c8 : ¬ ((t1265 != a2) = true)) (c24 : ¬ (t1277 < 0)) (c48 : ¬ (t1283 < 0)) (c68 : t1283 = t1282) (c73 : ¬ ((t1296 != a2) = true)) (c101 : ¬ (t1298 < 0)) (c128 : t1298 = t1282) :
    Calls Try.prog 6 #[.agg #[.slice A0_0 l0_0.length c0_0, .slice A0_1 l0_1.length c0_1, .slice A0_2 l0_2.length c0_2]] w fun e w' => e = .returned (.bool true) ∧ Below w.heap.size w w' := by
  have hu39 := Try.underlying39
  have hu26 := Try.underlying26
  have HR0_0 := Aside0.mk hr0_0
  have HC0_0 := Aside0.mk hc0_0
  clear hr0_0 hc0_0
  have HR0_1 := Aside0.mk hr0_1
  have HC0_1 := Aside0.mk hc0_1
  clear hr0_1 hc0_1
  have HR0_2 := Aside0.mk hr0_2
  have HC0_2 := Aside0.mk hc0_2
  clear hr0_2 hc0_2
  have HB := Aside0.mk (Below.refl w.heap.size w)
  have hscb : decide (sz < 0) = false := decide_eq_false hsc
  clear hsc
  have ASZ := Aside0.mk hsz
  clear hsz
  have AP1 := Aside0.mk hP1
  clear hP1
  have AP2 := Aside0.mk hP2
  clear hP2
  have A4 := Aside0.mk hA4
  clear hA4
  have A5 := Aside0.mk hA5
  clear hA5
  have A6 := Aside0.mk hA6
  clear hA6
  have A20 := Aside0.mk hA20
  clear hA20
  have A21 := Aside0.mk hA21
  clear hA21
  have A23 := Aside0.mk hA23
  clear hA23
  have A44 := Aside0.mk hA44
  clear hA44
  have A46 := Aside0.mk hA46
  clear hA46
  have A47 := Aside0.mk hA47
  clear hA47
  have A69 := Aside0.mk hA69
  clear hA69
  have A70 := Aside0.mk hA70
  clear hA70
  have A71 := Aside0.mk hA71
  clear hA71
  have A100 := Aside0.mk hA100
  clear hA100
  have c8b0 : (t1265 != a2) = false := by simpa using c8
  (try (have c8b1 : decide (t1265 = a2) = true := by simpa using c8))
  (try (have c8b2 : (t1265 == a2) = true := by simpa using c8))
  have c24b0 : decide (t1277 < 0) = false := decide_eq_false c24
  have c48b0 : decide (t1283 < 0) = false := decide_eq_false c48
  have c68b0 : (t1283 == t1282) = true := beq_iff_eq.mpr c68
  have c68b1 : (t1283 != t1282) = false := bne_eq_false_iff_eq.mpr c68
  have c73b0 : (t1296 != a2) = false := by simpa using c73
  (try (have c73b1 : decide (t1296 = a2) = true := by simpa using c73))
  (try (have c73b2 : (t1296 == a2) = true := by simpa using c73))
  have c101b0 : decide (t1298 < 0) = false := decide_eq_false c101
  have c128b0 : (t1298 == t1282) = true := beq_iff_eq.mpr c128
  have c128b1 : (t1298 != t1282) = false := bne_eq_false_iff_eq.mpr c128
  clear c8
  clear c24
  clear c48
  clear c68
  clear c73
  clear c101
  clear c128
  go_enter Try.func6, Try.ntmps6
  go_wp2_with (first | ((with_reducible refine gate_dst (N := 1) rfl ?_); refine box_event ?hg (N := 1) ?hd (cs := #[.slice A0_0 l0_0.length c0_0, .slice A0_1 l0_1.length c0_1, .slice A0_2 l0_2.length c0_2]) (t := 39) ?hr ?_; (case hd => rfl); (case hg => rfl); (case hr => first | (go_simp; done) | (go_simp; rfl)); intro gb1251 hg wp12 hbox hb; have n0_ := Aside0.mk (below_step z22 hb); have n1_ := Aside0.mk (hbox); have n2_ := Aside0.mk ((by rw [hg]; exact (below_size z22) : w.heap.size ≤ gb1251)); have n3_ := Aside0.mk ((by rw [hg]; exact (below_size z22) : w.heap.size ≤ gb1251)); clear HB; have HB := n0_; have BK1251 := n1_; have GW1251 := n2_; have GE1251 := n3_; clear n0_ n1_ n2_ n3_; clear hb hbox hg; have hcz13_0 : wp12.cell? ⟨gb1251, 0, none⟩ = some (.slice A0_0 l0_0.length c0_0) := (blk_cell BK1251.out 0).trans rfl; have hcz13_1 : wp12.cell? ⟨gb1251, 1, none⟩ = some (.slice A0_1 l0_1.length c0_1) := (blk_cell BK1251.out 1).trans rfl; have hcz13_2 : wp12.cell? ⟨gb1251, 2, none⟩ = some (.slice A0_2 l0_2.length c0_2) := (blk_cell BK1251.out 2).trans rfl; have hfz13_0 := blk_frozen BK1251.out 0; have hfz13_1 := blk_frozen BK1251.out 1; have hfz13_2 := blk_frozen BK1251.out 2) | ((with_reducible refine gate_callee (f := 22) rfl ?_); refine goesL_ (some 16) rfl rfl Try.func22 (by kernel_rfl) rfl #[.agg #[.slice A0_0 l0_0.length c0_0, .slice A0_1 l0_1.length c0_1, .slice A0_2 l0_2.length c0_2], .int .i64 1048576] rfl z2 ?_; (with_reducible refine (laws_szChain.calls _ _ l0_0 _ _ l0_1 _ _ l0_2 1048576 sz _ ?side1 ?side2 ?side3 ?side4 ?side5 ?side6 ASZ.out).mono ?_); (case side1 => repeat (first | exact (Kd.C_below HR0_0.out HB.out) | (with_reducible refine Kd.C_alloc ?_ _) | (with_reducible refine Kd.C_drewN ?_ _) | (with_reducible refine Kd.C_drew ?_))); (case side2 => exact HC0_0.out); (case side3 => repeat (first | exact (Kd.C_below HR0_1.out HB.out) | (with_reducible refine Kd.C_alloc ?_ _) | (with_reducible refine Kd.C_drewN ?_ _) | (with_reducible refine Kd.C_drew ?_))); (case side4 => exact HC0_1.out); (case side5 => repeat (first | exact (Kd.C_below HR0_2.out HB.out) | (with_reducible refine Kd.C_alloc ?_ _) | (with_reducible refine Kd.C_drewN ?_ _) | (with_reducible refine Kd.C_drew ?_))); (case side6 => exact HC0_2.out); rintro e wp14 ⟨rfl, hb⟩; refine ⟨_, rfl, ?_⟩; have n0_ := Aside0.mk (blk_below (g := gb1251) (o := .cells #[.slice A0_0 l0_0.length c0_0, .slice A0_1 l0_1.length c0_1, .slice A0_2 l0_2.length c0_2] 39 (0, 0)) z11 hb); have n1_ := Aside0.mk (below_step z8 hb); clear BK1251; clear HB; have BK1251 := n0_; have HB := n1_; clear n0_ n1_; (try clear hb); (try clear hb2); (try clear hk); (try clear hi); have hcz15_0 : wp14.cell? ⟨gb1251, 0, none⟩ = some (.slice A0_0 l0_0.length c0_0) := (blk_cell BK1251.out 0).trans rfl; have hcz15_1 : wp14.cell? ⟨gb1251, 1, none⟩ = some (.slice A0_1 l0_1.length c0_1) := (blk_cell BK1251.out 1).trans rfl; have hcz15_2 : wp14.cell? ⟨gb1251, 2, none⟩ = some (.slice A0_2 l0_2.length c0_2) := (blk_cell BK1251.out 2).trans rfl; have hfz15_0 := blk_frozen BK1251.out 0; have hfz15_1 := blk_frozen BK1251.out 1; have hfz15_2 := blk_frozen BK1251.out 2) | ((with_reducible refine gate_callee (f := 23) rfl ?_); refine goesL_ (some 21) rfl rfl Try.func23 (by kernel_rfl) rfl #[.agg #[.slice A0_0 l0_0.length c0_0, .slice A0_1 l0_1.length c0_1, .slice A0_2 l0_2.length c0_2]] rfl z2 ?_; (with_reducible refine (laws_toChain.calls k _ _ l0_0 _ _ l0_1 _ _ l0_2 p1 p2 p3 _ ?side1 ?side2 ?side3 ?side4 ?side5 ?side6 AP1.out).mono ?_); (case side1 => repeat (first | exact (Kd.C_below HR0_0.out HB.out) | (with_reducible refine Kd.C_alloc ?_ _) | (with_reducible refine Kd.C_drewN ?_ _) | (with_reducible refine Kd.C_drew ?_))); (case side2 => exact HC0_0.out); (case side3 => repeat (first | exact (Kd.C_below HR0_1.out HB.out) | (with_reducible refine Kd.C_alloc ?_ _) | (with_reducible refine Kd.C_drewN ?_ _) | (with_reducible refine Kd.C_drew ?_))); (case side4 => exact HC0_1.out); (case side5 => repeat (first | exact (Kd.C_below HR0_2.out HB.out) | (with_reducible refine Kd.C_alloc ?_ _) | (with_reducible refine Kd.C_drewN ?_ _) | (with_reducible refine Kd.C_drew ?_))); (case side6 => exact HC0_2.out); rintro e wp16 ⟨vp1302, vp1305, vp1308, rfl, ho0, ho1, ho2, hb⟩; refine ⟨_, rfl, ?_⟩; have n0_ := Aside0.mk (Kd.R_lower ho0 (below_size z8)); have n1_ := Aside0.mk (Kd.R_lower ho1 (below_size z8)); have n2_ := Aside0.mk (Kd.R_lower ho2 (below_size z8)); have n3_ := Aside0.mk (blk_below (g := gb1251) (o := .cells #[.slice A0_0 l0_0.length c0_0, .slice A0_1 l0_1.length c0_1, .slice A0_2 l0_2.length c0_2] 39 (0, 0)) z11 hb); have n4_ := Aside0.mk (below_step z8 hb); clear BK1251; clear HB; have HOp1303 := n0_; have HOp1306 := n1_; have HOp1309 := n2_; have BK1251 := n3_; have HB := n4_; clear n0_ n1_ n2_ n3_ n4_; (try clear hb); (try clear hb2); (try clear hk); (try clear hi); (try clear ho0); (try clear ho1); (try clear ho2); obtain ⟨Aop17, cop17, eop17⟩ := Kd.R_slice HOp1303.out; subst eop17; obtain ⟨Aop18, cop18, eop18⟩ := Kd.R_slice HOp1306.out; subst eop18; obtain ⟨Aop19, cop19, eop19⟩ := Kd.R_slice HOp1309.out; subst eop19) | ((with_reducible refine gate_callee (f := 14) rfl ?_); refine goesL_ (some 22) rfl rfl Try.func14 (by kernel_rfl) rfl #[.agg #[.slice Aop17 p1.length cop17, .slice Aop18 p2.length cop18, .slice Aop19 p3.length cop19]] rfl z2 ?_; (with_reducible refine (spec_BestNested.calls k _ _ p1 _ _ p2 _ _ p3 l1 a2 _ ?side1 ?side2 ?side3 ?side4 ?side5 ?side6 AP2.out).mono ?_); (case side1 => repeat (first | exact (Kd.R_reads' HOp1303.out).2.2 | (with_reducible refine Kd.C_alloc ?_ _) | (with_reducible refine Kd.C_drewN ?_ _) | (with_reducible refine Kd.C_drew ?_))); (case side2 => exact (Kd.R_reads' HOp1303.out).2.1); (case side3 => repeat (first | exact (Kd.R_reads' HOp1306.out).2.2 | (with_reducible refine Kd.C_alloc ?_ _) | (with_reducible refine Kd.C_drewN ?_ _) | (with_reducible refine Kd.C_drew ?_))); (case side4 => exact (Kd.R_reads' HOp1306.out).2.1); (case side5 => repeat (first | exact (Kd.R_reads' HOp1309.out).2.2 | (with_reducible refine Kd.C_alloc ?_ _) | (with_reducible refine Kd.C_drewN ?_ _) | (with_reducible refine Kd.C_drew ?_))); (case side6 => exact (Kd.R_reads' HOp1309.out).2.1); rintro e wb ⟨vb, rfl, ho, hb⟩; refine ⟨_, rfl, ?_⟩; have nB_ := Aside0.mk (below_step z8 hb); have nK_ := Aside0.mk (blk_below (g := gb1251) (o := .cells #[.slice A0_0 l0_0.length c0_0, .slice A0_1 l0_1.length c0_1, .slice A0_2 l0_2.length c0_2] 39 (0, 0)) z11 hb); have nR0_ := Aside0.mk (Kd.C_below HR0_0.out nB_.out); have nR1_ := Aside0.mk (Kd.C_below HR0_1.out nB_.out); have nR2_ := Aside0.mk (Kd.C_below HR0_2.out nB_.out); obtain ⟨A1, c1, eb_⟩ := Kd.S_slice ho; subst eb_; have HR1 := Aside0.mk (Kd.S_reads' ho).2.2; have HC1 := Aside0.mk (Kd.S_reads' ho).2.1; clear ho hb HB; clear BK1251 GW1251 GE1251; clear HR0_0 HR0_1 HR0_2; clear HOp1303 HOp1306 HOp1309; have HBO := nB_; have BK1251 := nK_; have HR0_0 := nR0_; have HR0_1 := nR1_; have HR0_2 := nR2_; clear nB_ nK_ nR0_ nR1_ nR2_; have HB := Aside0.mk (Below.refl wb.heap.size wb); have hczb_0 : wb.cell? ⟨gb1251, 0, none⟩ = some (.slice A0_0 l0_0.length c0_0) := (blk_cell BK1251.out 0).trans rfl; have hczb_1 : wb.cell? ⟨gb1251, 1, none⟩ = some (.slice A0_1 l0_1.length c0_1) := (blk_cell BK1251.out 1).trans rfl; have hczb_2 : wb.cell? ⟨gb1251, 2, none⟩ = some (.slice A0_2 l0_2.length c0_2) := (blk_cell BK1251.out 2).trans rfl; have hfzb_0 := blk_frozen BK1251.out 0; have hfzb_1 := blk_frozen BK1251.out 1; have hfzb_2 := blk_frozen BK1251.out 2) | ((with_reducible refine gate_callee (f := 23) rfl ?_); refine goesL_ (some 26) rfl rfl Try.func23 (by kernel_rfl) rfl #[.agg #[.slice A0_0 l0_0.length c0_0, .slice A0_1 l0_1.length c0_1, .slice A0_2 l0_2.length c0_2]] rfl z2 ?_; (with_reducible refine (laws_toChain.calls k _ _ l0_0 _ _ l0_1 _ _ l0_2 t1252 t1255 t1258 _ ?side1 ?side2 ?side3 ?side4 ?side5 ?side6 A4.out).mono ?_); (case side1 => repeat (first | exact (Kd.C_below HR0_0.out HB.out) | (with_reducible refine Kd.C_alloc ?_ _) | (with_reducible refine Kd.C_drewN ?_ _) | (with_reducible refine Kd.C_drew ?_))); (case side2 => exact HC0_0.out); (case side3 => repeat (first | exact (Kd.C_below HR0_1.out HB.out) | (with_reducible refine Kd.C_alloc ?_ _) | (with_reducible refine Kd.C_drewN ?_ _) | (with_reducible refine Kd.C_drew ?_))); (case side4 => exact HC0_1.out); (case side5 => repeat (first | exact (Kd.C_below HR0_2.out HB.out) | (with_reducible refine Kd.C_alloc ?_ _) | (with_reducible refine Kd.C_drewN ?_ _) | (with_reducible refine Kd.C_drew ?_))); (case side6 => exact HC0_2.out); rintro e w131 ⟨v1253, v1256, v1259, rfl, ho0, ho1, ho2, hb⟩; refine ⟨_, rfl, ?_⟩; have n0_ := Aside0.mk (Kd.R_lower ho0 (below_size z8)); have n1_ := Aside0.mk (Kd.R_lower ho1 (below_size z8)); have n2_ := Aside0.mk (Kd.R_lower ho2 (below_size z8)); have n3_ := Aside0.mk (blk_below (g := gb1251) (o := .cells #[.slice A0_0 l0_0.length c0_0, .slice A0_1 l0_1.length c0_1, .slice A0_2 l0_2.length c0_2] 39 (0, 0)) z11 hb); have n4_ := Aside0.mk (below_step z8 hb); clear BK1251; clear HB; have HO1254 := n0_; have HO1257 := n1_; have HO1260 := n2_; have BK1251 := n3_; have HB := n4_; clear n0_ n1_ n2_ n3_ n4_; (try clear hb); (try clear hb2); (try clear hk); (try clear hi); (try clear ho0); (try clear ho1); (try clear ho2)) | ((with_reducible refine gate_dst (N := 6) rfl ?_); refine box_event ?hg (N := 6) ?hd (cs := #[.slice none 0 0, .slice none 0 0, .slice none 0 0]) (t := 26) ?hr ?_; (case hd => rfl); (case hg => rfl); (case hr => first | (go_simp; done) | (go_simp; rfl)); intro gb1261 hg w132 hbox hb; have n0_ := Aside0.mk (Kd.R_below z25 hb); have n1_ := Aside0.mk (Kd.R_below z24 hb); have n2_ := Aside0.mk (Kd.R_below z23 hb); have n3_ := Aside0.mk (blk_below (g := gb1251) (o := .cells #[.slice A0_0 l0_0.length c0_0, .slice A0_1 l0_1.length c0_1, .slice A0_2 l0_2.length c0_2] 39 (0, 0)) z11 hb); have n4_ := Aside0.mk (below_step z8 hb); have n5_ := Aside0.mk (hbox); have n6_ := Aside0.mk ((by rw [hg]; exact (below_size z8) : wb.heap.size ≤ gb1261)); have n7_ := Aside0.mk ((by rw [hg]; exact (below_size z8) : wb.heap.size ≤ gb1261)); have n8_ := Aside0.mk ((by rw [hg]; exact Nat.ne_of_lt (blk_lt (g := gb1251) (o := .cells #[.slice A0_0 l0_0.length c0_0, .slice A0_1 l0_1.length c0_1, .slice A0_2 l0_2.length c0_2] 39 (0, 0)) z11) : gb1251 ≠ gb1261)); have n9_ := Aside0.mk ((by rw [hg]; exact Nat.ne_of_gt (blk_lt (g := gb1251) (o := .cells #[.slice A0_0 l0_0.length c0_0, .slice A0_1 l0_1.length c0_1, .slice A0_2 l0_2.length c0_2] 39 (0, 0)) z11) : gb1261 ≠ gb1251)); clear HO1254; clear HO1257; clear HO1260; clear BK1251; clear HB; have HO1254 := n0_; have HO1257 := n1_; have HO1260 := n2_; have BK1251 := n3_; have HB := n4_; have BK1261 := n5_; have GW1261 := n6_; have GE1261 := n7_; have NB1251_1261 := n8_; have NB1261_1251 := n9_; clear n0_ n1_ n2_ n3_ n4_ n5_ n6_ n7_ n8_ n9_; clear hb hbox hg; obtain ⟨Ao133, co133, eo133⟩ := Kd.R_slice HO1254.out; subst eo133; have hnb134 := NB1261_1251.out; have hnc134 := NB1251_1261.out; have hcz135_0 : w132.cell? ⟨gb1261, 0, none⟩ = some (.slice none 0 0) := (blk_cell BK1261.out 0).trans rfl; have hcz135_1 : w132.cell? ⟨gb1261, 1, none⟩ = some (.slice none 0 0) := (blk_cell BK1261.out 1).trans rfl; have hcz135_2 : w132.cell? ⟨gb1261, 2, none⟩ = some (.slice none 0 0) := (blk_cell BK1261.out 2).trans rfl; have hfz135_0 := blk_frozen BK1261.out 0; have hfz135_1 := blk_frozen BK1261.out 1; have hfz135_2 := blk_frozen BK1261.out 2; obtain ⟨Ao136, co136, eo136⟩ := Kd.R_slice HO1257.out; subst eo136; obtain ⟨Ao137, co137, eo137⟩ := Kd.R_slice HO1260.out; subst eo137) | ((with_reducible refine gate_callee (f := 13) rfl ?_); refine goesL_ (some 29) rfl rfl Try.func13 (by kernel_rfl) rfl #[.agg #[.slice Ao133 t1252.length co133, .slice Ao136 t1255.length co136, .slice Ao137 t1258.length co137]] rfl z2 ?_; (with_reducible refine (impl_BestNested.calls k _ _ t1252 _ _ t1255 _ _ t1258 t1262 t1265 _ ?side1 ?side2 ?side3 ?side4 ?side5 ?side6 A5.out).mono ?_); (case side1 => refine (Kd.R_reads' (e := 3) (base := wb.heap.size) (ok := fun k_ => (some k_ ≠ (.slice Ao136 t1255.length co136 : Value).ownBlock ∧ some k_ ≠ (.slice Ao137 t1258.length co137 : Value).ownBlock)) (n := t1252.length) (c := co133) ?_).2.2; exact z17); (case side2 => exact (Kd.R_reads' HO1254.out).2.1); (case side3 => refine (Kd.R_reads' (e := 3) (base := wb.heap.size) (ok := fun k_ => (some k_ ≠ (.slice Ao133 t1252.length co133 : Value).ownBlock ∧ some k_ ≠ (.slice Ao137 t1258.length co137 : Value).ownBlock)) (n := t1255.length) (c := co136) ?_).2.2; exact z16); (case side4 => exact (Kd.R_reads' HO1257.out).2.1); (case side5 => refine (Kd.R_reads' (e := 3) (base := wb.heap.size) (ok := fun k_ => (some k_ ≠ (.slice Ao133 t1252.length co133 : Value).ownBlock ∧ some k_ ≠ (.slice Ao136 t1255.length co136 : Value).ownBlock)) (n := t1258.length) (c := co137) ?_).2.2; exact z15); (case side6 => exact (Kd.R_reads' HO1260.out).2.1); rintro e w138 ⟨v1263, rfl, ho0, hb⟩; refine ⟨_, rfl, ?_⟩; have n0_ := Aside0.mk (Kd.R_below z17 hb); have n1_ := Aside0.mk (Kd.R_below z16 hb); have n2_ := Aside0.mk (Kd.R_below z15 hb); have n3_ := Aside0.mk (Kd.S_lower (Kd.S_new' (Kd.S_new' (Kd.S_new' ho0 (Kd.R_lt z17)) (Kd.R_lt z16)) (Kd.R_lt z15)) (below_size z10)); have n4_ := Aside0.mk (blk_below (g := gb1251) (o := .cells #[.slice A0_0 l0_0.length c0_0, .slice A0_1 l0_1.length c0_1, .slice A0_2 l0_2.length c0_2] 39 (0, 0)) (by (with_reducible repeat (first | refine blk_drewN ?_ _ | refine blk_drew ?_ | refine blk_alloc ?_ _)); refine blk_far ?_ NB1251_1261.out _; (with_reducible repeat (first | refine blk_drewN ?_ _ | refine blk_drew ?_ | refine blk_alloc ?_ _)); refine blk_far ?_ NB1251_1261.out _; (with_reducible repeat (first | refine blk_drewN ?_ _ | refine blk_drew ?_ | refine blk_alloc ?_ _)); refine blk_far ?_ NB1251_1261.out _; (with_reducible repeat (first | refine blk_drewN ?_ _ | refine blk_drew ?_ | refine blk_alloc ?_ _)); exact BK1251.out) hb); have n5_ := Aside0.mk (blk_below (g := gb1261) (o := .cells #[.slice Ao133 t1252.length co133, .slice Ao136 t1255.length co136, .slice Ao137 t1258.length co137] 26 (0, 0)) (by (with_reducible repeat (first | refine blk_drewN ?_ _ | refine blk_drew ?_ | refine blk_alloc ?_ _)); refine blk_put (cs := #[.slice Ao133 t1252.length co133, .slice Ao136 t1255.length co136, .slice none 0 0]) ?_ 2 _ rfl; (with_reducible repeat (first | refine blk_drewN ?_ _ | refine blk_drew ?_ | refine blk_alloc ?_ _)); refine blk_put (cs := #[.slice Ao133 t1252.length co133, .slice none 0 0, .slice none 0 0]) ?_ 1 _ rfl; (with_reducible repeat (first | refine blk_drewN ?_ _ | refine blk_drew ?_ | refine blk_alloc ?_ _)); refine blk_put (cs := #[.slice none 0 0, .slice none 0 0, .slice none 0 0]) ?_ 0 _ rfl; (with_reducible repeat (first | refine blk_drewN ?_ _ | refine blk_drew ?_ | refine blk_alloc ?_ _)); exact BK1261.out) hb); have n6_ := Aside0.mk (below_step z10 hb); clear HO1254; clear HO1257; clear HO1260; clear BK1251; clear BK1261; clear HB; have HO1254 := n0_; have HO1257 := n1_; have HO1260 := n2_; have HO1264 := n3_; have BK1251 := n4_; have BK1261 := n5_; have HB := n6_; clear n0_ n1_ n2_ n3_ n4_ n5_ n6_; (try clear hb); (try clear hb2); (try clear hk); (try clear hi); (try clear ho0); obtain ⟨Ao139, co139, eo139⟩ := Kd.S_slice HO1264.out; subst eo139) | ((with_reducible refine gate_callee (f := 25) rfl ?_); refine goesL_ (some 34) rfl rfl Try.func25 (by kernel_rfl) rfl #[.slice Ao139 t1262.length co139, .slice A1 l1.length c1] rfl z2 ?_; (with_reducible refine (laws_eqIntSS.calls k _ _ t1262 _ _ l1 true _ ?side1 ?side2 ?side3 ?side4 A6.out).mono ?_); (case side1 => repeat (first | exact (Kd.S_reads' HO1264.out).2.2 | (with_reducible refine Kd.C_alloc ?_ _) | (with_reducible refine Kd.C_drewN ?_ _) | (with_reducible refine Kd.C_drew ?_))); (case side2 => exact (Kd.S_reads' HO1264.out).2.1); (case side3 => repeat (first | exact (Kd.C_below HR1.out HB.out) | (with_reducible refine Kd.C_alloc ?_ _) | (with_reducible refine Kd.C_drewN ?_ _) | (with_reducible refine Kd.C_drew ?_))); (case side4 => exact HC1.out); rintro e w' ⟨rfl, ⟨nd, rfl⟩⟩; refine ⟨_, rfl, ?_⟩))
  (try (rw [drewN_self w138]; generalize hq_ : World.drewN w138 _ = w138; have n0_ : Aside0 (Kd.R (Kd.int .i64) 3 w138 wb.heap.size (fun k_ => some k_ ≠ (.slice Ao136 t1255.length co136 : Value).ownBlock ∧ some k_ ≠ (.slice Ao137 t1258.length co137 : Value).ownBlock) (.slice Ao133 t1252.length co133) t1252) := ⟨by rw [← hq_]; exact z25⟩; have n1_ : Aside0 (Kd.R (Kd.int .i64) 3 w138 wb.heap.size (fun k_ => some k_ ≠ (.slice Ao133 t1252.length co133 : Value).ownBlock ∧ some k_ ≠ (.slice Ao137 t1258.length co137 : Value).ownBlock) (.slice Ao136 t1255.length co136) t1255) := ⟨by rw [← hq_]; exact z24⟩; have n2_ : Aside0 (Kd.R (Kd.int .i64) 3 w138 wb.heap.size (fun k_ => some k_ ≠ (.slice Ao133 t1252.length co133 : Value).ownBlock ∧ some k_ ≠ (.slice Ao136 t1255.length co136 : Value).ownBlock) (.slice Ao137 t1258.length co137) t1258) := ⟨by rw [← hq_]; exact z23⟩; have n3_ : Aside0 (Kd.S (Kd.slice 3 (Kd.int .i64)) 24 w138 wb.heap.size (fun k_ => some k_ ≠ (.slice Ao133 t1252.length co133 : Value).ownBlock ∧ some k_ ≠ (.slice Ao136 t1255.length co136 : Value).ownBlock ∧ some k_ ≠ (.slice Ao137 t1258.length co137 : Value).ownBlock) (.slice Ao139 t1262.length co139) t1262) := ⟨by rw [← hq_]; exact (by (with_reducible repeat (first | apply Kd.S_alloc | apply Kd.S_drewN | apply Kd.S_drew)); exact Kd.S_mono HO1264.out (fun _ hk => ⟨hk.1.1.2, ⟨hk.1.2, hk.2⟩⟩))⟩; have n4_ : Aside0 (w138.heap[gb1251]? = some (.cells #[.slice A0_0 l0_0.length c0_0, .slice A0_1 l0_1.length c0_1, .slice A0_2 l0_2.length c0_2] 39 (0, 0))) := ⟨by rw [← hq_]; exact z11⟩; have n5_ : Aside0 (w138.heap[gb1261]? = some (.cells #[.slice Ao133 t1252.length co133, .slice Ao136 t1255.length co136, .slice Ao137 t1258.length co137] 26 (0, 0))) := ⟨by rw [← hq_]; exact z48⟩; have n6_ : Aside0 (Below wb.heap.size wb w138) := ⟨by rw [← hq_]; exact z10⟩; clear HO1254 HO1257 HO1260 HO1264 BK1251 BK1261 HB hq_; have HO1254 := n0_; have HO1257 := n1_; have HO1260 := n2_; have HO1264 := n3_; have BK1251 := n4_; have BK1261 := n5_; have HB := n6_; clear n0_ n1_ n2_ n3_ n4_ n5_ n6_))
  have n0_ := Aside0.mk (Kd.R_drew HO1254.out)
  have n1_ := Aside0.mk (Kd.R_drew HO1257.out)
  have n2_ := Aside0.mk (Kd.R_drew HO1260.out)
  have n3_ := Aside0.mk (Kd.S_drew HO1264.out)
  have n4_ := Aside0.mk (blk_drew BK1251.out)
  have n5_ := Aside0.mk (blk_drew BK1261.out)
  have n6_ := Aside0.mk (below_drew1 HB.out)
  clear HO1254
  clear HO1257
  clear HO1260
  clear HO1264
  clear BK1251
  clear BK1261
  clear HB
  have HO1254 := n0_
  have HO1257 := n1_
  have HO1260 := n2_
  have HO1264 := n3_
  have BK1251 := n4_
  have BK1261 := n5_
  have HB := n6_
  clear n0_ n1_ n2_ n3_ n4_ n5_ n6_
  refine start_ (n := 5) (S := fun w' => w'.cell? ⟨gb1261, 0, none⟩ = some (.slice Ao133 t1252.length co133) ∧ w'.cell? ⟨gb1261, 1, none⟩ = some (.slice Ao136 t1255.length co136) ∧ w'.cell? ⟨gb1261, 2, none⟩ = some (.slice Ao137 t1258.length co137) ∧ w'.cell? ⟨gb1251, 0, none⟩ = some (.slice A0_0 l0_0.length c0_0) ∧ w'.cell? ⟨gb1251, 1, none⟩ = some (.slice A0_1 l0_1.length c0_1) ∧ w'.cell? ⟨gb1251, 2, none⟩ = some (.slice A0_2 l0_2.length c0_2)) (ds := []) #[false, false, false, false, false] (by kernel_rfl) rfl rfl ⟨(blk_cell BK1261.out 0).trans rfl, (blk_cell BK1261.out 1).trans rfl, (blk_cell BK1261.out 2).trans rfl, (blk_cell BK1251.out 0).trans rfl, (blk_cell BK1251.out 1).trans rfl, (blk_cell BK1251.out 2).trans rfl⟩ (fun hHeld => ?_)
  generalize w138.drew = w140 at HO1254 HO1257 HO1260 HO1264 BK1251 BK1261 HB hHeld ⊢
  refine take_ (i := 0) (N := some 41) (v := ?_) (a' := ?_) #[true, false, false, false, false] rfl rfl (by kernel_rfl) (fun _ _ _ h => h) (Or.inl ⟨by rfl, ?_⟩) hHeld ?_ ?_
  rotate_left
  · rintro w' ⟨s0, s1, s2, s3, s4, s5⟩
    go_simp
    with_reducible rfl
  rotate_left
  · simp only [Act.put, List.setIfInBounds_toArray, List.set_cons_zero, List.set_cons_succ, i64_w, i32_w]
    rfl
  refine take_ (i := 1) (N := some 42) (v := ?_) (a' := ?_) #[true, true, false, false, false] rfl rfl (by kernel_rfl) (fun _ _ _ h => h) (Or.inl ⟨by rfl, ?_⟩) hHeld ?_ ?_
  rotate_left
  · rintro w' ⟨s0, s1, s2, s3, s4, s5⟩
    go_simp
    with_reducible rfl
  rotate_left
  · simp only [Act.put, List.setIfInBounds_toArray, List.set_cons_zero, List.set_cons_succ, i64_w, i32_w]
    rfl
  refine one_ (i := 2) (N := some 43) #[true, true, true, false, false] rfl rfl (by kernel_rfl) (by decide) (fun K hK => ?_)
  refine goes_ Try.func23 (by kernel_rfl) rfl #[.agg #[.slice A0_0 l0_0.length c0_0, .slice A0_1 l0_1.length c0_1, .slice A0_2 l0_2.length c0_2]] (by rfl) rfl rfl z2 ?_
  with_reducible refine (laws_toChain.calls k _ _ l0_0 _ _ l0_1 _ _ l0_2 t1267 t1270 t1273 _ ?side1 ?side2 ?side3 ?side4 ?side5 ?side6 A20.out).mono ?_
  (case side1 => repeat (first | exact (Kd.C_below HR0_0.out HB.out) | (with_reducible refine Kd.C_alloc ?_ _) | (with_reducible refine Kd.C_drewN ?_ _) | (with_reducible refine Kd.C_drew ?_)))
  (case side2 => exact HC0_0.out)
  (case side3 => repeat (first | exact (Kd.C_below HR0_1.out HB.out) | (with_reducible refine Kd.C_alloc ?_ _) | (with_reducible refine Kd.C_drewN ?_ _) | (with_reducible refine Kd.C_drew ?_)))
  (case side4 => exact HC0_1.out)
  (case side5 => repeat (first | exact (Kd.C_below HR0_2.out HB.out) | (with_reducible refine Kd.C_alloc ?_ _) | (with_reducible refine Kd.C_drewN ?_ _) | (with_reducible refine Kd.C_drew ?_)))
  (case side6 => exact HC0_2.out)
  rintro e w141 ⟨v1268, v1271, v1274, rfl, ho0, ho1, ho2, hb⟩
  refine ⟨_, rfl, ?_⟩
  have n0_ := Aside0.mk (Kd.R_mono (Kd.R_told (Kd.R_told (Kd.R_told (Kd.R_old z25 hb) (Kd.R_base ho0)) (Kd.R_base ho1)) (Kd.R_base ho2)) (fun _ h_ => h_.1))
  have n1_ := Aside0.mk (Kd.R_mono (Kd.R_told (Kd.R_told (Kd.R_told (Kd.R_old z24 hb) (Kd.R_base ho0)) (Kd.R_base ho1)) (Kd.R_base ho2)) (fun _ h_ => h_.1))
  have n2_ := Aside0.mk (Kd.R_mono (Kd.R_told (Kd.R_told (Kd.R_told (Kd.R_old z23 hb) (Kd.R_base ho0)) (Kd.R_base ho1)) (Kd.R_base ho2)) (fun _ h_ => h_.1))
  have n3_ := Aside0.mk (Kd.S_mono (Kd.S_told (Kd.S_told (Kd.S_told (Kd.S_old z38 hb) (Kd.R_base ho0)) (Kd.R_base ho1)) (Kd.R_base ho2)) (fun _ h_ => h_.1))
  have n4_ := Aside0.mk (Kd.R_lower (Kd.R_new' (Kd.R_new' (Kd.R_new' ho0 (Kd.R_lt z25)) (Kd.R_lt z24)) (Kd.R_lt z23)) (below_size z10))
  have n5_ := Aside0.mk (Kd.R_lower (Kd.R_new' (Kd.R_new' (Kd.R_new' ho1 (Kd.R_lt z25)) (Kd.R_lt z24)) (Kd.R_lt z23)) (below_size z10))
  have n6_ := Aside0.mk (Kd.R_lower (Kd.R_new' (Kd.R_new' (Kd.R_new' ho2 (Kd.R_lt z25)) (Kd.R_lt z24)) (Kd.R_lt z23)) (below_size z10))
  have n7_ := Aside0.mk (blk_below (g := gb1251) (o := .cells #[.slice A0_0 l0_0.length c0_0, .slice A0_1 l0_1.length c0_1, .slice A0_2 l0_2.length c0_2] 39 (0, 0)) z11 hb)
  have n8_ := Aside0.mk (blk_below (g := gb1261) (o := .cells #[.slice Ao133 t1252.length co133, .slice Ao136 t1255.length co136, .slice Ao137 t1258.length co137] 26 (0, 0)) z48 hb)
  have n9_ := Aside0.mk (below_step z10 hb)
  clear HO1254
  clear HO1257
  clear HO1260
  clear HO1264
  clear BK1251
  clear BK1261
  clear HB
  have HO1254 := n0_
  have HO1257 := n1_
  have HO1260 := n2_
  have HO1264 := n3_
  have HO1269 := n4_
  have HO1272 := n5_
  have HO1275 := n6_
  have BK1251 := n7_
  have BK1261 := n8_
  have HB := n9_
  clear n0_ n1_ n2_ n3_ n4_ n5_ n6_ n7_ n8_ n9_
  (try clear hb)
  (try clear hb2)
  (try clear hk)
  (try clear hi)
  (try clear ho0)
  (try clear ho1)
  (try clear ho2)
  obtain ⟨Ao142, co142, eo142⟩ := Kd.R_slice HO1269.out
  (first | subst eo142 | (injection eo142 with f1_ f2_ f3_; have f4_ := f1_.symm; have f5_ := f3_.symm; clear f1_ f2_ f3_; subst f4_; subst f5_))
  obtain ⟨Ao143, co143, eo143⟩ := Kd.R_slice HO1272.out
  (first | subst eo143 | (injection eo143 with f1_ f2_ f3_; have f4_ := f1_.symm; have f5_ := f3_.symm; clear f1_ f2_ f3_; subst f4_; subst f5_))
  obtain ⟨Ao144, co144, eo144⟩ := Kd.R_slice HO1275.out
  (first | subst eo144 | (injection eo144 with f1_ f2_ f3_; have f4_ := f1_.symm; have f5_ := f3_.symm; clear f1_ f2_ f3_; subst f4_; subst f5_))
  refine hK.out _ _ ⟨(blk_cell BK1261.out 0).trans rfl, (blk_cell BK1261.out 1).trans rfl, (blk_cell BK1261.out 2).trans rfl, (blk_cell BK1251.out 0).trans rfl, (blk_cell BK1251.out 1).trans rfl, (blk_cell BK1251.out 2).trans rfl⟩ (fun hHeld => ?_)
  clear hK K
  refine norm_ (a' := ?_) ?_ ?_
  rotate_left
  · show Act.put _ (some 43) _ = _
    simp only [Act.put, List.setIfInBounds_toArray, List.set_cons_zero, List.set_cons_succ, i64_w, i32_w]
    rfl
  refine one_ (i := 3) (N := some 44) #[true, true, true, true, false] rfl rfl (by kernel_rfl) (by decide) (fun K hK => ?_)
  refine goes_ Try.func24 (by kernel_rfl) rfl #[.agg #[.slice Ao133 t1252.length co133, .slice Ao136 t1255.length co136, .slice Ao137 t1258.length co137], .agg #[.slice Ao142 t1267.length co142, .slice Ao143 t1270.length co143, .slice Ao144 t1273.length co144]] (by rfl) rfl rfl z2 ?_
  with_reducible refine (laws_eqChain.calls k _ _ t1252 _ _ t1255 _ _ t1258 _ _ t1267 _ _ t1270 _ _ t1273 true _ ?side1 ?side2 ?side3 ?side4 ?side5 ?side6 ?side7 ?side8 ?side9 ?side10 ?side11 ?side12 A21.out).mono ?_
  (case side1 => repeat (first | exact (Kd.R_reads' HO1254.out).2.2 | (with_reducible refine Kd.C_alloc ?_ _) | (with_reducible refine Kd.C_drewN ?_ _) | (with_reducible refine Kd.C_drew ?_)))
  (case side2 => exact (Kd.R_reads' HO1254.out).2.1)
  (case side3 => repeat (first | exact (Kd.R_reads' HO1257.out).2.2 | (with_reducible refine Kd.C_alloc ?_ _) | (with_reducible refine Kd.C_drewN ?_ _) | (with_reducible refine Kd.C_drew ?_)))
  (case side4 => exact (Kd.R_reads' HO1257.out).2.1)
  (case side5 => repeat (first | exact (Kd.R_reads' HO1260.out).2.2 | (with_reducible refine Kd.C_alloc ?_ _) | (with_reducible refine Kd.C_drewN ?_ _) | (with_reducible refine Kd.C_drew ?_)))
  (case side6 => exact (Kd.R_reads' HO1260.out).2.1)
  (case side7 => repeat (first | exact (Kd.R_reads' HO1269.out).2.2 | (with_reducible refine Kd.C_alloc ?_ _) | (with_reducible refine Kd.C_drewN ?_ _) | (with_reducible refine Kd.C_drew ?_)))
  (case side8 => exact (Kd.R_reads' HO1269.out).2.1)
  (case side9 => repeat (first | exact (Kd.R_reads' HO1272.out).2.2 | (with_reducible refine Kd.C_alloc ?_ _) | (with_reducible refine Kd.C_drewN ?_ _) | (with_reducible refine Kd.C_drew ?_)))
  (case side10 => exact (Kd.R_reads' HO1272.out).2.1)
  (case side11 => repeat (first | exact (Kd.R_reads' HO1275.out).2.2 | (with_reducible refine Kd.C_alloc ?_ _) | (with_reducible refine Kd.C_drewN ?_ _) | (with_reducible refine Kd.C_drew ?_)))
  (case side12 => exact (Kd.R_reads' HO1275.out).2.1)
  rintro e w145 ⟨rfl, hb⟩
  refine ⟨_, rfl, ?_⟩
  have n0_ := Aside0.mk (Kd.R_below z25 hb)
  have n1_ := Aside0.mk (Kd.R_below z24 hb)
  have n2_ := Aside0.mk (Kd.R_below z23 hb)
  have n3_ := Aside0.mk (Kd.S_below z38 hb)
  have n4_ := Aside0.mk (Kd.R_below (by (with_reducible repeat (first | apply Kd.R_alloc | apply Kd.R_drewN | apply Kd.R_drew)); exact HO1269.out) hb)
  have n5_ := Aside0.mk (Kd.R_below (by (with_reducible repeat (first | apply Kd.R_alloc | apply Kd.R_drewN | apply Kd.R_drew)); exact HO1272.out) hb)
  have n6_ := Aside0.mk (Kd.R_below (by (with_reducible repeat (first | apply Kd.R_alloc | apply Kd.R_drewN | apply Kd.R_drew)); exact HO1275.out) hb)
  have n7_ := Aside0.mk (blk_below (g := gb1251) (o := .cells #[.slice A0_0 l0_0.length c0_0, .slice A0_1 l0_1.length c0_1, .slice A0_2 l0_2.length c0_2] 39 (0, 0)) z11 hb)
  have n8_ := Aside0.mk (blk_below (g := gb1261) (o := .cells #[.slice Ao133 t1252.length co133, .slice Ao136 t1255.length co136, .slice Ao137 t1258.length co137] 26 (0, 0)) z48 hb)
  have n9_ := Aside0.mk (below_step z10 hb)
  clear HO1254
  clear HO1257
  clear HO1260
  clear HO1264
  clear HO1269
  clear HO1272
  clear HO1275
  clear BK1251
  clear BK1261
  clear HB
  have HO1254 := n0_
  have HO1257 := n1_
  have HO1260 := n2_
  have HO1264 := n3_
  have HO1269 := n4_
  have HO1272 := n5_
  have HO1275 := n6_
  have BK1251 := n7_
  have BK1261 := n8_
  have HB := n9_
  clear n0_ n1_ n2_ n3_ n4_ n5_ n6_ n7_ n8_ n9_
  (try clear hb)
  (try clear hb2)
  (try clear hk)
  (try clear hi)
  refine hK.out _ _ ⟨(blk_cell BK1261.out 0).trans rfl, (blk_cell BK1261.out 1).trans rfl, (blk_cell BK1261.out 2).trans rfl, (blk_cell BK1251.out 0).trans rfl, (blk_cell BK1251.out 1).trans rfl, (blk_cell BK1251.out 2).trans rfl⟩ (fun hHeld => ?_)
  clear hK K
  refine norm_ (a' := ?_) ?_ ?_
  rotate_left
  · show Act.put _ (some 44) _ = _
    simp only [Act.put, List.setIfInBounds_toArray, List.set_cons_zero, List.set_cons_succ, i64_w, i32_w]
    rfl
  refine pure_ (i := 4) (N := some 45) (v := ?_) (a' := ?_) #[true, true, true, true, true] rfl rfl (by kernel_rfl) (fun _ _ _ h => h) (Or.inl ⟨by rfl, ?_⟩) ?_ ?_
  rotate_left
  · intro w'
    go_simp
    with_reducible rfl
  rotate_left
  · simp only [Act.put, List.setIfInBounds_toArray, List.set_cons_zero, List.set_cons_succ, i64_w, i32_w]
    rfl
  refine done_ (by kernel_rfl) ?_
  have hcz146_0 : w145.cell? ⟨gb1261, 0, none⟩ = some (.slice Ao133 t1252.length co133) := (blk_cell BK1261.out 0).trans rfl
  have hcz146_1 : w145.cell? ⟨gb1261, 1, none⟩ = some (.slice Ao136 t1255.length co136) := (blk_cell BK1261.out 1).trans rfl
  have hcz146_2 : w145.cell? ⟨gb1261, 2, none⟩ = some (.slice Ao137 t1258.length co137) := (blk_cell BK1261.out 2).trans rfl
  have hfz146_0 := blk_frozen BK1261.out 0
  have hfz146_1 := blk_frozen BK1261.out 1
  have hfz146_2 := blk_frozen BK1261.out 2
  go_wp2_with (first | ((with_reducible refine gate_callee (f := 26) rfl ?_); refine goesL_ (some 48) rfl rfl Try.func26 (by kernel_rfl) rfl #[.agg #[.slice Ao133 t1252.length co133, .slice Ao136 t1255.length co136, .slice Ao137 t1258.length co137], .int .i64 1] rfl z2 ?_; (with_reducible refine (laws_markChain.calls k (fun k_ => some k_ = (.slice Ao133 t1252.length co133 : Value).ownBlock) (.slice Ao133 t1252.length co133) t1252 (fun k_ => some k_ = (.slice Ao136 t1255.length co136 : Value).ownBlock) (.slice Ao136 t1255.length co136) t1255 (fun k_ => some k_ = (.slice Ao137 t1258.length co137 : Value).ownBlock) (.slice Ao137 t1258.length co137) t1258 1 t1277 t1278 t1279 t1280 wb _ ?side1 ?side2 ?side3 ?side4 ?side5 ?side6 ?side7 ?side8 ?side9 ?side10 A23.out).mono ?_); (case side1 => repeat (first | (with_reducible first | exact HB.out | apply below_alloc | apply pw_below_drewN | apply below_drew1 | refine below_set ?_ GE1251.out | refine below_set ?_ GE1261.out) | exact HB.out)); (case side2 => exact Kd.R_tight rfl HO1254.out); (case side3 => exact fun k_ e_ => (HO1254.out.1 k_ e_.symm).1.1.1.1); (case side4 => exact fun k_ e_ => (HO1254.out.1 k_ e_.symm).1.1.1.2); (case side5 => exact Kd.R_tight rfl HO1257.out); (case side6 => exact fun k_ e_ => (HO1257.out.1 k_ e_.symm).1.1.1.1); (case side7 => exact fun k_ e_ => (HO1257.out.1 k_ e_.symm).1.1.1.2); (case side8 => exact Kd.R_tight rfl HO1260.out); (case side9 => exact fun k_ e_ => (HO1260.out.1 k_ e_.symm).1.1.1.1); (case side10 => exact fun k_ e_ => (HO1260.out.1 k_ e_.symm).1.1.1.2); rintro e w147 ⟨rfl, hy0, hy1, hy2, hb, hkp⟩; refine ⟨_, rfl, ?_⟩; have n0_ := Aside0.mk (blk_kept z11 hkp (fun hs_ => Or.elim hs_ (fun e_ => (fun e_ => (Kd.R_ne HO1254.out BK1251.out (by decide)) e_) e_) (fun e_ => Or.elim e_ (fun e_ => (fun e_ => (Kd.R_ne HO1257.out BK1251.out (by decide)) e_) e_) (fun e_ => (fun e_ => (Kd.R_ne HO1260.out BK1251.out (by decide)) e_) e_)))); have n1_ := Aside0.mk (Kd.S_kept (HO1264.out) hkp (fun k_ hk_ hs_ => by rcases hs_ with e_ | e_ | e_ <;> first | exact hk_ e_ | exact hk_.2 e_ | exact hk_.2.1 e_ | exact hk_.2.2 e_ | exact hk_.2.2.1 e_ | exact hk_.2.2.2 e_ | exact hk_.1 e_ | exact hk_.1.2 e_ | exact hk_.1.2.1 e_ | exact hk_.1.2.2 e_ | exact hk_.1.2.2.1 e_ | exact hk_.1.2.2.2 e_ | exact hk_.1.1 e_ | exact hk_.1.1.2 e_ | exact hk_.1.1.2.1 e_ | exact hk_.1.1.2.2 e_ | exact hk_.1.1.2.2.1 e_ | exact hk_.1.1.2.2.2 e_ | exact hk_.1.1.1 e_ | exact hk_.1.1.1.2 e_ | exact hk_.1.1.1.2.1 e_ | exact hk_.1.1.1.2.2 e_ | exact hk_.1.1.1.2.2.1 e_ | exact hk_.1.1.1.2.2.2 e_ | exact hk_.1.1.1.1 e_ | exact hk_.1.1.1.1.2 e_ | exact hk_.1.1.1.1.2.1 e_ | exact hk_.1.1.1.1.2.2 e_ | exact hk_.1.1.1.1.2.2.1 e_ | exact hk_.1.1.1.1.2.2.2 e_ | exact hk_.1.1.1.1.1 e_ | exact hk_.1.1.1.1.1.2 e_ | exact hk_.1.1.1.1.1.2.1 e_ | exact hk_.1.1.1.1.1.2.2 e_ | exact hk_.1.1.1.1.1.2.2.1 e_ | exact hk_.1.1.1.1.1.2.2.2 e_ | exact hk_.1.1.1.1.1.1 e_ | exact hk_.1.1.1.1.1.1.2 e_ | exact hk_.1.1.1.1.1.1.2.1 e_ | exact hk_.1.1.1.1.1.1.2.2 e_ | exact hk_.1.1.1.1.1.1.2.2.1 e_ | exact hk_.1.1.1.1.1.1.2.2.2 e_)); have n2_ := Aside0.mk hb; clear BK1251 HB HO1264 BK1261 HO1254 HO1257 HO1260 HO1269 HO1272 HO1275; clear hb hkp hy0 hy1 hy2; have BK1251 := n0_; have HO1264 := n1_; have HB := n2_; clear n0_ n1_ n2_) | (go_at_call 25; (with_reducible refine (laws_eqIntSS.calls k _ _ t1262 _ _ l1 true _ ?side1 ?side2 ?side3 ?side4 A44.out).mono ?_); (case side1 => repeat (first | exact (Kd.S_reads' HO1264.out).2.2 | (with_reducible refine Kd.C_alloc ?_ _) | (with_reducible refine Kd.C_drewN ?_ _) | (with_reducible refine Kd.C_drew ?_))); (case side2 => exact (Kd.S_reads' HO1264.out).2.1); (case side3 => repeat (first | exact (Kd.C_below HR1.out HB.out) | (with_reducible refine Kd.C_alloc ?_ _) | (with_reducible refine Kd.C_drewN ?_ _) | (with_reducible refine Kd.C_drew ?_))); (case side4 => exact HC1.out); rintro e w' ⟨rfl, ⟨nd, rfl⟩⟩) | ((with_reducible refine gate_callee (f := 27) rfl ?_); obtain ⟨okg, hS_⟩ : ∃ okg : Nat → Prop, Kd.S (Kd.slice 3 (Kd.int .i64)) 24 _ _ (fun k => okg k ∧ k ≠ gb1251) _ _ := ⟨_, Kd.S_types HO1264.out BK1251.out (by decide)⟩; refine goesL_ (some 64) rfl rfl Try.func27 (by kernel_rfl) rfl #[.slice Ao139 t1262.length co139, .int .i64 1] rfl z2 ?_; (with_reducible refine (laws_markIntSS.calls k (fun k_ => okg k_ ∧ k_ ≠ gb1251) (.slice Ao139 t1262.length co139) t1262 1 t1282 tM wb _ ?side1 ?side2 A46.out).mono ?_); (case side1 => repeat (first | (with_reducible first | exact HB.out | apply below_alloc | apply pw_below_drewN | apply below_drew1) | exact HB.out)); (case side2 => (with_reducible repeat (first | apply Kd.S_alloc | apply Kd.S_drewN | apply Kd.S_drew)); exact hS_); clear hS_; rintro e wm ⟨rfl, hy0, hb, hkp⟩; refine ⟨_, rfl, ?_⟩; have n0_ := Aside0.mk hy0; have n1_ := Aside0.mk (blk_kept (g := gb1251) (o := .cells #[.slice A0_0 l0_0.length c0_0, .slice A0_1 l0_1.length c0_1, .slice A0_2 l0_2.length c0_2] 39 (0, 0)) z11 hkp (fun h_ => h_.2 rfl)); have n2_ := Aside0.mk hb; have hL_ := (Kd.S_reads' hy0).1; clear HO1264 BK1251 HB; clear hy0 hb hkp; have HO1264 := n0_; have BK1251 := n1_; have HB := n2_; clear n0_ n1_ n2_; rw [hL_] at HO1264 ⊢; clear hL_; have hczm_0 : wm.cell? ⟨gb1251, 0, none⟩ = some (.slice A0_0 l0_0.length c0_0) := (blk_cell BK1251.out 0).trans rfl; have hczm_1 : wm.cell? ⟨gb1251, 1, none⟩ = some (.slice A0_1 l0_1.length c0_1) := (blk_cell BK1251.out 1).trans rfl; have hczm_2 : wm.cell? ⟨gb1251, 2, none⟩ = some (.slice A0_2 l0_2.length c0_2) := (blk_cell BK1251.out 2).trans rfl; have hfzm_0 := blk_frozen BK1251.out 0; have hfzm_1 := blk_frozen BK1251.out 1; have hfzm_2 := blk_frozen BK1251.out 2) | ((with_reducible refine gate_callee (f := 28) rfl ?_); refine goesL_ (some 67) rfl rfl Try.func28 (by kernel_rfl) rfl #[.slice Ao139 tM.length co139, .int .i64 1] rfl z2 ?_; (with_reducible refine (laws_heldIntSS.calls k _ _ tM 1 t1283 _ ?side1 ?side2 A47.out).mono ?_); (case side1 => repeat (first | exact (Kd.S_reads' HO1264.out).2.2 | (with_reducible refine Kd.C_alloc ?_ _) | (with_reducible refine Kd.C_drewN ?_ _) | (with_reducible refine Kd.C_drew ?_))); (case side2 => exact (Kd.S_reads' HO1264.out).2.1); rintro e w' ⟨rfl, ⟨nd, rfl⟩⟩; refine ⟨_, rfl, ?_⟩) | ((with_reducible refine gate_callee (f := 23) rfl ?_); refine goesL_ (some 75) rfl rfl Try.func23 (by kernel_rfl) rfl #[.agg #[.slice A0_0 l0_0.length c0_0, .slice A0_1 l0_1.length c0_1, .slice A0_2 l0_2.length c0_2]] rfl z2 ?_; (with_reducible refine (laws_toChain.calls k _ _ l0_0 _ _ l0_1 _ _ l0_2 t1284 t1287 t1290 _ ?side1 ?side2 ?side3 ?side4 ?side5 ?side6 A69.out).mono ?_); (case side1 => repeat (first | exact (Kd.C_below HR0_0.out HB.out) | (with_reducible refine Kd.C_alloc ?_ _) | (with_reducible refine Kd.C_drewN ?_ _) | (with_reducible refine Kd.C_drew ?_))); (case side2 => exact HC0_0.out); (case side3 => repeat (first | exact (Kd.C_below HR0_1.out HB.out) | (with_reducible refine Kd.C_alloc ?_ _) | (with_reducible refine Kd.C_drewN ?_ _) | (with_reducible refine Kd.C_drew ?_))); (case side4 => exact HC0_1.out); (case side5 => repeat (first | exact (Kd.C_below HR0_2.out HB.out) | (with_reducible refine Kd.C_alloc ?_ _) | (with_reducible refine Kd.C_drewN ?_ _) | (with_reducible refine Kd.C_drew ?_))); (case side6 => exact HC0_2.out); rintro e wt ⟨vt0, vt1, vt2, rfl, ho0, ho1, ho2, hb⟩; refine ⟨_, rfl, ?_⟩; have n0_ := Aside0.mk (Kd.S_below z38 hb); have n1_ := Aside0.mk (below_step z22 hb); clear HO1264 HB BK1251; have HO1264 := n0_; have HB := n1_; clear n0_ n1_ hb; obtain ⟨At0, ct0, et0⟩ := Kd.R_slice ho0; subst et0; obtain ⟨At1, ct1, et1⟩ := Kd.R_slice ho1; subst et1; obtain ⟨At2, ct2, et2⟩ := Kd.R_slice ho2; subst et2; have HT0 := Aside0.mk ho0; have HT1 := Aside0.mk ho1; have HT2 := Aside0.mk ho2; clear ho0 ho1 ho2) | ((with_reducible refine gate_callee (f := 13) rfl ?_); refine goesL_ (some 76) rfl rfl Try.func13 (by kernel_rfl) rfl #[.agg #[.slice At0 t1284.length ct0, .slice At1 t1287.length ct1, .slice At2 t1290.length ct2]] rfl z2 ?_; (with_reducible refine (impl_BestNested.calls k _ _ t1284 _ _ t1287 _ _ t1290 t1293 t1296 _ ?side1 ?side2 ?side3 ?side4 ?side5 ?side6 A70.out).mono ?_); (case side1 => repeat (first | exact (Kd.R_reads' HT0.out).2.2 | (with_reducible refine Kd.C_alloc ?_ _) | (with_reducible refine Kd.C_drewN ?_ _) | (with_reducible refine Kd.C_drew ?_))); (case side2 => exact (Kd.R_reads' HT0.out).2.1); (case side3 => repeat (first | exact (Kd.R_reads' HT1.out).2.2 | (with_reducible refine Kd.C_alloc ?_ _) | (with_reducible refine Kd.C_drewN ?_ _) | (with_reducible refine Kd.C_drew ?_))); (case side4 => exact (Kd.R_reads' HT1.out).2.1); (case side5 => repeat (first | exact (Kd.R_reads' HT2.out).2.2 | (with_reducible refine Kd.C_alloc ?_ _) | (with_reducible refine Kd.C_drewN ?_ _) | (with_reducible refine Kd.C_drew ?_))); (case side6 => exact (Kd.R_reads' HT2.out).2.1); rintro e wh ⟨vh, rfl, ho, hb⟩; refine ⟨_, rfl, ?_⟩; have n0_ := Aside0.mk (Kd.S_below z38 hb); have n1_ := Aside0.mk (below_step z22 hb); clear HO1264 HB HT0 HT1 HT2; have HO1264 := n0_; have HB := n1_; clear n0_ n1_ hb; obtain ⟨Ah, ch, eh⟩ := Kd.S_slice ho; subst eh; have HH := Aside0.mk ho; clear ho) | ((with_reducible refine gate_callee (f := 25) rfl ?_); refine goesL_ (some 81) rfl rfl Try.func25 (by kernel_rfl) rfl #[.slice Ah t1293.length ch, .slice A1 l1.length c1] rfl z2 ?_; (with_reducible refine (laws_eqIntSS.calls k _ _ t1293 _ _ l1 true _ ?side1 ?side2 ?side3 ?side4 A71.out).mono ?_); (case side1 => repeat (first | exact (Kd.S_reads' HH.out).2.2 | (with_reducible refine Kd.C_alloc ?_ _) | (with_reducible refine Kd.C_drewN ?_ _) | (with_reducible refine Kd.C_drew ?_))); (case side2 => exact (Kd.S_reads' HH.out).2.1); (case side3 => repeat (first | exact (Kd.C_below HR1.out HB.out) | (with_reducible refine Kd.C_alloc ?_ _) | (with_reducible refine Kd.C_drewN ?_ _) | (with_reducible refine Kd.C_drew ?_))); (case side4 => exact HC1.out); rintro e w' ⟨rfl, ⟨nd, rfl⟩⟩; refine ⟨_, rfl, ?_⟩) | ((with_reducible refine gate_callee (f := 28) rfl ?_); refine goesL_ (some 90) rfl rfl Try.func28 (by kernel_rfl) rfl #[.slice Ao139 tM.length co139, .int .i64 1] rfl z2 ?_; (with_reducible refine (laws_heldIntSS.calls k _ _ tM 1 t1298 _ ?side1 ?side2 A100.out).mono ?_); (case side1 => repeat (first | exact (Kd.S_reads' HO1264.out).2.2 | (with_reducible refine Kd.C_alloc ?_ _) | (with_reducible refine Kd.C_drewN ?_ _) | (with_reducible refine Kd.C_drew ?_))); (case side2 => exact (Kd.S_reads' HO1264.out).2.1); rintro e w' ⟨rfl, ⟨nd, rfl⟩⟩; refine ⟨_, rfl, ?_⟩))
  go_ret
  exact ⟨by first | rfl | (simp; done) | (simp [*]; done), below_step HBO.out z22⟩
end Go.Proofs.Ythlmmcmpllgflaa.P
namespace Go.Proofs.Ythlmmcmpllgflaa.P
open Go.RowKit Go.Proofs.YthlmmcmpllgflaaW.PrintWords Go.Proofs.YthlmmcmpllgflaaW.PrintLast Go.Proofs.YthlmmcmpllgflaaW.PrintMore ChainMath
theorem nested_calls (A0_0 : Option Addr) (c0_0 : Nat) (l0_0 : List Int) (A0_1 : Option Addr) (c0_1 : Nat) (l0_1 : List Int) (A0_2 : Option Addr) (c0_2 : Nat) (l0_2 : List Int) (w : World) (hr0_0 : Kd.C (Kd.int .i64) w A0_0 l0_0.length l0_0) (hc0_0 : l0_0.length ≤ c0_0) (hr0_1 : Kd.C (Kd.int .i64) w A0_1 l0_1.length l0_1) (hc0_1 : l0_1.length ≤ c0_1) (hr0_2 : Kd.C (Kd.int .i64) w A0_2 l0_2.length l0_2) (hc0_2 : l0_2.length ≤ c0_2)
    (ha : l0_0.length ≤ 9223372036854775807) (hb : l0_1.length ≤ 9223372036854775807) (hc : l0_2.length ≤ 9223372036854775807) :
    Calls Try.prog 6 #[.agg #[.slice A0_0 l0_0.length c0_0, .slice A0_1 l0_1.length c0_1, .slice A0_2 l0_2.length c0_2]] w fun e w' => e = .returned (.bool true) ∧ Below w.heap.size w w' := by
  obtain ⟨sz, h1, h2⟩ := szChain_ev l0_0 l0_1 l0_2 ha hb hc
  by_cases hs : sz < 0
  · exact laws_FnExactBestNested.early A0_0 c0_0 l0_0 A0_1 c0_1 l0_1 A0_2 c0_2 l0_2 sz w hr0_0 hc0_0 hr0_1 hc0_1 hr0_2 hc0_2 h1 hs
  · obtain ⟨b1, b2, b3⟩ := h2 (by omega)
    obtain ⟨R1, R2⟩ := nestedBest_rows l0_0 l0_1 l0_2
    have R2' : ∀ r ∈ (nestedBest l0_0 l0_1 l0_2).1, r.length ≤ 1000 := fun r hr => Nat.le_trans (R2 r hr) (by omega)
    obtain ⟨K1, e1⟩ := toChain_ev l0_0 l0_1 l0_2 (by omega) (by omega) (by omega)
    obtain ⟨K2, e2⟩ := nestedBestS_ev l0_0 l0_1 l0_2 (by omega) (by omega) (by omega)
    obtain ⟨K3, e3⟩ := nestedBestI_ev l0_0 l0_1 l0_2 (by omega) (by omega) (by omega)
    obtain ⟨K4, e4⟩ := eqIntSS_self (nestedBest l0_0 l0_1 l0_2).1 R2' (by omega)
    obtain ⟨K5, e5⟩ := eqChain_self l0_0 l0_1 l0_2 (by omega) (by omega) (by omega)
    obtain ⟨⟨m1, m2, m3, m4⟩, ⟨K6, e6⟩, hm⟩ := markChain_ev l0_0 l0_1 l0_2 b1 b2 b3
    obtain ⟨K7, e7⟩ := markIntSS_ev (nestedBest l0_0 l0_1 l0_2).1 R2' (by omega)
    obtain ⟨K8, e8⟩ := heldIntSS_ev (nestedBest l0_0 l0_1 l0_2).1 R2' (by omega)
    have hmt := mtot_bound (nestedBest l0_0 l0_1 l0_2).1 R2'
    obtain ⟨K, hK⟩ : ∃ K, K = K1 + K2 + K3 + K4 + K5 + K6 + K7 + K8 := ⟨_, rfl⟩
    have f1 := e1 K (by omega); have f2 := e2 K (by omega); have f3 := e3 K (by omega); have f4 := e4 K (by omega)
    have f5 := e5 K (by omega); have f6 := e6 K (by omega); have f7 := e7 K (by omega); have f8 := e8 K (by omega)
    exact laws_FnExactBestNested.good K A0_0 c0_0 l0_0 A0_1 c0_1 l0_1 A0_2 c0_2 l0_2 sz m1 (1 + mtot (nestedBest l0_0 l0_1 l0_2).1) (1 + mtot (nestedBest l0_0 l0_1 l0_2).1) (1 + mtot (nestedBest l0_0 l0_1 l0_2).1)
      l0_0 l0_1 l0_2 l0_0 l0_1 l0_2 m2 m3 m4 l0_0 l0_1 l0_2 l0_0 l0_1 l0_2 (nestedBest l0_0 l0_1 l0_2).1 (nestedBest l0_0 l0_1 l0_2).1 (nestedBest l0_0 l0_1 l0_2).1 (marked (nestedBest l0_0 l0_1 l0_2).1 1) (nestedBest l0_0 l0_1 l0_2).2 (nestedBest l0_0 l0_1 l0_2).2 (nestedBest l0_0 l0_1 l0_2).2
      w hr0_0 hc0_0 hr0_1 hc0_1 hr0_2 hc0_2 h1 hs f1 f2 f1 f3 f4 f1 f5 f6 f4 f7 f8 f1 f3 f4 f8 (by simp) (by dsimp only at hm; omega) (by omega) rfl (by simp) (by omega) rfl
end Go.Proofs.Ythlmmcmpllgflaa.P
namespace Go.Proofs.Ythlmmcmpllgflaa.fnExactBestNested
open Go.ChangeShapes Go.WideShapes Go.ChangeAt Go.RowKit Go.Joins
open Go.ChangeMaps (open_string shut_string)
open Go.Proofs.YthlmmcmpllgflaaW.PrintWords
set_option linter.unusedVariables false
theorem own : ownKnob Try.prog.godebug = none := by kernel_rfl
theorem laidOut : laidOutB Try.prog = true := by kernel_rfl
def IsRow (k : IntKind) (w : World) (a : Option Addr) (len cap : Nat) (zs : List Int) : Prop :=
  (a = none ∧ len = 0 ∧ cap = 0 ∧ zs = []) ∨
  ∃ x, a = some x ∧ len ≤ cap ∧ cap ≤ maxLen ∧ zs.length = cap ∧ (∀ i, i < zs.length → w.cell? (x.add i) = some (.int k (zs.getD i 0))) ∧ ∀ n ∈ zs, (Lit.int k n).wf = true
theorem open_field {H : Type} {enc : TypeId × Value → H} {W : World} {n : Nat} {v : Value} {y : DataW H × List MemPlace}
    (h : DataW.trod enc Try.prog W 0 (fun _ => true) true n 24 [v] = some y) :
    ∃ a len cap l, v = .slice a len cap ∧ len = List.length l ∧ ReadsInt W .i64 a l.length l ∧ l.length ≤ maxLen ∧ l.length ≤ cap := by
  rcases open_ints Try.underlying24 Try.underlying3 (by kernel_rfl) h with ⟨hcs, _⟩ | ⟨x, l, c, zs, hcs, _, hl, hm, hz, _, hcell, hwz⟩
  · simp at hcs; subst hcs
    obtain ⟨l, e, h1, h2, _, h4⟩ := ReadsInt.ofRowC (k := .i64) (w := W) (a := none) (len := 0) (cap := 0) (zs := []) (.inl ⟨rfl, rfl, rfl, rfl⟩)
    exact ⟨_, _, _, l, rfl, e, h1, h2, h4⟩
  · simp at hcs; subst hcs
    obtain ⟨r, e, h1, h2, _, h4⟩ := ReadsInt.ofRowC (k := .i64) (w := W) (a := some x) (len := l) (cap := c) (zs := zs) (.inr ⟨_, rfl, hl, hm, (by simpa using hz), hcell, hwz⟩)
    exact ⟨_, _, _, r, rfl, e, h1, h2, h4⟩
set_option maxRecDepth 100000 in
theorem lifted (os : Os) (started : os.Started) (H : Type) (enc : TypeId × Value → H) :
    ReturnsInHanded {} Try.checked os 6 .any (Rows.fnExactBestNestedSpec.pre6 enc Try.prog Try.f6 Rows.fnExactBestNestedRow.domain false) (Rows.fnExactBestNestedSpec.post enc Try.prog Try.f6 false true false false) := by
  refine returnsInHanded_of_change_sized (C := Try.checked) own started (by kernel_rfl) Try.func6
    (ChangeSpec.witness6 (enc := enc) (C := Try.checked) false ⟨#[], #[.agg #[.slice none 0 0, .slice none 0 0, .slice none 0 0]], []⟩ 8 (by kernel_rfl) (by kernel_rfl) (by kernel_rfl) (by kernel_rfl)) ?_
  intro W base args ds gs before hval0 hW hcnd hsz0 _
  have hval : ∀ (j : Nat) t v, Try.f6.params[j]? = some t → args[j]? = some v → Value.okWide Try.prog W .any base t v := hval0
  have hW' := hW
  obtain ⟨p, q, hA0, hV, rfl, hfz, hnd⟩ := hW
  have hA : DataW.TrodAll enc Try.prog W 0 (fun _ => true) true Try.f6.params.toList args.toList ds p := hA0
  rw [Try.params6] at hA hval
  obtain ⟨v0, vs0, d0, ds0, p0, q0, hargs, rfl, rfl, h0, r0⟩ := trodAll_cons hA
  obtain ⟨rfl, rfl, rfl⟩ := trodAll_nil r0
  obtain rfl : args = #[v0] := by cases args; simp_all
  obtain ⟨rfl, rfl⟩ := trodVars_none hV
  have k0 := h0
  have lt0 : ∀ x ∈ p0, x.block < W.heap.size := by obtain ⟨m, hm⟩ := k0; exact DataW.trod_lt m _ _ _ hm
  obtain ⟨c0, c1, c2, y0, y1, y2, m, rfl, rfl, rfl, hy0, hy1, hy2⟩ := open_agg3 Try.underlying39 (by kernel_rfl) (by kernel_rfl) (hval 0 39 v0 rfl rfl) h0
  obtain ⟨a0, len0, cap0, l0, rfl, rfl, hr0, hm0, hc0⟩ := open_field hy0
  obtain ⟨a1, len1, cap1, l1, rfl, rfl, hr1, hm1, hc1⟩ := open_field hy1
  obtain ⟨a2, len2, cap2, l2, rfl, rfl, hr2, hm2, hc2⟩ := open_field hy2
  clear hA0 hval0 hsz0
  refine (P.nested_calls _ _ l0 _ _ l1 _ _ l2 W (Kd.C_of_reads (d := (0 : Int)) (h1 := fun _ => rfl) hr0) hc0 (Kd.C_of_reads (d := (0 : Int)) (h1 := fun _ => rfl) hr1) hc1 (Kd.C_of_reads (d := (0 : Int)) (h1 := fun _ => rfl) hr2) hc2 (by simpa [maxLen] using hm0) (by simpa [maxLen] using hm1) (by simpa [maxLen] using hm2)).mono fun e W' ⟨he, bel⟩ => ?_
  subst he
  exact ⟨_, rfl, _, _, _, [], _, [], hW', trodAll_mk1 (shut_bool Try.underlying4 _), (trodAll_cons_mk (Below.trod laidOut (by kernel_rfl) (of_decide_eq_true (by kernel_rfl)) k0 bel lt0) trodAll_mk0), rfl, bel.frame _, fun h => by cases h⟩
theorem over : Rows.fnExactBestNestedRow.holds Try.pinned (OpenSpec.ofChange Rows.fnExactBestNestedSpec) :=
  OpenClaim.holds_of_wide 6 Try.f6 rfl rfl rfl rfl rfl rfl rfl ⟨rfl, rfl, rfl, rfl, rfl⟩ rfl rfl rfl rfl rfl (by kernel_rfl) Try.func6 (by kernel_rfl)
    (of_decide_eq_true (by kernel_rfl)) (by unfold Func.isWrapper; first | (rw [if_pos (by decide +kernel)]; kernel_rfl) | (rw [if_neg (by decide +kernel)]; exact ⟨rfl, rfl⟩))
    (fun os started H enc _ => lifted os started H enc)
theorem proved : Rows.FnExactBestNestedSaid := over
#print axioms proved
end Go.Proofs.Ythlmmcmpllgflaa.fnExactBestNested
namespace Go.Proofs.Ythlmmcmpllgflaa
theorem fnExactBestNested_holds : Rows.FnExactBestNestedSaid := fnExactBestNested.proved
end Go.Proofs.Ythlmmcmpllgflaa
