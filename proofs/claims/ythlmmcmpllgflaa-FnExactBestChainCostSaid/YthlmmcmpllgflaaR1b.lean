/- The law FnExactBestChainCost: for every chain the two least costs, the one of the search over nested order periods and the one of the recursion over all plans, are the same; no condition. -/
import Derived.Test.YthlmmcmpllgflaaR1a
import Derived.Test.YthlmmcmpllgflaaProg
import Derived.Below
import Derived.Deep.Draws
import Derived.Deep.AppendLies
import Derived.Maps.AppendAt
import Derived.OwnWalk
import Derived.Laws.BytesArg
import Derived.Laws.MakeOwn
import Derived.Laws.OwnMore
import Derived.Deep.OwnRows
import Derived.Tactics
import Derived.Lib.ConvBytes
import Derived.Laws.Slices
import Derived.WalkKit
import Derived.KernelRfl
import Derived.RowKit3
import Derived.Deep.LoopGhost
import Derived.Deep.QuietTactic
import Derived.BigQuiet
import Derived.WideLaws
import Derived.Deep.DeepCutAuto
import Derived.Deep.CutBlock
import Derived.Deep.RegionHeld3
import Derived.Laws.Rows
import Derived.Lib.AppendStr
import Derived.ArgAppend
import Derived.Laws.IdiomCopy
import Derived.OrdersHeld
import Derived.Laws.BitsLemmas
import Derived.RowKit
namespace Go.Proofs.Ythlmmcmpllgflaa.P
open Go.RowKit Go.Proofs.YthlmmcmpllgflaaW.PrintWords Go.Proofs.YthlmmcmpllgflaaW.PrintLast Go.Proofs.YthlmmcmpllgflaaW.PrintMore
attribute [local go_sem] max2_int min2_int max_two min_two max_three min_three max_four min_four
set_option linter.unusedVariables false
set_option linter.unusedSimpArgs false
def errW : Option Int → Value
 | none => .nilIface
 | some c => .iface 0 (.int .i64 c)
theorem errW_none : errW none = .nilIface := rfl
theorem errW_some (c : Int) : errW (some c) = .iface 0 (.int .i64 c) := rfl
theorem info3 : (Try.prog.info? 3).map (fun i => (i.zero, i.size, i.bytes)) = some (some (.int .i64 0), 1, 8) := by kernel_rfl
theorem info24 : (Try.prog.info? 24).map (fun i => (i.zero, i.size, i.bytes)) = some (some (.slice none 0 0), 1, 24) := by kernel_rfl
def rd_L2 (xs : List (List Int)) (i : Int) : (List Int) := xs.getD i.toNat ([] : List Int)
theorem at_L2 {w : World} {A : Option Addr} {n : Nat} {xs : List (List Int)} (h : Kd.C (Kd.slice 3 (Kd.int .i64)) w A n xs) (i : Int) (h0 : 0 ≤ i) (h1 : i < n) : ∃ ad A0 c0, A = some ad ∧ w.cell? (ad.add i.toNat) = some (.slice A0 (rd_L2 xs i).length c0) ∧ (rd_L2 xs i).length ≤ c0 ∧ (Kd.int .i64).C w A0 (rd_L2 xs i).length (rd_L2 xs i) := by
 obtain ⟨ad, c, e, _, hK, hc0⟩ := Kd.C_get h ([] : List Int) i h0 h1
 have hc : ∀ j u, c[j]? = some u → w.cell? (ad.add (i.toNat * 1 + j)) = some u := hc0
 obtain ⟨A0, c0, rfl, l0, g0⟩ := hK
 exact ⟨ad, A0, c0, e, by have hq := hc 0 _ rfl; rwa [Nat.mul_one, Nat.add_zero] at hq, l0, g0⟩
end Go.Proofs.Ythlmmcmpllgflaa.P
namespace Go.Proofs.YthlmmcmpllgflaaW.PrintWords
open Go.RowKit
theorem Ev.pos {α : Type} {c : Prop} [Decidable c] {A B : Nat → Option α} {r : α} (h : c) (k : Ev A r) : Ev (fun n => if c then A n else B n) r := by
  obtain ⟨K, k⟩ := k
  exact ⟨K, fun n hn => by dsimp only; rw [if_pos h]; exact k n hn⟩
theorem Ev.neg {α : Type} {c : Prop} [Decidable c] {A B : Nat → Option α} {r : α} (h : ¬ c) (k : Ev B r) : Ev (fun n => if c then A n else B n) r := by
  obtain ⟨K, k⟩ := k
  exact ⟨K, fun n hn => by dsimp only; rw [if_neg h]; exact k n hn⟩
theorem Ev.const {α : Type} {x : Option α} {r : α} (h : x = some r) : Ev (fun _ => x) r := ⟨0, fun _ _ => h⟩
theorem Ev.to {α : Type} {g : Nat → Option α} {r r' : α} (k : Ev g r) (h : r = r') : Ev g r' := h ▸ k
theorem wr {n : Int} (h : -9223372036854775808 ≤ n) (h2 : n ≤ 9223372036854775807) : wrap64 n = n := by unfold wrap64; omega
theorem wrS {i : Nat} (h : i < 4611686018427387904) : wrap64 ((i : Int) + 1) = ((i + 1 : Nat) : Int) := by unfold wrap64; omega
theorem wrP {i : Nat} (h : i < 4611686018427387904) : wrap64 (((i + 1 : Nat) : Int) - 1) = (i : Int) := by unfold wrap64; omega
theorem rd_nat (l : List Int) (i : Nat) : rd l (i : Int) = l.getD i 0 := by unfold rd; rw [Int.toNat_natCast]
theorem drop_cons {α : Type} (l : List α) (d : α) {i : Nat} (h : i < l.length) : l.drop i = l.getD i d :: l.drop (i + 1) := by
  rw [List.drop_eq_getElem_cons h]; simp [List.getD_eq_getElem?_getD, List.getElem?_eq_getElem h]
theorem Ev.andB {g F : Nat → Option Bool} {b r : Bool} (h : Ev g b) (k : b = true → Ev F r) : Ev (fun n => (g n).bind fun t => if t = true then F n else some false) (b && r) := by
  refine Ev.bind h ?_
  cases b with
  | true => exact Ev.pos rfl ((k rfl).to (by simp))
  | false => exact Ev.neg (by simp) ((Ev.now false).to (by simp))
theorem Ev.ifB {c : Prop} [Decidable c] {F : Nat → Option Bool} {r : Bool} (k : c → Ev F r) : Ev (fun n => if c then F n else some false) (decide c && r) := by
  by_cases h : c
  · exact Ev.pos h ((k h).to (by simp [h]))
  · exact Ev.neg h ((Ev.now false).to (by simp [h]))
end Go.Proofs.YthlmmcmpllgflaaW.PrintWords
namespace Go.Proofs.Ythlmmcmpllgflaa.P
open Go.RowKit Go.Proofs.YthlmmcmpllgflaaW.PrintWords Go.Proofs.YthlmmcmpllgflaaW.PrintLast Go.Proofs.YthlmmcmpllgflaaW.PrintMore
attribute [local go_sem] max2_int min2_int max_two min_two max_three min_three max_four min_four
set_option linter.unusedVariables false
set_option linter.unusedSimpArgs false
def cmp_isNaN_int.f (a0 : Int) : Option (Bool) := some (a0 != a0)
set_option maxHeartbeats 8000000 in
set_option maxRecDepth 100000 in
theorem cmp_isNaN_int.calls (a0 : Int) (r : Bool) (w : World) (h : cmp_isNaN_int.f a0 = some r) :
 Calls Try.prog 133 #[.int .i64 a0] w fun e w' => e = .returned (.bool r) ∧ Drawn0 w w' := by
 have H : (some (a0 != a0)) = some r := h
 clear h
 obtain rfl := Option.some.inj H
 go_enter Try.func133, Try.ntmps133
 go_wp2
 go_ret
 exact ⟨by first | rfl | (simp; done) | (simp [*]; done), by repeat (first | exact Drawn0.refl _ | apply Drawn0.step)⟩
end Go.Proofs.Ythlmmcmpllgflaa.P
namespace Go.Proofs.Ythlmmcmpllgflaa.P
open Go.RowKit Go.Proofs.YthlmmcmpllgflaaW.PrintWords Go.Proofs.YthlmmcmpllgflaaW.PrintLast Go.Proofs.YthlmmcmpllgflaaW.PrintMore
attribute [local go_sem] max2_int min2_int max_two min_two max_three min_three max_four min_four
set_option linter.unusedVariables false
set_option linter.unusedSimpArgs false
def cmp_Less_int.f (a0 : Int) (a1 : Int) : Option (Bool) := (cmp_isNaN_int.f a0).bind fun t288 => (if t288 = true then ((cmp_isNaN_int.f a1).bind fun t289 => (if t289 = true then (some (decide (a0 < a1))) else (some true))) else (some (decide (a0 < a1))))
set_option maxHeartbeats 8000000 in
set_option maxRecDepth 100000 in
theorem cmp_Less_int.calls (a0 : Int) (a1 : Int) (r : Bool) (w : World) (h : cmp_Less_int.f a0 a1 = some r) :
 Calls Try.prog 130 #[.int .i64 a0, .int .i64 a1] w fun e w' => e = .returned (.bool r) ∧ Drawn0 w w' := by
 have H : ((cmp_isNaN_int.f a0).bind fun t288 => (if t288 = true then ((cmp_isNaN_int.f a1).bind fun t289 => (if t289 = true then (some (decide (a0 < a1))) else (some true))) else (some (decide (a0 < a1))))) = some r := h
 clear h
 replace H := Option.bind_eq_some_iff.mp H
 obtain ⟨t288, A30, H⟩ := H
 replace H : (if t288 = true then ((cmp_isNaN_int.f a1).bind fun t289 => (if t289 = true then (some (decide (a0 < a1))) else (some true))) else (some (decide (a0 < a1)))) = some r := H
 have A3 := Aside0.mk A30
 clear A30
 by_cases c4 : t288 = true
 · subst c4
   have H1 : ((cmp_isNaN_int.f a1).bind fun t289 => (if t289 = true then (some (decide (a0 < a1))) else (some true))) = some r := by rw [if_pos rfl] at H; exact H
   clear H
   have H := H1
   clear H1
   replace H := Option.bind_eq_some_iff.mp H
   obtain ⟨t289, A50, H⟩ := H
   replace H : (if t289 = true then (some (decide (a0 < a1))) else (some true)) = some r := H
   have A5 := Aside0.mk A50
   clear A50
   by_cases c6 : t289 = true
   · subst c6
     have H1 : (some (decide (a0 < a1))) = some r := by rw [if_pos rfl] at H; exact H
     clear H
     have H := H1
     clear H1
     obtain rfl := Option.some.inj H
     go_enter Try.func130, Try.ntmps130
     go_wp2_with (first | ((with_reducible refine gate_callee (f := 133) rfl ?_); refine goesL_ (some 6) rfl rfl Try.func133 (by kernel_rfl) rfl #[.int .i64 a0] rfl (by (try simp only [List.map_toArray, List.map_cons, List.map_nil]); first | done | rfl | (simp only [List.length_drop, List.length_take]; rfl)) ?_; (with_reducible refine (cmp_isNaN_int.calls a0 true _ A3.out).mono ?_); rintro e w' ⟨rfl, ⟨nd, rfl⟩⟩; refine ⟨_, rfl, ?_⟩) | (go_at_call 133; (with_reducible refine (cmp_isNaN_int.calls a1 true _ A5.out).mono ?_); rintro e w' ⟨rfl, ⟨nd, rfl⟩⟩))
     go_ret
     exact ⟨by first | rfl | (simp; done) | (simp [*]; done), by repeat (first | exact Drawn0.refl _ | apply Drawn0.step)⟩
   · replace c6 := Bool.eq_false_iff.mpr c6
     subst c6
     have H1 : (some true) = some r := by rw [if_neg (show ¬ (false = true) by decide)] at H; exact H
     clear H
     have H := H1
     clear H1
     obtain rfl := Option.some.inj H
     go_enter Try.func130, Try.ntmps130
     go_wp2_with (first | ((with_reducible refine gate_callee (f := 133) rfl ?_); refine goesL_ (some 6) rfl rfl Try.func133 (by kernel_rfl) rfl #[.int .i64 a0] rfl (by (try simp only [List.map_toArray, List.map_cons, List.map_nil]); first | done | rfl | (simp only [List.length_drop, List.length_take]; rfl)) ?_; (with_reducible refine (cmp_isNaN_int.calls a0 true _ A3.out).mono ?_); rintro e w' ⟨rfl, ⟨nd, rfl⟩⟩; refine ⟨_, rfl, ?_⟩) | (go_at_call 133; (with_reducible refine (cmp_isNaN_int.calls a1 false _ A5.out).mono ?_); rintro e w' ⟨rfl, ⟨nd, rfl⟩⟩))
     go_ret
     exact ⟨by first | rfl | (simp; done) | (simp [*]; done), by repeat (first | exact Drawn0.refl _ | apply Drawn0.step)⟩
 · replace c4 := Bool.eq_false_iff.mpr c4
   subst c4
   have H1 : (some (decide (a0 < a1))) = some r := by rw [if_neg (show ¬ (false = true) by decide)] at H; exact H
   clear H
   have H := H1
   clear H1
   obtain rfl := Option.some.inj H
   go_enter Try.func130, Try.ntmps130
   go_wp2_with (first | ((with_reducible refine gate_callee (f := 133) rfl ?_); refine goesL_ (some 6) rfl rfl Try.func133 (by kernel_rfl) rfl #[.int .i64 a0] rfl (by (try simp only [List.map_toArray, List.map_cons, List.map_nil]); first | done | rfl | (simp only [List.length_drop, List.length_take]; rfl)) ?_; (with_reducible refine (cmp_isNaN_int.calls a0 false _ A3.out).mono ?_); rintro e w' ⟨rfl, ⟨nd, rfl⟩⟩; refine ⟨_, rfl, ?_⟩))
   go_ret
   exact ⟨by first | rfl | (simp; done) | (simp [*]; done), by repeat (first | exact Drawn0.refl _ | apply Drawn0.step)⟩
end Go.Proofs.Ythlmmcmpllgflaa.P
namespace Go.Proofs.Ythlmmcmpllgflaa.P
open Go.RowKit Go.Proofs.YthlmmcmpllgflaaW.PrintWords Go.Proofs.YthlmmcmpllgflaaW.PrintLast Go.Proofs.YthlmmcmpllgflaaW.PrintMore
attribute [local go_sem] max2_int min2_int max_two min_two max_three min_three max_four min_four
set_option linter.unusedVariables false
set_option linter.unusedSimpArgs false
def slices_IsSorted_int_int.l0 : Nat → List Int → Int → Option (Bool)
 | 0, _, _ => none
 | k + 1, x0, x3 => if x3 > 0 then (if 0 ≤ x3 then (if x3 < (x0.length : Int) then (if 0 ≤ (wrap64 (x3 - 1)) then (if (wrap64 (x3 - 1)) < (x0.length : Int) then ((cmp_Less_int.f (rd x0 x3) (rd x0 (wrap64 (x3 - 1)))).bind fun t292 => (if t292 = true then (some false) else (slices_IsSorted_int_int.l0 k x0 (wrap64 (x3 - 1))))) else (none)) else (none)) else (none)) else (none)) else (some true)
def slices_IsSorted_int_int.f (k : Nat) (l0 : List Int) : Option (Bool) := slices_IsSorted_int_int.l0 k l0 (wrap64 ((l0.length : Int) - 1))
set_option maxHeartbeats 8000000 in
set_option maxRecDepth 100000 in
theorem slices_IsSorted_int_int.calls (k : Nat) (A0 : Option Addr) (c0 : Nat) (l0 : List Int) (r : Bool) (w : World) (hr0 : Kd.C (Kd.int .i64) w A0 l0.length l0) (hc0 : l0.length ≤ c0) (h : slices_IsSorted_int_int.f k l0 = some r) :
 Calls Try.prog 105 #[.slice A0 l0.length c0] w fun e w' => e = .returned (.bool r) ∧ Drawn0 w w' := by
 have HR0 := Aside0.mk hr0
 have HC0 := Aside0.mk hc0
 clear hr0 hc0
 have H : (slices_IsSorted_int_int.l0 k l0 (wrap64 ((l0.length : Int) - 1))) = some r := h
 clear h
 have H' := Aside0.mk H
 clear H
 go_enter Try.func105, Try.ntmps105
 go_wp2
 repeat (go_quiet (fail); try go_wp2)
 go_loopg [3] k (fun kq v3 w' => ∃ (x3_1 : Int), v3 = .int .i64 x3_1 ∧ Aside0 (slices_IsSorted_int_int.l0 kq l0 x3_1 = some r) ∧ Aside0 (kq ≤ k) ∧ Drawn0 w w')
 case atStart => exact ⟨(wrap64 ((l0.length : Int) - 1)), (by first | rfl | (simp; done) | (simp [*]; done)), H', ⟨Nat.le_refl _⟩, by repeat (first | exact Drawn0.refl _ | apply Drawn0.step)⟩
 case round =>
  clear H'
  try clear c1
  obtain ⟨x3_1, rfl, HA, HK1, ⟨m1, rfl⟩⟩ := hrel
  cases gk with
  | zero => exact absurd HA.out (by simp [slices_IsSorted_int_int.l0])
  | succ k1 =>
   have H := HA.out
   clear HA
   simp only [slices_IsSorted_int_int.l0] at H
   by_cases c2 : x3_1 > 0
   · rw [if_pos c2] at H
     have c2b0 : decide (0 < x3_1) = true := decide_eq_true c2
     clear c2
     by_cases c3 : 0 ≤ x3_1
     · rw [if_pos c3] at H
       have c3b0 : decide (0 ≤ x3_1) = true := decide_eq_true c3
       clear c3
       by_cases c4 : x3_1 < (l0.length : Int)
       · rw [if_pos c4] at H
         have c4b0 : decide (x3_1 < (l0.length : Int)) = true := decide_eq_true c4
         clear c4
         obtain ⟨ji5, hji5⟩ : ∃ j_ : Int, (wrap64 (x3_1 - 1)) = j_ := ⟨_, rfl⟩
         replace H : (if 0 ≤ (ji5) then (if (ji5) < (l0.length : Int) then ((cmp_Less_int.f (rd l0 x3_1) (rd l0 (ji5))).bind fun t292 => (if t292 = true then (some false) else (slices_IsSorted_int_int.l0 k1 l0 ji5))) else (none)) else (none)) = some r := by first | (rw [hji5] at H; exact H) | (simp only [hji5] at H ⊢; exact H)
         have hji5w : (IntKind.i64.wrap (x3_1 - 1)) = ji5 := (i64_w _).trans hji5
         by_cases c6 : 0 ≤ (ji5)
         · rw [if_pos c6] at H
           have c6b0 : decide (0 ≤ (ji5)) = true := decide_eq_true c6
           clear c6
           by_cases c7 : (ji5) < (l0.length : Int)
           · rw [if_pos c7] at H
             have c7b0 : decide ((ji5) < (l0.length : Int)) = true := decide_eq_true c7
             clear c7
             replace H := Option.bind_eq_some_iff.mp H
             obtain ⟨t292, A80, H⟩ := H
             replace H : (if t292 = true then (some false) else (slices_IsSorted_int_int.l0 k1 l0 ji5)) = some r := H
             have A8 := Aside0.mk A80
             clear A80
             by_cases c9 : t292 = true
             · subst c9
               have H1 : (some false) = some r := by rw [if_pos rfl] at H; exact H
               clear H
               have H := H1
               clear H1
               obtain rfl := Option.some.inj H
               have p290 : 0 ≤ (x3_1 : Int) := of_decide_eq_true (by first | (with_reducible assumption) | assumption)
               have q290 : x3_1 < (l0.length : Int) := of_decide_eq_true (by first | (with_reducible assumption) | assumption)
               obtain ⟨ad290, e290, hx290_0⟩ := Kd.at_int HR0.out x3_1 p290 q290
               cases e290
               replace p290 := eq_true p290
               replace q290 := eq_true q290
               have p291 : 0 ≤ ((ji5) : Int) := of_decide_eq_true (by first | (with_reducible assumption) | assumption)
               have q291 : (ji5) < (l0.length : Int) := of_decide_eq_true (by first | (with_reducible assumption) | assumption)
               obtain ⟨ad291, e291, hx291_0⟩ := Kd.at_int HR0.out (ji5) p291 q291
               obtain rfl : ad290 = ad291 := (by injection e291)
               replace p291 := eq_true p291
               replace q291 := eq_true q291
               go_wp2_with (first | (go_at_call 130; (with_reducible refine (cmp_Less_int.calls (rd l0 x3_1) (rd l0 (ji5)) true _ A8.out).mono ?_); rintro e w' ⟨rfl, ⟨nd, rfl⟩⟩; (try first | exact ⟨rfl, _, World.drewN_drewN _ _ _⟩ | exact ⟨rfl, _, Eq.trans (World.drewN_drewN _ _ _) (congrArg (World.drewN _) (Nat.add_assoc _ _ _))⟩)))
               repeat (go_quiet (first | (go_at_call 130; (with_reducible refine (cmp_Less_int.calls (rd l0 x3_1) (rd l0 (ji5)) true _ A8.out).mono ?_); rintro e w' ⟨rfl, ⟨nd, rfl⟩⟩; (try first | exact ⟨rfl, _, World.drewN_drewN _ _ _⟩ | exact ⟨rfl, _, Eq.trans (World.drewN_drewN _ _ _) (congrArg (World.drewN _) (Nat.add_assoc _ _ _))⟩))); try go_wp2_with (first | (go_at_call 130; (with_reducible refine (cmp_Less_int.calls (rd l0 x3_1) (rd l0 (ji5)) true _ A8.out).mono ?_); rintro e w' ⟨rfl, ⟨nd, rfl⟩⟩; (try first | exact ⟨rfl, _, World.drewN_drewN _ _ _⟩ | exact ⟨rfl, _, Eq.trans (World.drewN_drewN _ _ _) (congrArg (World.drewN _) (Nat.add_assoc _ _ _))⟩))))
               go_ret
               exact ⟨by first | rfl | (simp; done) | (simp only [← hji5] <;> (first | rfl | simp)) | (simp [*]; done), by repeat (first | exact Drawn0.refl _ | apply Drawn0.step)⟩
             · replace c9 := Bool.eq_false_iff.mpr c9
               subst c9
               have H1 : (slices_IsSorted_int_int.l0 k1 l0 ji5) = some r := by rw [if_neg (show ¬ (false = true) by decide)] at H; exact H
               clear H
               have H := H1
               clear H1
               have H' := Aside0.mk H
               clear H
               have p290 : 0 ≤ (x3_1 : Int) := of_decide_eq_true (by first | (with_reducible assumption) | assumption)
               have q290 : x3_1 < (l0.length : Int) := of_decide_eq_true (by first | (with_reducible assumption) | assumption)
               obtain ⟨ad290, e290, hx290_0⟩ := Kd.at_int HR0.out x3_1 p290 q290
               cases e290
               replace p290 := eq_true p290
               replace q290 := eq_true q290
               have p291 : 0 ≤ ((ji5) : Int) := of_decide_eq_true (by first | (with_reducible assumption) | assumption)
               have q291 : (ji5) < (l0.length : Int) := of_decide_eq_true (by first | (with_reducible assumption) | assumption)
               obtain ⟨ad291, e291, hx291_0⟩ := Kd.at_int HR0.out (ji5) p291 q291
               obtain rfl : ad290 = ad291 := (by injection e291)
               replace p291 := eq_true p291
               replace q291 := eq_true q291
               go_wp2_with (first | (go_at_call 130; (with_reducible refine (cmp_Less_int.calls (rd l0 x3_1) (rd l0 (ji5)) false _ A8.out).mono ?_); rintro e w' ⟨rfl, ⟨nd, rfl⟩⟩; (try first | exact ⟨rfl, _, World.drewN_drewN _ _ _⟩ | exact ⟨rfl, _, Eq.trans (World.drewN_drewN _ _ _) (congrArg (World.drewN _) (Nat.add_assoc _ _ _))⟩)))
               repeat (go_quiet (first | (go_at_call 130; (with_reducible refine (cmp_Less_int.calls (rd l0 x3_1) (rd l0 (ji5)) false _ A8.out).mono ?_); rintro e w' ⟨rfl, ⟨nd, rfl⟩⟩; (try first | exact ⟨rfl, _, World.drewN_drewN _ _ _⟩ | exact ⟨rfl, _, Eq.trans (World.drewN_drewN _ _ _) (congrArg (World.drewN _) (Nat.add_assoc _ _ _))⟩))); try go_wp2_with (first | (go_at_call 130; (with_reducible refine (cmp_Less_int.calls (rd l0 x3_1) (rd l0 (ji5)) false _ A8.out).mono ?_); rintro e w' ⟨rfl, ⟨nd, rfl⟩⟩; (try first | exact ⟨rfl, _, World.drewN_drewN _ _ _⟩ | exact ⟨rfl, _, Eq.trans (World.drewN_drewN _ _ _) (congrArg (World.drewN _) (Nat.add_assoc _ _ _))⟩))))
               go_roundg k1
               case measure => have := HK1.out; omega
               case rel => exact ⟨(ji5), (by first | rfl | (simp; done) | (simp only [← hji5] <;> (first | rfl | simp)) | (simp [*]; done)), H', ⟨by have := HK1.out; omega⟩, by repeat (first | exact Drawn0.refl _ | apply Drawn0.step)⟩
           · rw [if_neg c7] at H
             exact absurd H (by simp)
         · rw [if_neg c6] at H
           exact absurd H (by simp)
       · rw [if_neg c4] at H
         exact absurd H (by simp)
     · rw [if_neg c3] at H
       exact absurd H (by simp)
   · rw [if_neg c2] at H
     have c2b0 : decide (0 < x3_1) = false := decide_eq_false c2
     clear c2
     obtain rfl := Option.some.inj H
     go_wp2
     repeat (go_quiet (fail); try go_wp2)
     go_ret
     exact ⟨by first | rfl | (simp; done) | (simp [*]; done), by repeat (first | exact Drawn0.refl _ | apply Drawn0.step)⟩
end Go.Proofs.Ythlmmcmpllgflaa.P
namespace Go.Proofs.Ythlmmcmpllgflaa.P
open Go.RowKit Go.Proofs.YthlmmcmpllgflaaW.PrintWords Go.Proofs.YthlmmcmpllgflaaW.PrintLast Go.Proofs.YthlmmcmpllgflaaW.PrintMore
attribute [local go_sem] max2_int min2_int max_two min_two max_three min_three max_four min_four
set_option linter.unusedVariables false
set_option linter.unusedSimpArgs false
def impl_copied.f (l0 : List Int) : Option (List Int) := (some (([] : List Int) : List Int)).bind fun y299 => (if y299.length + l0.length < 17592186044416 then (some (y299 ++ l0)) else (none))
set_option maxHeartbeats 8000000 in
set_option maxRecDepth 100000 in
theorem impl_copied.calls (A0 : Option Addr) (c0 : Nat) (l0 : List Int) (r : List Int) (w : World) (hr0 : Kd.C (Kd.int .i64) w A0 l0.length l0) (hc0 : l0.length ≤ c0) (h : impl_copied.f l0 = some r) :
 Calls Try.prog 110 #[.slice A0 l0.length c0] w fun e w' => ∃ v0_ : Value, e = .returned (v0_) ∧ Kd.R (Kd.int .i64) 3 w' w.heap.size (fun _ => True) v0_ r ∧ Below w.heap.size w w' := by
 have HR0 := Aside0.mk hr0
 have HC0 := Aside0.mk hc0
 clear hr0 hc0
 have HB := Aside0.mk (Below.refl w.heap.size w)
 have H : ((some (([] : List Int) : List Int)).bind fun y299 => (if y299.length + l0.length < 17592186044416 then (some (y299 ++ l0)) else (none))) = some r := h
 clear h
 obtain ⟨y299, hy299⟩ : ∃ y_ : List Int, y_ = (([] : List Int)) := ⟨_, rfl⟩
 replace H : (if y299.length + l0.length < 17592186044416 then (some (y299 ++ l0)) else (none)) = some r := by first | (rw [hy299]; with_reducible exact H) | (have H2_ := (Option.bind_some _ _).symm.trans H; rw [hy299]; with_reducible exact H2_) | (have H2_ := (Option.bind_some _ _).symm.trans H; with_reducible exact H2_) | with_reducible exact H | (rw [hy299]; exact H) | exact H
 have Ny299 := Aside0.mk hy299
 clear hy299
 by_cases c2 : y299.length + l0.length < 17592186044416
 · rw [if_pos c2] at H
   have LMc2 := Aside0.mk c2
   clear c2
   obtain ⟨y302, hy302⟩ : ∃ y_ : List Int, y_ = (y299 ++ l0) := ⟨_, rfl⟩
   replace H : (some y302) = some r := by first | (rw [hy302]; with_reducible exact H) | (have H2_ := (Option.bind_some _ _).symm.trans H; rw [hy302]; with_reducible exact H2_) | (have H2_ := (Option.bind_some _ _).symm.trans H; with_reducible exact H2_) | with_reducible exact H | (rw [hy302]; exact H) | exact H
   have Ny302 := Aside0.mk hy302
   clear hy302
   obtain rfl := Option.some.inj H
   go_enter Try.func110, Try.ntmps110
   go_wp2_with (first | ((with_reducible refine gate_dst (N := 3) rfl ?_); refine Kd.R_lit (Kd.int .i64) _ 3 ?hg (N := 3) ?hd (xs := ([] : List Int)) (inner := []) (ok := fun _ => True) (okp := fun _ => True) ?hr ?hp (fun _ hk => hk) trivial (Below.refl _ _) (Nat.le_refl _) (by simp) ?_; (case hd => rfl); (case hg => rfl); (case hr => first | (go_simp; done) | (go_simp; rfl)); (case hp => exact (Reps.none _ _)); intro v300 w3 ho4 hb hg_ hnew_; clear hg_ hnew_; (first | rw [← Ny299.out] at ho4 | (simp only [Int.reduceToNat] at ho4; rw [← Ny299.out] at ho4)); have n0_ := Aside0.mk (Kd.R_lower ho4 (below_size (by repeat (first | (with_reducible first | exact HB.out | apply below_alloc | apply pw_below_drewN | apply below_drew1) | exact HB.out)))); have n1_ := Aside0.mk (below_step (by repeat (first | (with_reducible first | exact HB.out | apply below_alloc | apply pw_below_drewN | apply below_drew1) | exact HB.out)) hb); clear HB; have HO301 := n0_; have HB := n1_; clear n0_ n1_; clear hb ho4) | ((with_reducible refine gate_builtin (b := .append) (xs := #[.tmp 3, .tmp 4]) rfl ?_); at_builtin; refine Kd.R_append_rows (Kd.int .i64) (w0 := w) w.heap.size rfl (.tmp 3) (.tmp 4) 24 3 (.int .i64 0) 8 rfl Try.underlying24 info3 rfl (by decide) (by omega) v300 y299 l0 _ _ _ (fun _ => True) (fun _ => False) rfl rfl ?aO ?aR (fun _ _ h => h) (fun _ h => h.elim) ?aF ?aB ?aS ?aL ?_; (case aR => repeat (first | exact (Kd.C_below HR0.out HB.out) | (with_reducible refine Kd.C_alloc ?_ _) | (with_reducible refine Kd.C_drewN ?_ _) | (with_reducible refine Kd.C_drew ?_))); (case aB => exact (by repeat (first | (with_reducible first | exact HB.out | apply below_alloc | apply pw_below_drewN | apply below_drew1) | exact HB.out))); (case aF => exact (fun _ _ => trivial)); (case aO => exact (by (with_reducible repeat (first | apply Kd.R_alloc | apply Kd.R_drewN | apply Kd.R_drew)); exact HO301.out)); (case aS => exact (below_size (by repeat (first | (with_reducible first | exact HB.out | apply below_alloc | apply pw_below_drewN | apply below_drew1) | exact HB.out)))); (case aL => have := LMc2.out; omega); intro v303 w5 ho hb hg hat; rw [← Ny302.out] at ho; have n0_ := Aside0.mk (hb); have n1_ := Aside0.mk (ho); clear HB; clear HO301; have HB := n0_; have HO304 := n1_; clear n0_ n1_; clear ho hb hg hat))
   go_ret
   exact ⟨_, by first | rfl | (simp [errW_none, errW_some] <;> rfl) | (simp [*, errW_none, errW_some] <;> rfl), by (with_reducible repeat (first | apply Kd.R_alloc | apply Kd.R_drewN | apply Kd.R_drew)); exact HO304.out, by repeat (first | (with_reducible first | exact HB.out | apply below_alloc | apply pw_below_drewN | apply below_drew1) | exact HB.out)⟩
 · rw [if_neg c2] at H
   exact absurd H (by simp)
end Go.Proofs.Ythlmmcmpllgflaa.P
namespace Go.Proofs.Ythlmmcmpllgflaa.P
open Go.RowKit Go.Proofs.YthlmmcmpllgflaaW.PrintWords Go.Proofs.YthlmmcmpllgflaaW.PrintLast Go.Proofs.YthlmmcmpllgflaaW.PrintMore
attribute [local go_sem] max2_int min2_int max_two min_two max_three min_three max_four min_four
set_option linter.unusedVariables false
set_option linter.unusedSimpArgs false
def spec_l1In.f (a0 : Int) (a1 : Int) (a2 : Int) : Option (Bool) := if a0 ≥ a1 then (some (decide (a0 ≤ a2))) else (some false)
set_option maxHeartbeats 8000000 in
set_option maxRecDepth 100000 in
theorem spec_l1In.calls (a0 : Int) (a1 : Int) (a2 : Int) (r : Bool) (w : World) (h : spec_l1In.f a0 a1 a2 = some r) :
 Calls Try.prog 87 #[.int .i64 a0, .int .i64 a1, .int .i64 a2] w fun e w' => e = .returned (.bool r) ∧ Drawn0 w w' := by
 have H : (if a0 ≥ a1 then (some (decide (a0 ≤ a2))) else (some false)) = some r := h
 clear h
 by_cases c4 : a0 ≥ a1
 · rw [if_pos c4] at H
   have c4b0 : decide (a1 ≤ a0) = true := decide_eq_true c4
   clear c4
   obtain rfl := Option.some.inj H
   go_enter Try.func87, Try.ntmps87
   go_wp2
   go_ret
   exact ⟨by first | rfl | (simp; done) | (simp [*]; done), by repeat (first | exact Drawn0.refl _ | apply Drawn0.step)⟩
 · rw [if_neg c4] at H
   have c4b0 : decide (a1 ≤ a0) = false := decide_eq_false c4
   clear c4
   obtain rfl := Option.some.inj H
   go_enter Try.func87, Try.ntmps87
   go_wp2
   go_ret
   exact ⟨by first | rfl | (simp; done) | (simp [*]; done), by repeat (first | exact Drawn0.refl _ | apply Drawn0.step)⟩
end Go.Proofs.Ythlmmcmpllgflaa.P
namespace Go.Proofs.Ythlmmcmpllgflaa.P
open Go.RowKit Go.Proofs.YthlmmcmpllgflaaW.PrintWords Go.Proofs.YthlmmcmpllgflaaW.PrintLast Go.Proofs.YthlmmcmpllgflaaW.PrintMore
attribute [local go_sem] max2_int min2_int max_two min_two max_three min_three max_four min_four
set_option linter.unusedVariables false
set_option linter.unusedSimpArgs false
def spec_l2Row.l0 : Nat → List Int → Int → Int → Int → Option (Bool)
 | 0, _, _, _, _ => none
 | k + 1, x0, x1, x2, x7 => if x7 < (x0.length : Int) then (if 0 ≤ x7 then ((spec_l1In.f (rd x0 x7) 0 x2).bind fun t388 => (if t388 = true then (spec_l2Row.l0 k x0 x1 x2 (wrap64 (x7 + 1))) else (some false))) else (none)) else (some ((x0.length : Int) == x1))
def spec_l2Row.f (k : Nat) (l0 : List Int) (a1 : Int) (a2 : Int) : Option (Bool) := spec_l2Row.l0 k l0 a1 a2 0
set_option maxHeartbeats 8000000 in
set_option maxRecDepth 100000 in
theorem spec_l2Row.calls (k : Nat) (A0 : Option Addr) (c0 : Nat) (l0 : List Int) (a1 : Int) (a2 : Int) (r : Bool) (w : World) (hr0 : Kd.C (Kd.int .i64) w A0 l0.length l0) (hc0 : l0.length ≤ c0) (h : spec_l2Row.f k l0 a1 a2 = some r) :
 Calls Try.prog 112 #[.slice A0 l0.length c0, .int .i64 a1, .int .i64 a2] w fun e w' => e = .returned (.bool r) ∧ Drawn0 w w' := by
 have HR0 := Aside0.mk hr0
 have HC0 := Aside0.mk hc0
 clear hr0 hc0
 have H : (spec_l2Row.l0 k l0 a1 a2 0) = some r := h
 clear h
 have H' := Aside0.mk H
 clear H
 go_enter Try.func112, Try.ntmps112
 go_wp2
 go_loopg [7] k (fun kq v7 w' => ∃ (x7_1 : Int), v7 = .int .i64 x7_1 ∧ Aside0 (spec_l2Row.l0 kq l0 a1 a2 x7_1 = some r) ∧ Aside0 (kq ≤ k) ∧ Drawn0 w w')
 case atStart => exact ⟨(0), (by first | rfl | (simp; done) | (simp [*]; done)), H', ⟨Nat.le_refl _⟩, by repeat (first | exact Drawn0.refl _ | apply Drawn0.step)⟩
 case round =>
  clear H'
  try clear c1
  try clear p2
  obtain ⟨x7_1, rfl, HA, HK1, ⟨m1, rfl⟩⟩ := hrel
  cases gk with
  | zero => exact absurd HA.out (by simp [spec_l2Row.l0])
  | succ k1 =>
   have H := HA.out
   clear HA
   simp only [spec_l2Row.l0] at H
   by_cases c4 : x7_1 < (l0.length : Int)
   · rw [if_pos c4] at H
     have c4b0 : decide (x7_1 < (l0.length : Int)) = true := decide_eq_true c4
     clear c4
     by_cases c5 : 0 ≤ x7_1
     · rw [if_pos c5] at H
       have c5b0 : decide (0 ≤ x7_1) = true := decide_eq_true c5
       clear c5
       replace H := Option.bind_eq_some_iff.mp H
       obtain ⟨t388, A60, H⟩ := H
       replace H : (if t388 = true then (spec_l2Row.l0 k1 l0 a1 a2 (wrap64 (x7_1 + 1))) else (some false)) = some r := H
       have A6 := Aside0.mk A60
       clear A60
       by_cases c7 : t388 = true
       · subst c7
         have H1 : (spec_l2Row.l0 k1 l0 a1 a2 (wrap64 (x7_1 + 1))) = some r := by rw [if_pos rfl] at H; exact H
         clear H
         have H := H1
         clear H1
         have H' := Aside0.mk H
         clear H
         have p387 : 0 ≤ (x7_1 : Int) := of_decide_eq_true (by first | (with_reducible assumption) | assumption)
         have q387 : x7_1 < (l0.length : Int) := of_decide_eq_true (by first | (with_reducible assumption) | assumption)
         obtain ⟨ad387, e387, hx387_0⟩ := Kd.at_int HR0.out x7_1 p387 q387
         cases e387
         replace p387 := eq_true p387
         replace q387 := eq_true q387
         go_wp2_with (first | ((with_reducible refine gate_callee (f := 87) rfl ?_); refine goesL_ (some 19) rfl rfl Try.func87 (by kernel_rfl) rfl #[.int .i64 (rd l0 x7_1), .int .i64 0, .int .i64 a2] rfl (by (try simp only [List.map_toArray, List.map_cons, List.map_nil]); first | done | rfl | (simp only [List.length_drop, List.length_take]; rfl)) ?_; (with_reducible refine (spec_l1In.calls (rd l0 x7_1) 0 a2 true _ A6.out).mono ?_); rintro e w' ⟨rfl, ⟨nd, rfl⟩⟩; refine ⟨_, rfl, ?_⟩))
         go_roundg k1
         case measure => have := HK1.out; omega
         case rel => exact ⟨(wrap64 (x7_1 + 1)), (by first | rfl | (simp; done) | (simp [*]; done)), H', ⟨by have := HK1.out; omega⟩, by repeat (first | exact Drawn0.refl _ | apply Drawn0.step)⟩
       · replace c7 := Bool.eq_false_iff.mpr c7
         subst c7
         have H1 : (some false) = some r := by rw [if_neg (show ¬ (false = true) by decide)] at H; exact H
         clear H
         have H := H1
         clear H1
         obtain rfl := Option.some.inj H
         have p387 : 0 ≤ (x7_1 : Int) := of_decide_eq_true (by first | (with_reducible assumption) | assumption)
         have q387 : x7_1 < (l0.length : Int) := of_decide_eq_true (by first | (with_reducible assumption) | assumption)
         obtain ⟨ad387, e387, hx387_0⟩ := Kd.at_int HR0.out x7_1 p387 q387
         cases e387
         replace p387 := eq_true p387
         replace q387 := eq_true q387
         go_wp2_with (first | ((with_reducible refine gate_callee (f := 87) rfl ?_); refine goesL_ (some 19) rfl rfl Try.func87 (by kernel_rfl) rfl #[.int .i64 (rd l0 x7_1), .int .i64 0, .int .i64 a2] rfl (by (try simp only [List.map_toArray, List.map_cons, List.map_nil]); first | done | rfl | (simp only [List.length_drop, List.length_take]; rfl)) ?_; (with_reducible refine (spec_l1In.calls (rd l0 x7_1) 0 a2 false _ A6.out).mono ?_); rintro e w' ⟨rfl, ⟨nd, rfl⟩⟩; refine ⟨_, rfl, ?_⟩))
         go_ret
         exact ⟨by first | rfl | (simp; done) | (simp [*]; done), by repeat (first | exact Drawn0.refl _ | apply Drawn0.step)⟩
     · rw [if_neg c5] at H
       exact absurd H (by simp)
   · rw [if_neg c4] at H
     have c4b0 : decide (x7_1 < (l0.length : Int)) = false := decide_eq_false c4
     clear c4
     obtain rfl := Option.some.inj H
     go_wp2
     go_ret
     exact ⟨by first | rfl | (simp; done) | (simp [*]; done), by repeat (first | exact Drawn0.refl _ | apply Drawn0.step)⟩
end Go.Proofs.Ythlmmcmpllgflaa.P
namespace Go.Proofs.Ythlmmcmpllgflaa.P
open Go.RowKit Go.Proofs.YthlmmcmpllgflaaW.PrintWords Go.Proofs.YthlmmcmpllgflaaW.PrintLast Go.Proofs.YthlmmcmpllgflaaW.PrintMore
attribute [local go_sem] max2_int min2_int max_two min_two max_three min_three max_four min_four
set_option linter.unusedVariables false
set_option linter.unusedSimpArgs false
def spec_l2Sum.l0 : Nat → List Int → Int → Int → Option (Int)
 | 0, _, _, _ => none
 | k + 1, x0, x3, x4 => if x4 < (x0.length : Int) then (if 0 ≤ x4 then (spec_l2Sum.l0 k x0 (wrap64 (x3 + (rd x0 x4))) (wrap64 (x4 + 1))) else (none)) else (some x3)
def spec_l2Sum.f (k : Nat) (l0 : List Int) : Option (Int) := spec_l2Sum.l0 k l0 0 0
set_option maxHeartbeats 8000000 in
set_option maxRecDepth 100000 in
theorem spec_l2Sum.calls (k : Nat) (A0 : Option Addr) (c0 : Nat) (l0 : List Int) (r : Int) (w : World) (hr0 : Kd.C (Kd.int .i64) w A0 l0.length l0) (hc0 : l0.length ≤ c0) (h : spec_l2Sum.f k l0 = some r) :
 Calls Try.prog 115 #[.slice A0 l0.length c0] w fun e w' => e = .returned (.int .i64 r) ∧ Drawn0 w w' := by
 have HR0 := Aside0.mk hr0
 have HC0 := Aside0.mk hc0
 clear hr0 hc0
 have H : (spec_l2Sum.l0 k l0 0 0) = some r := h
 clear h
 have H' := Aside0.mk H
 clear H
 go_enter Try.func115, Try.ntmps115
 go_wp2
 go_loopg [3, 4] k (fun kq v3 v4 w' => ∃ (x3_1 : Int) (x4_1 : Int), v3 = .int .i64 x3_1 ∧ v4 = .int .i64 x4_1 ∧ Aside0 (spec_l2Sum.l0 kq l0 x3_1 x4_1 = some r) ∧ Aside0 (kq ≤ k) ∧ Drawn0 w w')
 case atStart => exact ⟨(0), (0), (by first | rfl | (simp; done) | (simp [*]; done)), (by first | rfl | (simp; done) | (simp [*]; done)), H', ⟨Nat.le_refl _⟩, by repeat (first | exact Drawn0.refl _ | apply Drawn0.step)⟩
 case round =>
  clear H'
  try clear c1
  obtain ⟨x3_1, x4_1, rfl, rfl, HA, HK1, ⟨m1, rfl⟩⟩ := hrel
  cases gk with
  | zero => exact absurd HA.out (by simp [spec_l2Sum.l0])
  | succ k1 =>
   have H := HA.out
   clear HA
   simp only [spec_l2Sum.l0] at H
   by_cases c2 : x4_1 < (l0.length : Int)
   · rw [if_pos c2] at H
     have c2b0 : decide (x4_1 < (l0.length : Int)) = true := decide_eq_true c2
     clear c2
     by_cases c3 : 0 ≤ x4_1
     · rw [if_pos c3] at H
       have c3b0 : decide (0 ≤ x4_1) = true := decide_eq_true c3
       clear c3
       have H' := Aside0.mk H
       clear H
       have p410 : 0 ≤ (x4_1 : Int) := of_decide_eq_true (by first | (with_reducible assumption) | assumption)
       have q410 : x4_1 < (l0.length : Int) := of_decide_eq_true (by first | (with_reducible assumption) | assumption)
       obtain ⟨ad410, e410, hx410_0⟩ := Kd.at_int HR0.out x4_1 p410 q410
       cases e410
       replace p410 := eq_true p410
       replace q410 := eq_true q410
       go_wp2
       go_roundg k1
       case measure => have := HK1.out; omega
       case rel => exact ⟨(wrap64 (x3_1 + (rd l0 x4_1))), (wrap64 (x4_1 + 1)), (by first | rfl | (simp; done) | (simp [*]; done)), (by first | rfl | (simp; done) | (simp [*]; done)), H', ⟨by have := HK1.out; omega⟩, by repeat (first | exact Drawn0.refl _ | apply Drawn0.step)⟩
     · rw [if_neg c3] at H
       exact absurd H (by simp)
   · rw [if_neg c2] at H
     have c2b0 : decide (x4_1 < (l0.length : Int)) = false := decide_eq_false c2
     clear c2
     obtain rfl := Option.some.inj H
     go_wp2
     go_ret
     exact ⟨by first | rfl | (simp; done) | (simp [*]; done), by repeat (first | exact Drawn0.refl _ | apply Drawn0.step)⟩
end Go.Proofs.Ythlmmcmpllgflaa.P
namespace Go.Proofs.Ythlmmcmpllgflaa.P
open Go.RowKit Go.Proofs.YthlmmcmpllgflaaW.PrintWords Go.Proofs.YthlmmcmpllgflaaW.PrintLast Go.Proofs.YthlmmcmpllgflaaW.PrintMore
attribute [local go_sem] max2_int min2_int max_two min_two max_three min_three max_four min_four
set_option linter.unusedVariables false
set_option linter.unusedSimpArgs false
def laws_szIntS.f (l0 : List Int) (a1 : Int) : Option (Int) := if (wrap64 (a1 - (l0.length : Int))) < 0 then (some (-1)) else (some (wrap64 (a1 - (l0.length : Int))))
set_option maxHeartbeats 8000000 in
set_option maxRecDepth 100000 in
theorem laws_szIntS.calls (A0 : Option Addr) (c0 : Nat) (l0 : List Int) (a1 : Int) (r : Int) (w : World) (hr0 : Kd.C (Kd.int .i64) w A0 l0.length l0) (hc0 : l0.length ≤ c0) (h : laws_szIntS.f l0 a1 = some r) :
 Calls Try.prog 79 #[.slice A0 l0.length c0, .int .i64 a1] w fun e w' => e = .returned (.int .i64 r) ∧ Drawn0 w w' := by
 have HR0 := Aside0.mk hr0
 have HC0 := Aside0.mk hc0
 clear hr0 hc0
 have H : (if (wrap64 (a1 - (l0.length : Int))) < 0 then (some (-1)) else (some (wrap64 (a1 - (l0.length : Int))))) = some r := h
 clear h
 by_cases c3 : (wrap64 (a1 - (l0.length : Int))) < 0
 · rw [if_pos c3] at H
   have c3b0 : decide ((wrap64 (a1 - (l0.length : Int))) < 0) = true := decide_eq_true c3
   clear c3
   obtain rfl := Option.some.inj H
   go_enter Try.func79, Try.ntmps79
   go_wp2
   go_ret
   exact ⟨by first | rfl | (simp; done) | (simp [*]; done), by repeat (first | exact Drawn0.refl _ | apply Drawn0.step)⟩
 · rw [if_neg c3] at H
   have c3b0 : decide ((wrap64 (a1 - (l0.length : Int))) < 0) = false := decide_eq_false c3
   clear c3
   obtain rfl := Option.some.inj H
   go_enter Try.func79, Try.ntmps79
   go_wp2
   go_ret
   exact ⟨by first | rfl | (simp; done) | (simp [*]; done), by repeat (first | exact Drawn0.refl _ | apply Drawn0.step)⟩
end Go.Proofs.Ythlmmcmpllgflaa.P
namespace Go.Proofs.Ythlmmcmpllgflaa.P
open Go.RowKit Go.Proofs.YthlmmcmpllgflaaW.PrintWords Go.Proofs.YthlmmcmpllgflaaW.PrintLast Go.Proofs.YthlmmcmpllgflaaW.PrintMore
attribute [local go_sem] max2_int min2_int max_two min_two max_three min_three max_four min_four
set_option linter.unusedVariables false
set_option linter.unusedSimpArgs false
def laws_szChain.f (l0_0 : List Int) (l0_1 : List Int) (l0_2 : List Int) (a1 : Int) : Option (Int) := (laws_szIntS.f l0_0 a1).bind fun t1637 => (if t1637 < 0 then (some (-1)) else ((laws_szIntS.f l0_1 t1637).bind fun t1638 => (if t1638 < 0 then (some (-1)) else ((laws_szIntS.f l0_2 t1638).bind fun t1639 => (if t1639 < 0 then (some (-1)) else (some t1639))))))
set_option maxHeartbeats 8000000 in
set_option maxRecDepth 100000 in
theorem laws_szChain.calls (A0_0 : Option Addr) (c0_0 : Nat) (l0_0 : List Int) (A0_1 : Option Addr) (c0_1 : Nat) (l0_1 : List Int) (A0_2 : Option Addr) (c0_2 : Nat) (l0_2 : List Int) (a1 : Int) (r : Int) (w : World) (hr0_0 : Kd.C (Kd.int .i64) w A0_0 l0_0.length l0_0) (hc0_0 : l0_0.length ≤ c0_0) (hr0_1 : Kd.C (Kd.int .i64) w A0_1 l0_1.length l0_1) (hc0_1 : l0_1.length ≤ c0_1) (hr0_2 : Kd.C (Kd.int .i64) w A0_2 l0_2.length l0_2) (hc0_2 : l0_2.length ≤ c0_2) (h : laws_szChain.f l0_0 l0_1 l0_2 a1 = some r) :
 Calls Try.prog 22 #[.agg #[.slice A0_0 l0_0.length c0_0, .slice A0_1 l0_1.length c0_1, .slice A0_2 l0_2.length c0_2], .int .i64 a1] w fun e w' => e = .returned (.int .i64 r) ∧ Below w.heap.size w w' := by
 have hu39 := Try.underlying39
 have HR0_0 := Aside0.mk hr0_0
 have HC0_0 := Aside0.mk hc0_0
 clear hr0_0 hc0_0
 have HR0_1 := Aside0.mk hr0_1
 have HC0_1 := Aside0.mk hc0_1
 clear hr0_1 hc0_1
 have HR0_2 := Aside0.mk hr0_2
 have HC0_2 := Aside0.mk hc0_2
 clear hr0_2 hc0_2
 have HB := Aside0.mk (Below.refl w.heap.size w)
 have H : ((laws_szIntS.f l0_0 a1).bind fun t1637 => (if t1637 < 0 then (some (-1)) else ((laws_szIntS.f l0_1 t1637).bind fun t1638 => (if t1638 < 0 then (some (-1)) else ((laws_szIntS.f l0_2 t1638).bind fun t1639 => (if t1639 < 0 then (some (-1)) else (some t1639))))))) = some r := h
 clear h
 replace H := Option.bind_eq_some_iff.mp H
 obtain ⟨t1637, A30, H⟩ := H
 replace H : (if t1637 < 0 then (some (-1)) else ((laws_szIntS.f l0_1 t1637).bind fun t1638 => (if t1638 < 0 then (some (-1)) else ((laws_szIntS.f l0_2 t1638).bind fun t1639 => (if t1639 < 0 then (some (-1)) else (some t1639)))))) = some r := H
 have A3 := Aside0.mk A30
 clear A30
 by_cases c4 : t1637 < 0
 · rw [if_pos c4] at H
   have c4b0 : decide (t1637 < 0) = true := decide_eq_true c4
   clear c4
   obtain rfl := Option.some.inj H
   go_enter Try.func22, Try.ntmps22
   go_wp2_with (first | ((with_reducible refine gate_dst (N := 2) rfl ?_); refine box_event ?hg (N := 2) ?hd (cs := #[.slice A0_0 l0_0.length c0_0, .slice A0_1 l0_1.length c0_1, .slice A0_2 l0_2.length c0_2]) (t := 39) ?hr ?_; (case hd => rfl); (case hg => rfl); (case hr => first | (go_simp; done) | (go_simp; rfl)); intro gb1636 hg w5 hbox hb; have n0_ := Aside0.mk (below_step (by repeat (first | (with_reducible first | exact HB.out | apply below_alloc | apply pw_below_drewN | apply below_drew1) | exact HB.out)) hb); have n1_ := Aside0.mk (hbox); have n2_ := Aside0.mk ((by rw [hg]; exact (below_size (by repeat (first | (with_reducible first | exact HB.out | apply below_alloc | apply pw_below_drewN | apply below_drew1) | exact HB.out))) : w.heap.size ≤ gb1636)); have n3_ := Aside0.mk ((by rw [hg]; exact (below_size (by repeat (first | (with_reducible first | exact HB.out | apply below_alloc | apply pw_below_drewN | apply below_drew1) | exact HB.out))) : w.heap.size ≤ gb1636)); clear HB; have HB := n0_; have BK1636 := n1_; have GW1636 := n2_; have GE1636 := n3_; clear n0_ n1_ n2_ n3_; clear hb hbox hg; have hcz6_0 : w5.cell? ⟨gb1636, 0, none⟩ = some (.slice A0_0 l0_0.length c0_0) := (blk_cell BK1636.out 0).trans rfl; have hcz6_1 : w5.cell? ⟨gb1636, 1, none⟩ = some (.slice A0_1 l0_1.length c0_1) := (blk_cell BK1636.out 1).trans rfl; have hcz6_2 : w5.cell? ⟨gb1636, 2, none⟩ = some (.slice A0_2 l0_2.length c0_2) := (blk_cell BK1636.out 2).trans rfl; have hfz6_0 := blk_frozen BK1636.out 0; have hfz6_1 := blk_frozen BK1636.out 1; have hfz6_2 := blk_frozen BK1636.out 2) | ((with_reducible refine gate_callee (f := 79) rfl ?_); refine goesL_ (some 8) rfl rfl Try.func79 (by kernel_rfl) rfl #[.slice A0_0 l0_0.length c0_0, .int .i64 a1] rfl (by (try simp only [List.map_toArray, List.map_cons, List.map_nil]); first | done | rfl | (simp only [List.length_drop, List.length_take]; rfl)) ?_; (with_reducible refine (laws_szIntS.calls _ _ l0_0 a1 t1637 _ ?side1 ?side2 A3.out).mono ?_); (case side1 => repeat (first | exact (Kd.C_below HR0_0.out HB.out) | (with_reducible refine Kd.C_alloc ?_ _) | (with_reducible refine Kd.C_drewN ?_ _) | (with_reducible refine Kd.C_drew ?_))); (case side2 => exact HC0_0.out); rintro e w' ⟨rfl, ⟨nd, rfl⟩⟩; refine ⟨_, rfl, ?_⟩))
   go_ret
   exact ⟨by first | rfl | (simp [errW_none, errW_some] <;> rfl) | (simp [*, errW_none, errW_some] <;> rfl), by repeat (first | (with_reducible first | exact HB.out | apply below_alloc | apply pw_below_drewN | apply below_drew1 | refine below_set ?_ GE1636.out) | exact HB.out)⟩
 · rw [if_neg c4] at H
   have c4b0 : decide (t1637 < 0) = false := decide_eq_false c4
   clear c4
   replace H := Option.bind_eq_some_iff.mp H
   obtain ⟨t1638, A70, H⟩ := H
   replace H : (if t1638 < 0 then (some (-1)) else ((laws_szIntS.f l0_2 t1638).bind fun t1639 => (if t1639 < 0 then (some (-1)) else (some t1639)))) = some r := H
   have A7 := Aside0.mk A70
   clear A70
   by_cases c8 : t1638 < 0
   · rw [if_pos c8] at H
     have c8b0 : decide (t1638 < 0) = true := decide_eq_true c8
     clear c8
     obtain rfl := Option.some.inj H
     go_enter Try.func22, Try.ntmps22
     go_wp2_with (first | ((with_reducible refine gate_dst (N := 2) rfl ?_); refine box_event ?hg (N := 2) ?hd (cs := #[.slice A0_0 l0_0.length c0_0, .slice A0_1 l0_1.length c0_1, .slice A0_2 l0_2.length c0_2]) (t := 39) ?hr ?_; (case hd => rfl); (case hg => rfl); (case hr => first | (go_simp; done) | (go_simp; rfl)); intro gb1636 hg w9 hbox hb; have n0_ := Aside0.mk (below_step (by repeat (first | (with_reducible first | exact HB.out | apply below_alloc | apply pw_below_drewN | apply below_drew1) | exact HB.out)) hb); have n1_ := Aside0.mk (hbox); have n2_ := Aside0.mk ((by rw [hg]; exact (below_size (by repeat (first | (with_reducible first | exact HB.out | apply below_alloc | apply pw_below_drewN | apply below_drew1) | exact HB.out))) : w.heap.size ≤ gb1636)); have n3_ := Aside0.mk ((by rw [hg]; exact (below_size (by repeat (first | (with_reducible first | exact HB.out | apply below_alloc | apply pw_below_drewN | apply below_drew1) | exact HB.out))) : w.heap.size ≤ gb1636)); clear HB; have HB := n0_; have BK1636 := n1_; have GW1636 := n2_; have GE1636 := n3_; clear n0_ n1_ n2_ n3_; clear hb hbox hg; have hcz10_0 : w9.cell? ⟨gb1636, 0, none⟩ = some (.slice A0_0 l0_0.length c0_0) := (blk_cell BK1636.out 0).trans rfl; have hcz10_1 : w9.cell? ⟨gb1636, 1, none⟩ = some (.slice A0_1 l0_1.length c0_1) := (blk_cell BK1636.out 1).trans rfl; have hcz10_2 : w9.cell? ⟨gb1636, 2, none⟩ = some (.slice A0_2 l0_2.length c0_2) := (blk_cell BK1636.out 2).trans rfl; have hfz10_0 := blk_frozen BK1636.out 0; have hfz10_1 := blk_frozen BK1636.out 1; have hfz10_2 := blk_frozen BK1636.out 2) | ((with_reducible refine gate_callee (f := 79) rfl ?_); refine goesL_ (some 8) rfl rfl Try.func79 (by kernel_rfl) rfl #[.slice A0_0 l0_0.length c0_0, .int .i64 a1] rfl (by (try simp only [List.map_toArray, List.map_cons, List.map_nil]); first | done | rfl | (simp only [List.length_drop, List.length_take]; rfl)) ?_; (with_reducible refine (laws_szIntS.calls _ _ l0_0 a1 t1637 _ ?side1 ?side2 A3.out).mono ?_); (case side1 => repeat (first | exact (Kd.C_below HR0_0.out HB.out) | (with_reducible refine Kd.C_alloc ?_ _) | (with_reducible refine Kd.C_drewN ?_ _) | (with_reducible refine Kd.C_drew ?_))); (case side2 => exact HC0_0.out); rintro e w' ⟨rfl, ⟨nd, rfl⟩⟩; refine ⟨_, rfl, ?_⟩) | ((with_reducible refine gate_callee (f := 79) rfl ?_); refine goesL_ (some 14) rfl rfl Try.func79 (by kernel_rfl) rfl #[.slice A0_1 l0_1.length c0_1, .int .i64 t1637] rfl (by (try simp only [List.map_toArray, List.map_cons, List.map_nil]); first | done | rfl | (simp only [List.length_drop, List.length_take]; rfl)) ?_; (with_reducible refine (laws_szIntS.calls _ _ l0_1 t1637 t1638 _ ?side1 ?side2 A7.out).mono ?_); (case side1 => repeat (first | exact (Kd.C_below HR0_1.out (by repeat (first | (with_reducible first | exact HB.out | apply below_alloc | apply pw_below_drewN | apply below_drew1 | refine below_set ?_ GE1636.out) | exact HB.out))) | (with_reducible refine Kd.C_alloc ?_ _) | (with_reducible refine Kd.C_drewN ?_ _) | (with_reducible refine Kd.C_drew ?_))); (case side2 => exact HC0_1.out); rintro e w' ⟨rfl, ⟨nd, rfl⟩⟩; refine ⟨_, rfl, ?_⟩))
     go_ret
     exact ⟨by first | rfl | (simp [errW_none, errW_some] <;> rfl) | (simp [*, errW_none, errW_some] <;> rfl), by repeat (first | (with_reducible first | exact HB.out | apply below_alloc | apply pw_below_drewN | apply below_drew1 | refine below_set ?_ GE1636.out) | exact HB.out)⟩
   · rw [if_neg c8] at H
     have c8b0 : decide (t1638 < 0) = false := decide_eq_false c8
     clear c8
     replace H := Option.bind_eq_some_iff.mp H
     obtain ⟨t1639, A110, H⟩ := H
     replace H : (if t1639 < 0 then (some (-1)) else (some t1639)) = some r := H
     have A11 := Aside0.mk A110
     clear A110
     by_cases c12 : t1639 < 0
     · rw [if_pos c12] at H
       have c12b0 : decide (t1639 < 0) = true := decide_eq_true c12
       clear c12
       obtain rfl := Option.some.inj H
       go_enter Try.func22, Try.ntmps22
       go_wp2_with (first | ((with_reducible refine gate_dst (N := 2) rfl ?_); refine box_event ?hg (N := 2) ?hd (cs := #[.slice A0_0 l0_0.length c0_0, .slice A0_1 l0_1.length c0_1, .slice A0_2 l0_2.length c0_2]) (t := 39) ?hr ?_; (case hd => rfl); (case hg => rfl); (case hr => first | (go_simp; done) | (go_simp; rfl)); intro gb1636 hg w13 hbox hb; have n0_ := Aside0.mk (below_step (by repeat (first | (with_reducible first | exact HB.out | apply below_alloc | apply pw_below_drewN | apply below_drew1) | exact HB.out)) hb); have n1_ := Aside0.mk (hbox); have n2_ := Aside0.mk ((by rw [hg]; exact (below_size (by repeat (first | (with_reducible first | exact HB.out | apply below_alloc | apply pw_below_drewN | apply below_drew1) | exact HB.out))) : w.heap.size ≤ gb1636)); have n3_ := Aside0.mk ((by rw [hg]; exact (below_size (by repeat (first | (with_reducible first | exact HB.out | apply below_alloc | apply pw_below_drewN | apply below_drew1) | exact HB.out))) : w.heap.size ≤ gb1636)); clear HB; have HB := n0_; have BK1636 := n1_; have GW1636 := n2_; have GE1636 := n3_; clear n0_ n1_ n2_ n3_; clear hb hbox hg; have hcz14_0 : w13.cell? ⟨gb1636, 0, none⟩ = some (.slice A0_0 l0_0.length c0_0) := (blk_cell BK1636.out 0).trans rfl; have hcz14_1 : w13.cell? ⟨gb1636, 1, none⟩ = some (.slice A0_1 l0_1.length c0_1) := (blk_cell BK1636.out 1).trans rfl; have hcz14_2 : w13.cell? ⟨gb1636, 2, none⟩ = some (.slice A0_2 l0_2.length c0_2) := (blk_cell BK1636.out 2).trans rfl; have hfz14_0 := blk_frozen BK1636.out 0; have hfz14_1 := blk_frozen BK1636.out 1; have hfz14_2 := blk_frozen BK1636.out 2) | ((with_reducible refine gate_callee (f := 79) rfl ?_); refine goesL_ (some 8) rfl rfl Try.func79 (by kernel_rfl) rfl #[.slice A0_0 l0_0.length c0_0, .int .i64 a1] rfl (by (try simp only [List.map_toArray, List.map_cons, List.map_nil]); first | done | rfl | (simp only [List.length_drop, List.length_take]; rfl)) ?_; (with_reducible refine (laws_szIntS.calls _ _ l0_0 a1 t1637 _ ?side1 ?side2 A3.out).mono ?_); (case side1 => repeat (first | exact (Kd.C_below HR0_0.out HB.out) | (with_reducible refine Kd.C_alloc ?_ _) | (with_reducible refine Kd.C_drewN ?_ _) | (with_reducible refine Kd.C_drew ?_))); (case side2 => exact HC0_0.out); rintro e w' ⟨rfl, ⟨nd, rfl⟩⟩; refine ⟨_, rfl, ?_⟩) | ((with_reducible refine gate_callee (f := 79) rfl ?_); refine goesL_ (some 14) rfl rfl Try.func79 (by kernel_rfl) rfl #[.slice A0_1 l0_1.length c0_1, .int .i64 t1637] rfl (by (try simp only [List.map_toArray, List.map_cons, List.map_nil]); first | done | rfl | (simp only [List.length_drop, List.length_take]; rfl)) ?_; (with_reducible refine (laws_szIntS.calls _ _ l0_1 t1637 t1638 _ ?side1 ?side2 A7.out).mono ?_); (case side1 => repeat (first | exact (Kd.C_below HR0_1.out (by repeat (first | (with_reducible first | exact HB.out | apply below_alloc | apply pw_below_drewN | apply below_drew1 | refine below_set ?_ GE1636.out) | exact HB.out))) | (with_reducible refine Kd.C_alloc ?_ _) | (with_reducible refine Kd.C_drewN ?_ _) | (with_reducible refine Kd.C_drew ?_))); (case side2 => exact HC0_1.out); rintro e w' ⟨rfl, ⟨nd, rfl⟩⟩; refine ⟨_, rfl, ?_⟩) | ((with_reducible refine gate_callee (f := 79) rfl ?_); refine goesL_ (some 20) rfl rfl Try.func79 (by kernel_rfl) rfl #[.slice A0_2 l0_2.length c0_2, .int .i64 t1638] rfl (by (try simp only [List.map_toArray, List.map_cons, List.map_nil]); first | done | rfl | (simp only [List.length_drop, List.length_take]; rfl)) ?_; (with_reducible refine (laws_szIntS.calls _ _ l0_2 t1638 t1639 _ ?side1 ?side2 A11.out).mono ?_); (case side1 => repeat (first | exact (Kd.C_below HR0_2.out (by repeat (first | (with_reducible first | exact HB.out | apply below_alloc | apply pw_below_drewN | apply below_drew1 | refine below_set ?_ GE1636.out) | exact HB.out))) | (with_reducible refine Kd.C_alloc ?_ _) | (with_reducible refine Kd.C_drewN ?_ _) | (with_reducible refine Kd.C_drew ?_))); (case side2 => exact HC0_2.out); rintro e w' ⟨rfl, ⟨nd, rfl⟩⟩; refine ⟨_, rfl, ?_⟩))
       go_ret
       exact ⟨by first | rfl | (simp [errW_none, errW_some] <;> rfl) | (simp [*, errW_none, errW_some] <;> rfl), by repeat (first | (with_reducible first | exact HB.out | apply below_alloc | apply pw_below_drewN | apply below_drew1 | refine below_set ?_ GE1636.out) | exact HB.out)⟩
     · rw [if_neg c12] at H
       have c12b0 : decide (t1639 < 0) = false := decide_eq_false c12
       clear c12
       obtain rfl := Option.some.inj H
       go_enter Try.func22, Try.ntmps22
       go_wp2_with (first | ((with_reducible refine gate_dst (N := 2) rfl ?_); refine box_event ?hg (N := 2) ?hd (cs := #[.slice A0_0 l0_0.length c0_0, .slice A0_1 l0_1.length c0_1, .slice A0_2 l0_2.length c0_2]) (t := 39) ?hr ?_; (case hd => rfl); (case hg => rfl); (case hr => first | (go_simp; done) | (go_simp; rfl)); intro gb1636 hg w15 hbox hb; have n0_ := Aside0.mk (below_step (by repeat (first | (with_reducible first | exact HB.out | apply below_alloc | apply pw_below_drewN | apply below_drew1) | exact HB.out)) hb); have n1_ := Aside0.mk (hbox); have n2_ := Aside0.mk ((by rw [hg]; exact (below_size (by repeat (first | (with_reducible first | exact HB.out | apply below_alloc | apply pw_below_drewN | apply below_drew1) | exact HB.out))) : w.heap.size ≤ gb1636)); have n3_ := Aside0.mk ((by rw [hg]; exact (below_size (by repeat (first | (with_reducible first | exact HB.out | apply below_alloc | apply pw_below_drewN | apply below_drew1) | exact HB.out))) : w.heap.size ≤ gb1636)); clear HB; have HB := n0_; have BK1636 := n1_; have GW1636 := n2_; have GE1636 := n3_; clear n0_ n1_ n2_ n3_; clear hb hbox hg; have hcz16_0 : w15.cell? ⟨gb1636, 0, none⟩ = some (.slice A0_0 l0_0.length c0_0) := (blk_cell BK1636.out 0).trans rfl; have hcz16_1 : w15.cell? ⟨gb1636, 1, none⟩ = some (.slice A0_1 l0_1.length c0_1) := (blk_cell BK1636.out 1).trans rfl; have hcz16_2 : w15.cell? ⟨gb1636, 2, none⟩ = some (.slice A0_2 l0_2.length c0_2) := (blk_cell BK1636.out 2).trans rfl; have hfz16_0 := blk_frozen BK1636.out 0; have hfz16_1 := blk_frozen BK1636.out 1; have hfz16_2 := blk_frozen BK1636.out 2) | ((with_reducible refine gate_callee (f := 79) rfl ?_); refine goesL_ (some 8) rfl rfl Try.func79 (by kernel_rfl) rfl #[.slice A0_0 l0_0.length c0_0, .int .i64 a1] rfl (by (try simp only [List.map_toArray, List.map_cons, List.map_nil]); first | done | rfl | (simp only [List.length_drop, List.length_take]; rfl)) ?_; (with_reducible refine (laws_szIntS.calls _ _ l0_0 a1 t1637 _ ?side1 ?side2 A3.out).mono ?_); (case side1 => repeat (first | exact (Kd.C_below HR0_0.out HB.out) | (with_reducible refine Kd.C_alloc ?_ _) | (with_reducible refine Kd.C_drewN ?_ _) | (with_reducible refine Kd.C_drew ?_))); (case side2 => exact HC0_0.out); rintro e w' ⟨rfl, ⟨nd, rfl⟩⟩; refine ⟨_, rfl, ?_⟩) | ((with_reducible refine gate_callee (f := 79) rfl ?_); refine goesL_ (some 14) rfl rfl Try.func79 (by kernel_rfl) rfl #[.slice A0_1 l0_1.length c0_1, .int .i64 t1637] rfl (by (try simp only [List.map_toArray, List.map_cons, List.map_nil]); first | done | rfl | (simp only [List.length_drop, List.length_take]; rfl)) ?_; (with_reducible refine (laws_szIntS.calls _ _ l0_1 t1637 t1638 _ ?side1 ?side2 A7.out).mono ?_); (case side1 => repeat (first | exact (Kd.C_below HR0_1.out (by repeat (first | (with_reducible first | exact HB.out | apply below_alloc | apply pw_below_drewN | apply below_drew1 | refine below_set ?_ GE1636.out) | exact HB.out))) | (with_reducible refine Kd.C_alloc ?_ _) | (with_reducible refine Kd.C_drewN ?_ _) | (with_reducible refine Kd.C_drew ?_))); (case side2 => exact HC0_1.out); rintro e w' ⟨rfl, ⟨nd, rfl⟩⟩; refine ⟨_, rfl, ?_⟩) | ((with_reducible refine gate_callee (f := 79) rfl ?_); refine goesL_ (some 20) rfl rfl Try.func79 (by kernel_rfl) rfl #[.slice A0_2 l0_2.length c0_2, .int .i64 t1638] rfl (by (try simp only [List.map_toArray, List.map_cons, List.map_nil]); first | done | rfl | (simp only [List.length_drop, List.length_take]; rfl)) ?_; (with_reducible refine (laws_szIntS.calls _ _ l0_2 t1638 t1639 _ ?side1 ?side2 A11.out).mono ?_); (case side1 => repeat (first | exact (Kd.C_below HR0_2.out (by repeat (first | (with_reducible first | exact HB.out | apply below_alloc | apply pw_below_drewN | apply below_drew1 | refine below_set ?_ GE1636.out) | exact HB.out))) | (with_reducible refine Kd.C_alloc ?_ _) | (with_reducible refine Kd.C_drewN ?_ _) | (with_reducible refine Kd.C_drew ?_))); (case side2 => exact HC0_2.out); rintro e w' ⟨rfl, ⟨nd, rfl⟩⟩; refine ⟨_, rfl, ?_⟩))
       go_ret
       exact ⟨by first | rfl | (simp [errW_none, errW_some] <;> rfl) | (simp [*, errW_none, errW_some] <;> rfl), by repeat (first | (with_reducible first | exact HB.out | apply below_alloc | apply pw_below_drewN | apply below_drew1 | refine below_set ?_ GE1636.out) | exact HB.out)⟩
end Go.Proofs.Ythlmmcmpllgflaa.P
namespace Go.Proofs.Ythlmmcmpllgflaa.P
open Go.RowKit Go.Proofs.YthlmmcmpllgflaaW.PrintWords Go.Proofs.YthlmmcmpllgflaaW.PrintLast Go.Proofs.YthlmmcmpllgflaaW.PrintMore
attribute [local go_sem] max2_int min2_int max_two min_two max_three min_three max_four min_four
set_option linter.unusedVariables false
set_option linter.unusedSimpArgs false
def laws_toIntS.l0 : Nat → List Int → List Int → Int → Option (List Int)
 | 0, _, _, _ => none
 | k + 1, x0, x3, x4 => if x4 < (x0.length : Int) then (if 0 ≤ x4 then (if x4 < (x3.length : Int) then (laws_toIntS.l0 k x0 (x3.set (x4 : Int).toNat (rd x0 x4)) (wrap64 (x4 + 1))) else (none)) else (none)) else (some x3)
def laws_toIntS.f (k : Nat) (l0 : List Int) : Option (List Int) := if 0 ≤ (l0.length : Int) then (if ((l0.length : Int) : Int).toNat ≤ 35184372088832 then (laws_toIntS.l0 k l0 (List.replicate ((l0.length : Int) : Int).toNat 0) 0) else (none)) else (none)
set_option maxHeartbeats 8000000 in
set_option maxRecDepth 100000 in
theorem laws_toIntS.calls (k : Nat) (A0 : Option Addr) (c0 : Nat) (l0 : List Int) (r : List Int) (w : World) (hr0 : Kd.C (Kd.int .i64) w A0 l0.length l0) (hc0 : l0.length ≤ c0) (h : laws_toIntS.f k l0 = some r) :
 Calls Try.prog 80 #[.slice A0 l0.length c0] w fun e w' => ∃ v0_ : Value, e = .returned (v0_) ∧ Kd.R (Kd.int .i64) 3 w' w.heap.size (fun _ => True) v0_ r ∧ Below w.heap.size w w' := by
 have HR0 := Aside0.mk hr0
 have HC0 := Aside0.mk hc0
 clear hr0 hc0
 have HB := Aside0.mk (Below.refl w.heap.size w)
 have H : (if 0 ≤ (l0.length : Int) then (if ((l0.length : Int) : Int).toNat ≤ 35184372088832 then (laws_toIntS.l0 k l0 (List.replicate ((l0.length : Int) : Int).toNat 0) 0) else (none)) else (none)) = some r := h
 clear h
 by_cases c2 : 0 ≤ (l0.length : Int)
 · rw [if_pos c2] at H
   have c2b0 := eq_true c2
   have c2b1 : decide (0 ≤ (l0.length : Int)) = true := decide_eq_true c2
   clear c2
   by_cases c3 : ((l0.length : Int) : Int).toNat ≤ 35184372088832
   · rw [if_pos c3] at H
     have c3b0 := eq_true c3
     have c3b1 : decide (((l0.length : Int) : Int).toNat ≤ 35184372088832) = true := decide_eq_true c3
     clear c3
     obtain ⟨y1640, hy1640⟩ : ∃ y_ : List Int, y_ = (List.replicate ((l0.length : Int) : Int).toNat 0) := ⟨_, rfl⟩
     replace H : (laws_toIntS.l0 k l0 y1640 0) = some r := by first | (rw [hy1640]; with_reducible exact H) | (have H2_ := (Option.bind_some _ _).symm.trans H; rw [hy1640]; with_reducible exact H2_) | (have H2_ := (Option.bind_some _ _).symm.trans H; with_reducible exact H2_) | with_reducible exact H | (rw [hy1640]; exact H) | exact H
     have Ny1640 := Aside0.mk hy1640
     clear hy1640
     have H' := Aside0.mk H
     clear H
     go_enter Try.func80, Try.ntmps80
     go_wp2_with (first | ((with_reducible refine gate_dst (N := 7) rfl ?_); refine Kd.R_make (Kd.int .i64) _ 3 rfl (N := 7) rfl 24 _ _ rfl (l0.length : Int) rfl rfl Try.underlying24 (.int .i64 0) 8 info3 rfl (by decide) (by omega) 0 (ok := fun _ => True) (okp := fun _ => True) rfl (fun _ hk => hk) trivial (of_decide_eq_true (by first | (with_reducible assumption) | assumption)) (Nat.le_trans (Nat.mul_le_mul_right _ (of_decide_eq_true (by first | (with_reducible assumption) | assumption) : (l0.length : Int).toNat ≤ 35184372088832)) (by omega)) (Below.refl _ _) (Nat.le_refl _) ?_; intro v1641 w4 ho5 hb hg_ hnew_; clear hg_ hnew_; (first | rw [← Ny1640.out] at ho5 | (simp only [Int.reduceToNat] at ho5; rw [← Ny1640.out] at ho5)); have n0_ := Aside0.mk (Kd.R_lower ho5 (below_size (by repeat (first | (with_reducible first | exact HB.out | apply below_alloc | apply pw_below_drewN | apply below_drew1) | exact HB.out)))); have n1_ := Aside0.mk (below_step (by repeat (first | (with_reducible first | exact HB.out | apply below_alloc | apply pw_below_drewN | apply below_drew1) | exact HB.out)) hb); clear HB; have HO1642 := n0_; have HB := n1_; clear n0_ n1_; clear hb ho5))
     go_loopg [4] k (fun kq v4 w' => ∃ (x3_1 : List Int) (x4_1 : Int), v4 = .int .i64 x4_1 ∧ Aside0 (laws_toIntS.l0 kq l0 x3_1 x4_1 = some r) ∧ Aside0 (kq ≤ k) ∧ Aside0 (Kd.R (Kd.int .i64) 3 w' w.heap.size (fun _ => True) v1641 x3_1) ∧ Aside0 (Below w.heap.size w w'))
     case atStart => exact ⟨(y1640), (0), (by first | rfl | (simp; done) | (simp [*]; done)), H', ⟨Nat.le_refl _⟩, ⟨by (with_reducible repeat (first | apply Kd.R_alloc | apply Kd.R_drewN | apply Kd.R_drew)); exact HO1642.out⟩, ⟨by repeat (first | (with_reducible first | exact HB.out | apply below_alloc | apply pw_below_drewN | apply below_drew1) | exact HB.out)⟩⟩
     case round =>
      clear H'
      try clear c2
      try clear c2b0
      try clear c2b1
      try clear p2
      try clear c3
      try clear c3b0
      try clear c3b1
      obtain ⟨x3_1, x4_1, rfl, HA, HK1, HO_3, HB⟩ := hrel
      cases gk with
      | zero => exact absurd HA.out (by simp [laws_toIntS.l0])
      | succ k1 =>
       have H := HA.out
       clear HA
       simp only [laws_toIntS.l0] at H
       by_cases c6 : x4_1 < (l0.length : Int)
       · rw [if_pos c6] at H
         have c6b0 : decide (x4_1 < (l0.length : Int)) = true := decide_eq_true c6
         clear c6
         by_cases c7 : 0 ≤ x4_1
         · rw [if_pos c7] at H
           have c7b0 : decide (0 ≤ x4_1) = true := decide_eq_true c7
           clear c7
           by_cases c8 : x4_1 < (x3_1.length : Int)
           · rw [if_pos c8] at H
             have c8b0 : decide (x4_1 < (x3_1.length : Int)) = true := decide_eq_true c8
             clear c8
             obtain ⟨y1644, hy1644⟩ : ∃ y_ : List Int, y_ = (x3_1.set (x4_1 : Int).toNat (rd l0 x4_1)) := ⟨_, rfl⟩
             replace H : (laws_toIntS.l0 k1 l0 y1644 (wrap64 (x4_1 + 1))) = some r := by first | (rw [hy1644]; with_reducible exact H) | (have H2_ := (Option.bind_some _ _).symm.trans H; rw [hy1644]; with_reducible exact H2_) | (have H2_ := (Option.bind_some _ _).symm.trans H; with_reducible exact H2_) | with_reducible exact H | (rw [hy1644]; exact H) | exact H
             have Ny1644 := Aside0.mk hy1644
             clear hy1644
             have H' := Aside0.mk H
             clear H
             have p1643 : 0 ≤ (x4_1 : Int) := of_decide_eq_true (by first | (with_reducible assumption) | assumption)
             have q1643 : x4_1 < (l0.length : Int) := of_decide_eq_true (by first | (with_reducible assumption) | assumption)
             obtain ⟨ad1643, e1643, hx1643_0⟩ := Kd.at_int HR0.out x4_1 p1643 q1643
             cases e1643
             replace hx1643_0 := (HB.out.cell (World.block_lt_of_cell? w _ hx1643_0)).trans hx1643_0
             replace p1643 := eq_true p1643
             replace q1643 := eq_true q1643
             have p9 : 0 ≤ (x4_1 : Int) := of_decide_eq_true (by first | (with_reducible assumption) | assumption)
             have q9 : (x4_1 : Int) < ((x3_1.length : Int) : Int) := of_decide_eq_true (by first | (with_reducible assumption) | assumption)
             obtain ⟨go9, co9, eo9, gb9, gl9, cl9, HG9⟩ := Kd.R_form HO_3.out (by omega)
             (first | cases eo9 | (injection eo9 with ea_ en_ ec_; (first | subst ea_ | (injection ea_ with ea_; subst ea_)); subst ec_; clear en_))
             have GB9 := Aside0.mk gb9
             have GG9 := Aside0.mk HG9
             clear gb9 gl9 HG9
             obtain ⟨hx9_0, hf9_0⟩ := Kd.R_celln 0 HO_3.out (x4_1 : Int) p9 q9
             replace p9 := eq_true p9
             replace q9 := eq_true q9
             have HP10 := Kd.R_putg HO_3.out (x4_1 : Int) (rd l0 x4_1)
             go_wp2_with (first | ((with_reducible refine gate_store (t := 3) (p := 20) rfl ?_); refine store_event (t := 3) (p := 20) (v := ?vo_w11) (w1 := (wr.setCell ⟨go9, (x4_1 : Int).toNat, none⟩ (.int .i64 (rd l0 x4_1)))) ?hg ?ho ?hn ?hr ?_; (case ho => rfl); (case hg => rfl); (case hn => rfl); (case hr => first | (go_simp; done) | (go_simp; rfl)); intro w11 hw; have hg : wr.grownBy w11 (some go9) := (by rw [hw]; exact HP10.2); have hp_ : Kd.R (Kd.int .i64) 3 w11 w.heap.size (fun _ => True) (.slice (some ⟨go9, 0, none⟩) x3_1.length co9) y1644 := (by rw [hw, Ny1644.out]; exact HP10.1); clear HP10; have n0_ := Aside0.mk (hp_); have n1_ := Aside0.mk ((by rw [hw]; exact below_set (HB.out) GB9.out : Below w.heap.size w w11)); clear HO_3; clear HB; have HO_3 := n0_; have HB := n1_; clear n0_ n1_; clear hg hw hp_))
             go_roundg k1
             case measure => have := HK1.out; omega
             case rel => exact ⟨(y1644), (wrap64 (x4_1 + 1)), (by first | rfl | (simp; done) | (simp [*]; done)), H', ⟨by have := HK1.out; omega⟩, ⟨by (with_reducible repeat (first | apply Kd.R_alloc | apply Kd.R_drewN | apply Kd.R_drew)); exact HO_3.out⟩, ⟨by repeat (first | (with_reducible first | exact HB.out | apply below_alloc | apply pw_below_drewN | apply below_drew1) | exact HB.out)⟩⟩
           · rw [if_neg c8] at H
             exact absurd H (by simp)
         · rw [if_neg c7] at H
           exact absurd H (by simp)
       · rw [if_neg c6] at H
         have c6b0 : decide (x4_1 < (l0.length : Int)) = false := decide_eq_false c6
         clear c6
         obtain rfl := Option.some.inj H
         go_wp2
         go_ret
         exact ⟨_, by first | rfl | (simp [errW_none, errW_some] <;> rfl) | (simp [*, errW_none, errW_some] <;> rfl), by (with_reducible repeat (first | apply Kd.R_alloc | apply Kd.R_drewN | apply Kd.R_drew)); exact HO_3.out, by repeat (first | (with_reducible first | exact HB.out | apply below_alloc | apply pw_below_drewN | apply below_drew1) | exact HB.out)⟩
   · rw [if_neg c3] at H
     exact absurd H (by simp)
 · rw [if_neg c2] at H
   exact absurd H (by simp)
end Go.Proofs.Ythlmmcmpllgflaa.P
namespace Go.Proofs.Ythlmmcmpllgflaa.P
open Go.RowKit Go.Proofs.YthlmmcmpllgflaaW.PrintWords Go.Proofs.YthlmmcmpllgflaaW.PrintLast Go.Proofs.YthlmmcmpllgflaaW.PrintMore
attribute [local go_sem] max2_int min2_int max_two min_two max_three min_three max_four min_four
set_option linter.unusedVariables false
set_option linter.unusedSimpArgs false
def laws_toChain.f (k : Nat) (l0_0 : List Int) (l0_1 : List Int) (l0_2 : List Int) : Option (List Int × List Int × List Int) := (laws_toIntS.f k l0_0).bind fun t1648 => ((laws_toIntS.f k l0_1).bind fun t1651 => ((laws_toIntS.f k l0_2).bind fun t1654 => (some (t1648, t1651, t1654))))
set_option maxHeartbeats 8000000 in
set_option maxRecDepth 100000 in
theorem laws_toChain.calls (k : Nat) (A0_0 : Option Addr) (c0_0 : Nat) (l0_0 : List Int) (A0_1 : Option Addr) (c0_1 : Nat) (l0_1 : List Int) (A0_2 : Option Addr) (c0_2 : Nat) (l0_2 : List Int) (r1 : List Int) (r2 : List Int) (r3 : List Int) (w : World) (hr0_0 : Kd.C (Kd.int .i64) w A0_0 l0_0.length l0_0) (hc0_0 : l0_0.length ≤ c0_0) (hr0_1 : Kd.C (Kd.int .i64) w A0_1 l0_1.length l0_1) (hc0_1 : l0_1.length ≤ c0_1) (hr0_2 : Kd.C (Kd.int .i64) w A0_2 l0_2.length l0_2) (hc0_2 : l0_2.length ≤ c0_2) (h : laws_toChain.f k l0_0 l0_1 l0_2 = some (r1, r2, r3)) :
 Calls Try.prog 23 #[.agg #[.slice A0_0 l0_0.length c0_0, .slice A0_1 l0_1.length c0_1, .slice A0_2 l0_2.length c0_2]] w fun e w' => ∃ v0_ v1_ v2_ : Value, e = .returned (.agg #[v0_, v1_, v2_]) ∧ Kd.R (Kd.int .i64) 3 w' w.heap.size (fun k_ => some k_ ≠ (v1_ : Value).ownBlock ∧ some k_ ≠ (v2_ : Value).ownBlock) v0_ r1 ∧ Kd.R (Kd.int .i64) 3 w' w.heap.size (fun k_ => some k_ ≠ (v0_ : Value).ownBlock ∧ some k_ ≠ (v2_ : Value).ownBlock) v1_ r2 ∧ Kd.R (Kd.int .i64) 3 w' w.heap.size (fun k_ => some k_ ≠ (v0_ : Value).ownBlock ∧ some k_ ≠ (v1_ : Value).ownBlock) v2_ r3 ∧ Below w.heap.size w w' := by
 have hu39 := Try.underlying39
 have hu26 := Try.underlying26
 have HR0_0 := Aside0.mk hr0_0
 have HC0_0 := Aside0.mk hc0_0
 clear hr0_0 hc0_0
 have HR0_1 := Aside0.mk hr0_1
 have HC0_1 := Aside0.mk hc0_1
 clear hr0_1 hc0_1
 have HR0_2 := Aside0.mk hr0_2
 have HC0_2 := Aside0.mk hc0_2
 clear hr0_2 hc0_2
 have HB := Aside0.mk (Below.refl w.heap.size w)
 have H : ((laws_toIntS.f k l0_0).bind fun t1648 => ((laws_toIntS.f k l0_1).bind fun t1651 => ((laws_toIntS.f k l0_2).bind fun t1654 => (some (t1648, t1651, t1654))))) = some (r1, r2, r3) := h
 clear h
 replace H := Option.bind_eq_some_iff.mp H
 obtain ⟨t1648, A20, H⟩ := H
 replace H : ((laws_toIntS.f k l0_1).bind fun t1651 => ((laws_toIntS.f k l0_2).bind fun t1654 => (some (t1648, t1651, t1654)))) = some (r1, r2, r3) := H
 have A2 := Aside0.mk A20
 clear A20
 replace H := Option.bind_eq_some_iff.mp H
 obtain ⟨t1651, A30, H⟩ := H
 replace H : ((laws_toIntS.f k l0_2).bind fun t1654 => (some (t1648, t1651, t1654))) = some (r1, r2, r3) := H
 have A3 := Aside0.mk A30
 clear A30
 replace H := Option.bind_eq_some_iff.mp H
 obtain ⟨t1654, A40, H⟩ := H
 replace H : (some (t1648, t1651, t1654)) = some (r1, r2, r3) := H
 have A4 := Aside0.mk A40
 clear A40
 simp only [Option.some.injEq, Prod.mk.injEq] at H
 obtain ⟨rfl, rfl, rfl⟩ := H
 go_enter Try.func23, Try.ntmps23
 go_wp2_with (first | ((with_reducible refine gate_dst (N := 1) rfl ?_); refine box_event ?hg (N := 1) ?hd (cs := #[.slice A0_0 l0_0.length c0_0, .slice A0_1 l0_1.length c0_1, .slice A0_2 l0_2.length c0_2]) (t := 39) ?hr ?_; (case hd => rfl); (case hg => rfl); (case hr => first | (go_simp; done) | (go_simp; rfl)); intro gb1645 hg w5 hbox hb; have n0_ := Aside0.mk (below_step (by repeat (first | (with_reducible first | exact HB.out | apply below_alloc | apply pw_below_drewN | apply below_drew1) | exact HB.out)) hb); have n1_ := Aside0.mk (hbox); have n2_ := Aside0.mk ((by rw [hg]; exact (below_size (by repeat (first | (with_reducible first | exact HB.out | apply below_alloc | apply pw_below_drewN | apply below_drew1) | exact HB.out))) : w.heap.size ≤ gb1645)); have n3_ := Aside0.mk ((by rw [hg]; exact (below_size (by repeat (first | (with_reducible first | exact HB.out | apply below_alloc | apply pw_below_drewN | apply below_drew1) | exact HB.out))) : w.heap.size ≤ gb1645)); clear HB; have HB := n0_; have BK1645 := n1_; have GW1645 := n2_; have GE1645 := n3_; clear n0_ n1_ n2_ n3_; clear hb hbox hg) | ((with_reducible refine gate_dst (N := 2) rfl ?_); refine box_event ?hg (N := 2) ?hd (cs := #[.slice none 0 0, .slice none 0 0, .slice none 0 0]) (t := 26) ?hr ?_; (case hd => rfl); (case hg => rfl); (case hr => first | (go_simp; done) | (go_simp; rfl)); intro gb1646 hg w6 hbox hb; have n0_ := Aside0.mk (blk_below (g := gb1645) (o := .cells #[.slice A0_0 l0_0.length c0_0, .slice A0_1 l0_1.length c0_1, .slice A0_2 l0_2.length c0_2] 39 (0, 0)) (by (with_reducible repeat (first | refine blk_drewN ?_ _ | refine blk_drew ?_ | refine blk_alloc ?_ _)); exact BK1645.out) hb); have n1_ := Aside0.mk (below_step (by repeat (first | (with_reducible first | exact HB.out | apply below_alloc | apply pw_below_drewN | apply below_drew1 | refine below_set ?_ GE1645.out) | exact HB.out)) hb); have n2_ := Aside0.mk (hbox); have n3_ := Aside0.mk ((by rw [hg]; exact (below_size (by repeat (first | (with_reducible first | exact HB.out | apply below_alloc | apply pw_below_drewN | apply below_drew1 | refine below_set ?_ GE1645.out) | exact HB.out))) : w.heap.size ≤ gb1646)); have n4_ := Aside0.mk ((by rw [hg]; exact (below_size (by repeat (first | (with_reducible first | exact HB.out | apply below_alloc | apply pw_below_drewN | apply below_drew1 | refine below_set ?_ GE1645.out) | exact HB.out))) : w.heap.size ≤ gb1646)); have n5_ := Aside0.mk ((by rw [hg]; exact Nat.ne_of_lt (blk_lt (g := gb1645) (o := .cells #[.slice A0_0 l0_0.length c0_0, .slice A0_1 l0_1.length c0_1, .slice A0_2 l0_2.length c0_2] 39 (0, 0)) (by (with_reducible repeat (first | refine blk_drewN ?_ _ | refine blk_drew ?_ | refine blk_alloc ?_ _)); exact BK1645.out)) : gb1645 ≠ gb1646)); have n6_ := Aside0.mk ((by rw [hg]; exact Nat.ne_of_gt (blk_lt (g := gb1645) (o := .cells #[.slice A0_0 l0_0.length c0_0, .slice A0_1 l0_1.length c0_1, .slice A0_2 l0_2.length c0_2] 39 (0, 0)) (by (with_reducible repeat (first | refine blk_drewN ?_ _ | refine blk_drew ?_ | refine blk_alloc ?_ _)); exact BK1645.out)) : gb1646 ≠ gb1645)); clear BK1645; clear HB; have BK1645 := n0_; have HB := n1_; have BK1646 := n2_; have GW1646 := n3_; have GE1646 := n4_; have NB1645_1646 := n5_; have NB1646_1645 := n6_; clear n0_ n1_ n2_ n3_ n4_ n5_ n6_; clear hb hbox hg) | ((with_reducible refine gate_dst (N := 3) rfl ?_); refine box_event ?hg (N := 3) ?hd (cs := #[.slice none 0 0, .slice none 0 0, .slice none 0 0]) (t := 26) ?hr ?_; (case hd => rfl); (case hg => rfl); (case hr => first | (go_simp; done) | (go_simp; rfl)); intro gb1647 hg w7 hbox hb; have n0_ := Aside0.mk (blk_below (g := gb1645) (o := .cells #[.slice A0_0 l0_0.length c0_0, .slice A0_1 l0_1.length c0_1, .slice A0_2 l0_2.length c0_2] 39 (0, 0)) (by (with_reducible repeat (first | refine blk_drewN ?_ _ | refine blk_drew ?_ | refine blk_alloc ?_ _)); exact BK1645.out) hb); have n1_ := Aside0.mk (blk_below (g := gb1646) (o := .cells #[.slice none 0 0, .slice none 0 0, .slice none 0 0] 26 (0, 0)) (by (with_reducible repeat (first | refine blk_drewN ?_ _ | refine blk_drew ?_ | refine blk_alloc ?_ _)); exact BK1646.out) hb); have n2_ := Aside0.mk (below_step (by repeat (first | (with_reducible first | exact HB.out | apply below_alloc | apply pw_below_drewN | apply below_drew1 | refine below_set ?_ GE1645.out | refine below_set ?_ GE1646.out) | exact HB.out)) hb); have n3_ := Aside0.mk (hbox); have n4_ := Aside0.mk ((by rw [hg]; exact (below_size (by repeat (first | (with_reducible first | exact HB.out | apply below_alloc | apply pw_below_drewN | apply below_drew1 | refine below_set ?_ GE1645.out | refine below_set ?_ GE1646.out) | exact HB.out))) : w.heap.size ≤ gb1647)); have n5_ := Aside0.mk ((by rw [hg]; exact (below_size (by repeat (first | (with_reducible first | exact HB.out | apply below_alloc | apply pw_below_drewN | apply below_drew1 | refine below_set ?_ GE1645.out | refine below_set ?_ GE1646.out) | exact HB.out))) : w.heap.size ≤ gb1647)); have n6_ := Aside0.mk ((by rw [hg]; exact Nat.ne_of_lt (blk_lt (g := gb1645) (o := .cells #[.slice A0_0 l0_0.length c0_0, .slice A0_1 l0_1.length c0_1, .slice A0_2 l0_2.length c0_2] 39 (0, 0)) (by (with_reducible repeat (first | refine blk_drewN ?_ _ | refine blk_drew ?_ | refine blk_alloc ?_ _)); exact BK1645.out)) : gb1645 ≠ gb1647)); have n7_ := Aside0.mk ((by rw [hg]; exact Nat.ne_of_gt (blk_lt (g := gb1645) (o := .cells #[.slice A0_0 l0_0.length c0_0, .slice A0_1 l0_1.length c0_1, .slice A0_2 l0_2.length c0_2] 39 (0, 0)) (by (with_reducible repeat (first | refine blk_drewN ?_ _ | refine blk_drew ?_ | refine blk_alloc ?_ _)); exact BK1645.out)) : gb1647 ≠ gb1645)); have n8_ := Aside0.mk ((by rw [hg]; exact Nat.ne_of_lt (blk_lt (g := gb1646) (o := .cells #[.slice none 0 0, .slice none 0 0, .slice none 0 0] 26 (0, 0)) (by (with_reducible repeat (first | refine blk_drewN ?_ _ | refine blk_drew ?_ | refine blk_alloc ?_ _)); exact BK1646.out)) : gb1646 ≠ gb1647)); have n9_ := Aside0.mk ((by rw [hg]; exact Nat.ne_of_gt (blk_lt (g := gb1646) (o := .cells #[.slice none 0 0, .slice none 0 0, .slice none 0 0] 26 (0, 0)) (by (with_reducible repeat (first | refine blk_drewN ?_ _ | refine blk_drew ?_ | refine blk_alloc ?_ _)); exact BK1646.out)) : gb1647 ≠ gb1646)); clear BK1645; clear BK1646; clear HB; have BK1645 := n0_; have BK1646 := n1_; have HB := n2_; have BK1647 := n3_; have GW1647 := n4_; have GE1647 := n5_; have NB1645_1647 := n6_; have NB1647_1645 := n7_; have NB1646_1647 := n8_; have NB1647_1646 := n9_; clear n0_ n1_ n2_ n3_ n4_ n5_ n6_ n7_ n8_ n9_; clear hb hbox hg; have hnb8 := NB1645_1646.out; have hnc8 := NB1646_1645.out; have hnb9 := NB1645_1647.out; have hnc9 := NB1647_1645.out; have hcz10_0 : w7.cell? ⟨gb1645, 0, none⟩ = some (.slice A0_0 l0_0.length c0_0) := (blk_cell BK1645.out 0).trans rfl; have hcz10_1 : w7.cell? ⟨gb1645, 1, none⟩ = some (.slice A0_1 l0_1.length c0_1) := (blk_cell BK1645.out 1).trans rfl; have hcz10_2 : w7.cell? ⟨gb1645, 2, none⟩ = some (.slice A0_2 l0_2.length c0_2) := (blk_cell BK1645.out 2).trans rfl; have hfz10_0 := blk_frozen BK1645.out 0; have hfz10_1 := blk_frozen BK1645.out 1; have hfz10_2 := blk_frozen BK1645.out 2) | ((with_reducible refine gate_callee (f := 80) rfl ?_); refine goesL_ (some 6) rfl rfl Try.func80 (by kernel_rfl) rfl #[.slice A0_0 l0_0.length c0_0] rfl (by (try simp only [List.map_toArray, List.map_cons, List.map_nil]); first | done | rfl | (simp only [List.length_drop, List.length_take]; rfl)) ?_; (with_reducible refine (laws_toIntS.calls k _ _ l0_0 t1648 _ ?side1 ?side2 A2.out).mono ?_); (case side1 => repeat (first | exact (Kd.C_below HR0_0.out HB.out) | (with_reducible refine Kd.C_alloc ?_ _) | (with_reducible refine Kd.C_drewN ?_ _) | (with_reducible refine Kd.C_drew ?_))); (case side2 => exact HC0_0.out); rintro e w11 ⟨v1649, rfl, ho0, hb⟩; refine ⟨_, rfl, ?_⟩; have n0_ := Aside0.mk (Kd.R_lower ho0 (below_size (by repeat (first | (with_reducible first | exact HB.out | apply below_alloc | apply pw_below_drewN | apply below_drew1 | refine below_set ?_ GE1645.out | refine below_set ?_ GE1646.out | refine below_set ?_ GE1647.out) | exact HB.out)))); have n1_ := Aside0.mk (blk_below (g := gb1645) (o := .cells #[.slice A0_0 l0_0.length c0_0, .slice A0_1 l0_1.length c0_1, .slice A0_2 l0_2.length c0_2] 39 (0, 0)) (by (with_reducible repeat (first | refine blk_drewN ?_ _ | refine blk_drew ?_ | refine blk_alloc ?_ _)); exact BK1645.out) hb); have n2_ := Aside0.mk (blk_below (g := gb1646) (o := .cells #[.slice none 0 0, .slice none 0 0, .slice none 0 0] 26 (0, 0)) (by (with_reducible repeat (first | refine blk_drewN ?_ _ | refine blk_drew ?_ | refine blk_alloc ?_ _)); exact BK1646.out) hb); have n3_ := Aside0.mk (blk_below (g := gb1647) (o := .cells #[.slice none 0 0, .slice none 0 0, .slice none 0 0] 26 (0, 0)) (by (with_reducible repeat (first | refine blk_drewN ?_ _ | refine blk_drew ?_ | refine blk_alloc ?_ _)); exact BK1647.out) hb); have n4_ := Aside0.mk (below_step (by repeat (first | (with_reducible first | exact HB.out | apply below_alloc | apply pw_below_drewN | apply below_drew1 | refine below_set ?_ GE1645.out | refine below_set ?_ GE1646.out | refine below_set ?_ GE1647.out) | exact HB.out)) hb); clear BK1645; clear BK1646; clear BK1647; clear HB; have HO1650 := n0_; have BK1645 := n1_; have BK1646 := n2_; have BK1647 := n3_; have HB := n4_; clear n0_ n1_ n2_ n3_ n4_; (try clear hb); (try clear hb2); (try clear hk); (try clear hi); (try clear ho0); obtain ⟨Ao12, co12, eo12⟩ := Kd.R_slice HO1650.out; subst eo12; have hnb13 := NB1647_1646.out; have hnc13 := NB1646_1647.out; have hcz14_0 : w11.cell? ⟨gb1647, 0, none⟩ = some (.slice none 0 0) := (blk_cell BK1647.out 0).trans rfl; have hcz14_1 : w11.cell? ⟨gb1647, 1, none⟩ = some (.slice none 0 0) := (blk_cell BK1647.out 1).trans rfl; have hcz14_2 : w11.cell? ⟨gb1647, 2, none⟩ = some (.slice none 0 0) := (blk_cell BK1647.out 2).trans rfl; have hfz14_0 := blk_frozen BK1647.out 0; have hfz14_1 := blk_frozen BK1647.out 1; have hfz14_2 := blk_frozen BK1647.out 2; have hcz15_0 : w11.cell? ⟨gb1645, 0, none⟩ = some (.slice A0_0 l0_0.length c0_0) := (blk_cell BK1645.out 0).trans rfl; have hcz15_1 : w11.cell? ⟨gb1645, 1, none⟩ = some (.slice A0_1 l0_1.length c0_1) := (blk_cell BK1645.out 1).trans rfl; have hcz15_2 : w11.cell? ⟨gb1645, 2, none⟩ = some (.slice A0_2 l0_2.length c0_2) := (blk_cell BK1645.out 2).trans rfl; have hfz15_0 := blk_frozen BK1645.out 0; have hfz15_1 := blk_frozen BK1645.out 1; have hfz15_2 := blk_frozen BK1645.out 2) | ((with_reducible refine gate_callee (f := 80) rfl ?_); refine goesL_ (some 10) rfl rfl Try.func80 (by kernel_rfl) rfl #[.slice A0_1 l0_1.length c0_1] rfl (by (try simp only [List.map_toArray, List.map_cons, List.map_nil]); first | done | rfl | (simp only [List.length_drop, List.length_take]; rfl)) ?_; (with_reducible refine (laws_toIntS.calls k _ _ l0_1 t1651 _ ?side1 ?side2 A3.out).mono ?_); (case side1 => exact Kd.C_below HR0_1.out (by repeat (first | (with_reducible first | exact HB.out | apply below_alloc | apply pw_below_drewN | apply below_drew1 | refine below_set ?_ GE1645.out | refine below_set ?_ GE1646.out | refine below_set ?_ GE1647.out) | exact HB.out))); (case side2 => exact HC0_1.out); rintro e w16 ⟨v1652, rfl, ho0, hb⟩; refine ⟨_, rfl, ?_⟩; have n0_ := Aside0.mk (Kd.R_elder' (by (with_reducible repeat (first | apply Kd.R_alloc | apply Kd.R_drewN | apply Kd.R_drew)); exact (Kd.R_mono (Kd.R_far (p := ⟨gb1647, 0, none⟩) (Kd.R_types HO1650.out BK1647.out (by decide)) (fun _ hk => hk.2) (.slice Ao12 t1648.length co12)) (fun _ h_ => h_.1))) (Kd.R_base ho0) hb); have n1_ := Aside0.mk (Kd.R_lower (Kd.R_new' ho0 (Kd.R_lt (by (with_reducible repeat (first | apply Kd.R_alloc | apply Kd.R_drewN | apply Kd.R_drew)); exact (Kd.R_mono (Kd.R_far (p := ⟨gb1647, 0, none⟩) (Kd.R_types HO1650.out BK1647.out (by decide)) (fun _ hk => hk.2) (.slice Ao12 t1648.length co12)) (fun _ h_ => h_.1))))) (below_size (by repeat (first | (with_reducible first | exact HB.out | apply below_alloc | apply pw_below_drewN | apply below_drew1 | refine below_set ?_ GE1645.out | refine below_set ?_ GE1646.out | refine below_set ?_ GE1647.out) | exact HB.out)))); have n2_ := Aside0.mk (blk_below (g := gb1645) (o := .cells #[.slice A0_0 l0_0.length c0_0, .slice A0_1 l0_1.length c0_1, .slice A0_2 l0_2.length c0_2] 39 (0, 0)) (by (with_reducible repeat (first | refine blk_drewN ?_ _ | refine blk_drew ?_ | refine blk_alloc ?_ _)); refine blk_far ?_ NB1645_1647.out _; (with_reducible repeat (first | refine blk_drewN ?_ _ | refine blk_drew ?_ | refine blk_alloc ?_ _)); exact BK1645.out) hb); have n3_ := Aside0.mk (blk_below (g := gb1646) (o := .cells #[.slice none 0 0, .slice none 0 0, .slice none 0 0] 26 (0, 0)) (by (with_reducible repeat (first | refine blk_drewN ?_ _ | refine blk_drew ?_ | refine blk_alloc ?_ _)); refine blk_far ?_ NB1646_1647.out _; (with_reducible repeat (first | refine blk_drewN ?_ _ | refine blk_drew ?_ | refine blk_alloc ?_ _)); exact BK1646.out) hb); have n4_ := Aside0.mk (blk_below (g := gb1647) (o := .cells #[.slice Ao12 t1648.length co12, .slice none 0 0, .slice none 0 0] 26 (0, 0)) (by (with_reducible repeat (first | refine blk_drewN ?_ _ | refine blk_drew ?_ | refine blk_alloc ?_ _)); refine blk_put (cs := #[.slice none 0 0, .slice none 0 0, .slice none 0 0]) ?_ 0 _ rfl; (with_reducible repeat (first | refine blk_drewN ?_ _ | refine blk_drew ?_ | refine blk_alloc ?_ _)); exact BK1647.out) hb); have n5_ := Aside0.mk (below_step (by repeat (first | (with_reducible first | exact HB.out | apply below_alloc | apply pw_below_drewN | apply below_drew1 | refine below_set ?_ GE1645.out | refine below_set ?_ GE1646.out | refine below_set ?_ GE1647.out) | exact HB.out)) hb); clear HO1650; clear BK1645; clear BK1646; clear BK1647; clear HB; have HO1650 := n0_; have HO1653 := n1_; have BK1645 := n2_; have BK1646 := n3_; have BK1647 := n4_; have HB := n5_; clear n0_ n1_ n2_ n3_ n4_ n5_; (try clear hb); (try clear hb2); (try clear hk); (try clear hi); (try clear ho0); obtain ⟨Ao17, co17, eo17⟩ := Kd.R_slice HO1653.out; subst eo17; have hcz18_0 : w16.cell? ⟨gb1647, 0, none⟩ = some (.slice Ao12 t1648.length co12) := (blk_cell BK1647.out 0).trans rfl; have hcz18_1 : w16.cell? ⟨gb1647, 1, none⟩ = some (.slice none 0 0) := (blk_cell BK1647.out 1).trans rfl; have hcz18_2 : w16.cell? ⟨gb1647, 2, none⟩ = some (.slice none 0 0) := (blk_cell BK1647.out 2).trans rfl; have hfz18_0 := blk_frozen BK1647.out 0; have hfz18_1 := blk_frozen BK1647.out 1; have hfz18_2 := blk_frozen BK1647.out 2; have hcz19_0 : w16.cell? ⟨gb1645, 0, none⟩ = some (.slice A0_0 l0_0.length c0_0) := (blk_cell BK1645.out 0).trans rfl; have hcz19_1 : w16.cell? ⟨gb1645, 1, none⟩ = some (.slice A0_1 l0_1.length c0_1) := (blk_cell BK1645.out 1).trans rfl; have hcz19_2 : w16.cell? ⟨gb1645, 2, none⟩ = some (.slice A0_2 l0_2.length c0_2) := (blk_cell BK1645.out 2).trans rfl; have hfz19_0 := blk_frozen BK1645.out 0; have hfz19_1 := blk_frozen BK1645.out 1; have hfz19_2 := blk_frozen BK1645.out 2) | ((with_reducible refine gate_callee (f := 80) rfl ?_); refine goesL_ (some 14) rfl rfl Try.func80 (by kernel_rfl) rfl #[.slice A0_2 l0_2.length c0_2] rfl (by (try simp only [List.map_toArray, List.map_cons, List.map_nil]); first | done | rfl | (simp only [List.length_drop, List.length_take]; rfl)) ?_; (with_reducible refine (laws_toIntS.calls k _ _ l0_2 t1654 _ ?side1 ?side2 A4.out).mono ?_); (case side1 => exact Kd.C_below HR0_2.out (by repeat (first | (with_reducible first | exact HB.out | apply below_alloc | apply pw_below_drewN | apply below_drew1 | refine below_set ?_ GE1645.out | refine below_set ?_ GE1646.out | refine below_set ?_ GE1647.out) | exact HB.out))); (case side2 => exact HC0_2.out); rintro e w20 ⟨v1655, rfl, ho0, hb⟩; refine ⟨_, rfl, ?_⟩; have n0_ := Aside0.mk (Kd.R_elder' (by (with_reducible repeat (first | apply Kd.R_alloc | apply Kd.R_drewN | apply Kd.R_drew)); exact (Kd.R_mono (Kd.R_far (p := ⟨gb1647, 1, none⟩) (Kd.R_types HO1650.out BK1647.out (by decide)) (fun _ hk => hk.2) (.slice Ao17 t1651.length co17)) (fun _ h_ => h_.1))) (Kd.R_base ho0) hb); have n1_ := Aside0.mk (Kd.R_elder' (by (with_reducible repeat (first | apply Kd.R_alloc | apply Kd.R_drewN | apply Kd.R_drew)); exact (Kd.R_mono (Kd.R_far (p := ⟨gb1647, 1, none⟩) (Kd.R_types HO1653.out BK1647.out (by decide)) (fun _ hk => hk.2) (.slice Ao17 t1651.length co17)) (fun _ h_ => h_.1))) (Kd.R_base ho0) hb); have n2_ := Aside0.mk (Kd.R_lower (Kd.R_new' (Kd.R_new' ho0 (Kd.R_lt (by (with_reducible repeat (first | apply Kd.R_alloc | apply Kd.R_drewN | apply Kd.R_drew)); exact (Kd.R_mono (Kd.R_far (p := ⟨gb1647, 1, none⟩) (Kd.R_types HO1650.out BK1647.out (by decide)) (fun _ hk => hk.2) (.slice Ao17 t1651.length co17)) (fun _ h_ => h_.1))))) (Kd.R_lt (by (with_reducible repeat (first | apply Kd.R_alloc | apply Kd.R_drewN | apply Kd.R_drew)); exact (Kd.R_mono (Kd.R_far (p := ⟨gb1647, 1, none⟩) (Kd.R_types HO1653.out BK1647.out (by decide)) (fun _ hk => hk.2) (.slice Ao17 t1651.length co17)) (fun _ h_ => h_.1))))) (below_size (by repeat (first | (with_reducible first | exact HB.out | apply below_alloc | apply pw_below_drewN | apply below_drew1 | refine below_set ?_ GE1645.out | refine below_set ?_ GE1646.out | refine below_set ?_ GE1647.out) | exact HB.out)))); have n3_ := Aside0.mk (blk_below (g := gb1645) (o := .cells #[.slice A0_0 l0_0.length c0_0, .slice A0_1 l0_1.length c0_1, .slice A0_2 l0_2.length c0_2] 39 (0, 0)) (by (with_reducible repeat (first | refine blk_drewN ?_ _ | refine blk_drew ?_ | refine blk_alloc ?_ _)); refine blk_far ?_ NB1645_1647.out _; (with_reducible repeat (first | refine blk_drewN ?_ _ | refine blk_drew ?_ | refine blk_alloc ?_ _)); exact BK1645.out) hb); have n4_ := Aside0.mk (blk_below (g := gb1646) (o := .cells #[.slice none 0 0, .slice none 0 0, .slice none 0 0] 26 (0, 0)) (by (with_reducible repeat (first | refine blk_drewN ?_ _ | refine blk_drew ?_ | refine blk_alloc ?_ _)); refine blk_far ?_ NB1646_1647.out _; (with_reducible repeat (first | refine blk_drewN ?_ _ | refine blk_drew ?_ | refine blk_alloc ?_ _)); exact BK1646.out) hb); have n5_ := Aside0.mk (blk_below (g := gb1647) (o := .cells #[.slice Ao12 t1648.length co12, .slice Ao17 t1651.length co17, .slice none 0 0] 26 (0, 0)) (by (with_reducible repeat (first | refine blk_drewN ?_ _ | refine blk_drew ?_ | refine blk_alloc ?_ _)); refine blk_put (cs := #[.slice Ao12 t1648.length co12, .slice none 0 0, .slice none 0 0]) ?_ 1 _ rfl; (with_reducible repeat (first | refine blk_drewN ?_ _ | refine blk_drew ?_ | refine blk_alloc ?_ _)); exact BK1647.out) hb); have n6_ := Aside0.mk (below_step (by repeat (first | (with_reducible first | exact HB.out | apply below_alloc | apply pw_below_drewN | apply below_drew1 | refine below_set ?_ GE1645.out | refine below_set ?_ GE1646.out | refine below_set ?_ GE1647.out) | exact HB.out)) hb); clear HO1650; clear HO1653; clear BK1645; clear BK1646; clear BK1647; clear HB; have HO1650 := n0_; have HO1653 := n1_; have HO1656 := n2_; have BK1645 := n3_; have BK1646 := n4_; have BK1647 := n5_; have HB := n6_; clear n0_ n1_ n2_ n3_ n4_ n5_ n6_; (try clear hb); (try clear hb2); (try clear hk); (try clear hi); (try clear ho0); obtain ⟨Ao21, co21, eo21⟩ := Kd.R_slice HO1656.out; subst eo21; have hcz22_0 : w20.cell? ⟨gb1647, 0, none⟩ = some (.slice Ao12 t1648.length co12) := (blk_cell BK1647.out 0).trans rfl; have hcz22_1 : w20.cell? ⟨gb1647, 1, none⟩ = some (.slice Ao17 t1651.length co17) := (blk_cell BK1647.out 1).trans rfl; have hcz22_2 : w20.cell? ⟨gb1647, 2, none⟩ = some (.slice none 0 0) := (blk_cell BK1647.out 2).trans rfl; have hfz22_0 := blk_frozen BK1647.out 0; have hfz22_1 := blk_frozen BK1647.out 1; have hfz22_2 := blk_frozen BK1647.out 2; have hcz23_0 : w20.cell? ⟨gb1646, 0, none⟩ = some (.slice none 0 0) := (blk_cell BK1646.out 0).trans rfl; have hcz23_1 : w20.cell? ⟨gb1646, 1, none⟩ = some (.slice none 0 0) := (blk_cell BK1646.out 1).trans rfl; have hcz23_2 : w20.cell? ⟨gb1646, 2, none⟩ = some (.slice none 0 0) := (blk_cell BK1646.out 2).trans rfl; have hfz23_0 := blk_frozen BK1646.out 0; have hfz23_1 := blk_frozen BK1646.out 1; have hfz23_2 := blk_frozen BK1646.out 2))
 refine bodyPost_ret (results_cell_row rfl _ _ gb1646 26 #[.slice Ao12 t1648.length co12, .slice Ao17 t1651.length co17, .slice Ao21 t1654.length co21] (0, 0) _ rfl (by (with_reducible repeat (first | refine blk_drewN ?_ _ | refine blk_drew ?_ | refine blk_alloc ?_ _)); refine blk_put (cs := #[.slice Ao12 t1648.length co12, .slice Ao17 t1651.length co17, .slice none 0 0]) ?_ 2 _ rfl; (with_reducible repeat (first | refine blk_drewN ?_ _ | refine blk_drew ?_ | refine blk_alloc ?_ _)); refine blk_put (cs := #[.slice Ao12 t1648.length co12, .slice none 0 0, .slice none 0 0]) ?_ 1 _ rfl; (with_reducible repeat (first | refine blk_drewN ?_ _ | refine blk_drew ?_ | refine blk_alloc ?_ _)); refine blk_put (cs := #[.slice none 0 0, .slice none 0 0, .slice none 0 0]) ?_ 0 _ rfl; (with_reducible repeat (first | refine blk_drewN ?_ _ | refine blk_drew ?_ | refine blk_alloc ?_ _)); refine blk_far ?_ NB1646_1647.out _; (with_reducible repeat (first | refine blk_drewN ?_ _ | refine blk_drew ?_ | refine blk_alloc ?_ _)); exact BK1646.out) Try.underlying26 rfl (by kernel_rfl)) rfl ?_
 exact ⟨_, _, _, by first | rfl | (simp [errW_none, errW_some] <;> rfl) | (simp [*, errW_none, errW_some] <;> rfl), by (with_reducible repeat (first | apply Kd.R_alloc | apply Kd.R_drewN | apply Kd.R_drew)); exact Kd.R_mono (Kd.R_far (p := ⟨gb1646, 2, none⟩) (Kd.R_far (p := ⟨gb1646, 1, none⟩) (Kd.R_far (p := ⟨gb1646, 0, none⟩) (Kd.R_far (p := ⟨gb1647, 2, none⟩) (Kd.R_types (Kd.R_types HO1650.out BK1647.out (by decide)) BK1646.out (by decide)) (fun _ hk => hk.1.2) (.slice Ao21 t1654.length co21)) (fun _ hk => hk.2) (.slice Ao12 t1648.length co12)) (fun _ hk => hk.2) (.slice Ao17 t1651.length co17)) (fun _ hk => hk.2) (.slice Ao21 t1654.length co21)) (fun _ hk => ⟨hk.1.1.1.2, hk.1.1.2⟩), by (with_reducible repeat (first | apply Kd.R_alloc | apply Kd.R_drewN | apply Kd.R_drew)); exact Kd.R_mono (Kd.R_far (p := ⟨gb1646, 2, none⟩) (Kd.R_far (p := ⟨gb1646, 1, none⟩) (Kd.R_far (p := ⟨gb1646, 0, none⟩) (Kd.R_far (p := ⟨gb1647, 2, none⟩) (Kd.R_types (Kd.R_types HO1653.out BK1647.out (by decide)) BK1646.out (by decide)) (fun _ hk => hk.1.2) (.slice Ao21 t1654.length co21)) (fun _ hk => hk.2) (.slice Ao12 t1648.length co12)) (fun _ hk => hk.2) (.slice Ao17 t1651.length co17)) (fun _ hk => hk.2) (.slice Ao21 t1654.length co21)) (fun _ hk => ⟨hk.1.1.1.2, hk.1.1.2⟩), by (with_reducible repeat (first | apply Kd.R_alloc | apply Kd.R_drewN | apply Kd.R_drew)); exact Kd.R_mono (Kd.R_far (p := ⟨gb1646, 2, none⟩) (Kd.R_far (p := ⟨gb1646, 1, none⟩) (Kd.R_far (p := ⟨gb1646, 0, none⟩) (Kd.R_far (p := ⟨gb1647, 2, none⟩) (Kd.R_types (Kd.R_types HO1656.out BK1647.out (by decide)) BK1646.out (by decide)) (fun _ hk => hk.1.2) (.slice Ao21 t1654.length co21)) (fun _ hk => hk.2) (.slice Ao12 t1648.length co12)) (fun _ hk => hk.2) (.slice Ao17 t1651.length co17)) (fun _ hk => hk.2) (.slice Ao21 t1654.length co21)) (fun _ hk => ⟨hk.1.1.1.2, hk.1.1.2⟩), by repeat (first | (with_reducible first | exact HB.out | apply below_alloc | apply pw_below_drewN | apply below_drew1 | refine below_set ?_ GE1645.out | refine below_set ?_ GE1646.out | refine below_set ?_ GE1647.out) | exact HB.out)⟩
end Go.Proofs.Ythlmmcmpllgflaa.P
namespace Go.Proofs.Ythlmmcmpllgflaa.P
open Go.RowKit Go.Proofs.YthlmmcmpllgflaaW.PrintWords Go.Proofs.YthlmmcmpllgflaaW.PrintLast Go.Proofs.YthlmmcmpllgflaaW.PrintMore
attribute [local go_sem] max2_int min2_int max_two min_two max_three min_three max_four min_four
set_option linter.unusedVariables false
set_option linter.unusedSimpArgs false
def laws_eqIntS.l0 : Nat → List Int → List Int → Int → Option (Bool)
 | 0, _, _, _ => none
 | k + 1, x0, x1, x5 => if x5 < (x0.length : Int) then (if 0 ≤ x5 then (if x5 < (x1.length : Int) then (if (rd x0 x5) = (rd x1 x5) then (laws_eqIntS.l0 k x0 x1 (wrap64 (x5 + 1))) else (some false)) else (none)) else (none)) else (some true)
def laws_eqIntS.f (k : Nat) (l0 : List Int) (l1 : List Int) : Option (Bool) := if (l0.length : Int) = (l1.length : Int) then (laws_eqIntS.l0 k l0 l1 0) else (some false)
set_option maxHeartbeats 8000000 in
set_option maxRecDepth 100000 in
theorem laws_eqIntS.calls (k : Nat) (A0 : Option Addr) (c0 : Nat) (l0 : List Int) (A1 : Option Addr) (c1 : Nat) (l1 : List Int) (r : Bool) (w : World) (hr0 : Kd.C (Kd.int .i64) w A0 l0.length l0) (hc0 : l0.length ≤ c0) (hr1 : Kd.C (Kd.int .i64) w A1 l1.length l1) (hc1 : l1.length ≤ c1) (h : laws_eqIntS.f k l0 l1 = some r) :
 Calls Try.prog 81 #[.slice A0 l0.length c0, .slice A1 l1.length c1] w fun e w' => e = .returned (.bool r) ∧ Drawn0 w w' := by
 have HR0 := Aside0.mk hr0
 have HC0 := Aside0.mk hc0
 clear hr0 hc0
 have HR1 := Aside0.mk hr1
 have HC1 := Aside0.mk hc1
 clear hr1 hc1
 have H : (if (l0.length : Int) = (l1.length : Int) then (laws_eqIntS.l0 k l0 l1 0) else (some false)) = some r := h
 clear h
 by_cases c3 : (l0.length : Int) = (l1.length : Int)
 · rw [if_pos c3] at H
   have c3b0 : ((l0.length : Int) == (l1.length : Int)) = true := beq_iff_eq.mpr c3
   have c3b1 : ((l0.length : Int) != (l1.length : Int)) = false := bne_eq_false_iff_eq.mpr c3
   have c3b2 : (l0.length == l1.length) = true := by first | simpa using c3 | (simp at c3 ⊢; omega)
   clear c3
   have H' := Aside0.mk H
   clear H
   go_enter Try.func81, Try.ntmps81
   go_wp2
   repeat (go_quiet (fail); try go_wp2)
   go_loopg [5] k (fun kq v5 w' => ∃ (x5_1 : Int), v5 = .int .i64 x5_1 ∧ Aside0 (laws_eqIntS.l0 kq l0 l1 x5_1 = some r) ∧ Aside0 (kq ≤ k) ∧ Drawn0 w w')
   case atStart => exact ⟨(0), (by first | rfl | (simp; done) | (simp [*]; done)), H', ⟨Nat.le_refl _⟩, by repeat (first | exact Drawn0.refl _ | apply Drawn0.step)⟩
   case round =>
    clear H'
    try clear c1
    try clear p2
    try clear c3
    try clear c3b0
    try clear c3b1
    try clear c3b2
    obtain ⟨x5_1, rfl, HA, HK1, ⟨m1, rfl⟩⟩ := hrel
    cases gk with
    | zero => exact absurd HA.out (by simp [laws_eqIntS.l0])
    | succ k1 =>
     have H := HA.out
     clear HA
     simp only [laws_eqIntS.l0] at H
     by_cases c4 : x5_1 < (l0.length : Int)
     · rw [if_pos c4] at H
       have c4b0 : decide (x5_1 < (l0.length : Int)) = true := decide_eq_true c4
       clear c4
       by_cases c5 : 0 ≤ x5_1
       · rw [if_pos c5] at H
         have c5b0 : decide (0 ≤ x5_1) = true := decide_eq_true c5
         clear c5
         by_cases c6 : x5_1 < (l1.length : Int)
         · rw [if_pos c6] at H
           have c6b0 : decide (x5_1 < (l1.length : Int)) = true := decide_eq_true c6
           clear c6
           by_cases c7 : (rd l0 x5_1) = (rd l1 x5_1)
           · rw [if_pos c7] at H
             have c7b0 : ((rd l0 x5_1) == (rd l1 x5_1)) = true := beq_iff_eq.mpr c7
             have c7b1 : ((rd l0 x5_1) != (rd l1 x5_1)) = false := bne_eq_false_iff_eq.mpr c7
             clear c7
             have H' := Aside0.mk H
             clear H
             have p1657 : 0 ≤ (x5_1 : Int) := of_decide_eq_true (by first | (with_reducible assumption) | assumption)
             have q1657 : x5_1 < (l0.length : Int) := of_decide_eq_true (by first | (with_reducible assumption) | assumption)
             obtain ⟨ad1657, e1657, hx1657_0⟩ := Kd.at_int HR0.out x5_1 p1657 q1657
             cases e1657
             replace p1657 := eq_true p1657
             replace q1657 := eq_true q1657
             have p1658 : 0 ≤ (x5_1 : Int) := of_decide_eq_true (by first | (with_reducible assumption) | assumption)
             have q1658 : x5_1 < (l1.length : Int) := of_decide_eq_true (by first | (with_reducible assumption) | assumption)
             obtain ⟨ad1658, e1658, hx1658_0⟩ := Kd.at_int HR1.out x5_1 p1658 q1658
             cases e1658
             replace p1658 := eq_true p1658
             replace q1658 := eq_true q1658
             go_wp2
             repeat (go_quiet (fail); try go_wp2)
             go_roundg k1
             case measure => have := HK1.out; omega
             case rel => exact ⟨(wrap64 (x5_1 + 1)), (by first | rfl | (simp; done) | (simp [*]; done)), H', ⟨by have := HK1.out; omega⟩, by repeat (first | exact Drawn0.refl _ | apply Drawn0.step)⟩
           · rw [if_neg c7] at H
             have c7b0 : ((rd l0 x5_1) == (rd l1 x5_1)) = false := beq_eq_false_iff_ne.mpr c7
             have c7b1 : ((rd l0 x5_1) != (rd l1 x5_1)) = true := bne_iff_ne.mpr c7
             obtain rfl := Option.some.inj H
             have p1657 : 0 ≤ (x5_1 : Int) := of_decide_eq_true (by first | (with_reducible assumption) | assumption)
             have q1657 : x5_1 < (l0.length : Int) := of_decide_eq_true (by first | (with_reducible assumption) | assumption)
             obtain ⟨ad1657, e1657, hx1657_0⟩ := Kd.at_int HR0.out x5_1 p1657 q1657
             cases e1657
             replace p1657 := eq_true p1657
             replace q1657 := eq_true q1657
             have p1658 : 0 ≤ (x5_1 : Int) := of_decide_eq_true (by first | (with_reducible assumption) | assumption)
             have q1658 : x5_1 < (l1.length : Int) := of_decide_eq_true (by first | (with_reducible assumption) | assumption)
             obtain ⟨ad1658, e1658, hx1658_0⟩ := Kd.at_int HR1.out x5_1 p1658 q1658
             cases e1658
             replace p1658 := eq_true p1658
             replace q1658 := eq_true q1658
             go_wp2
             repeat (go_quiet (fail); try go_wp2)
             go_ret
             exact ⟨by first | rfl | (simp; done) | (simp [*]; done), by repeat (first | exact Drawn0.refl _ | apply Drawn0.step)⟩
         · rw [if_neg c6] at H
           exact absurd H (by simp)
       · rw [if_neg c5] at H
         exact absurd H (by simp)
     · rw [if_neg c4] at H
       have c4b0 : decide (x5_1 < (l0.length : Int)) = false := decide_eq_false c4
       clear c4
       obtain rfl := Option.some.inj H
       go_wp2
       repeat (go_quiet (fail); try go_wp2)
       go_ret
       exact ⟨by first | rfl | (simp; done) | (simp [*]; done), by repeat (first | exact Drawn0.refl _ | apply Drawn0.step)⟩
 · rw [if_neg c3] at H
   have c3b0 : ((l0.length : Int) == (l1.length : Int)) = false := beq_eq_false_iff_ne.mpr c3
   have c3b1 : ((l0.length : Int) != (l1.length : Int)) = true := bne_iff_ne.mpr c3
   have c3b2 : (l0.length == l1.length) = false := by first | simpa using c3 | (simp at c3 ⊢; omega)
   obtain rfl := Option.some.inj H
   go_enter Try.func81, Try.ntmps81
   go_wp2
   repeat (go_quiet (fail); try go_wp2)
   go_ret
   exact ⟨by first | rfl | (simp; done) | (simp [*]; done), by repeat (first | exact Drawn0.refl _ | apply Drawn0.step)⟩
end Go.Proofs.Ythlmmcmpllgflaa.P
namespace Go.Proofs.Ythlmmcmpllgflaa.P
open Go.RowKit Go.Proofs.YthlmmcmpllgflaaW.PrintWords Go.Proofs.YthlmmcmpllgflaaW.PrintLast Go.Proofs.YthlmmcmpllgflaaW.PrintMore
attribute [local go_sem] max2_int min2_int max_two min_two max_three min_three max_four min_four
set_option linter.unusedVariables false
set_option linter.unusedSimpArgs false
def laws_eqChain.f (k : Nat) (l0_0 : List Int) (l0_1 : List Int) (l0_2 : List Int) (l1_0 : List Int) (l1_1 : List Int) (l1_2 : List Int) : Option (Bool) := (laws_eqIntS.f k l0_0 l1_0).bind fun t1661 => (if t1661 = true then ((laws_eqIntS.f k l0_1 l1_1).bind fun t1662 => (if t1662 = true then ((laws_eqIntS.f k l0_2 l1_2).bind fun t1663 => (if t1663 = true then (some true) else (some false))) else (some false))) else (some false))
set_option maxHeartbeats 8000000 in
set_option maxRecDepth 100000 in
theorem laws_eqChain.calls (k : Nat) (A0_0 : Option Addr) (c0_0 : Nat) (l0_0 : List Int) (A0_1 : Option Addr) (c0_1 : Nat) (l0_1 : List Int) (A0_2 : Option Addr) (c0_2 : Nat) (l0_2 : List Int) (A1_0 : Option Addr) (c1_0 : Nat) (l1_0 : List Int) (A1_1 : Option Addr) (c1_1 : Nat) (l1_1 : List Int) (A1_2 : Option Addr) (c1_2 : Nat) (l1_2 : List Int) (r : Bool) (w : World) (hr0_0 : Kd.C (Kd.int .i64) w A0_0 l0_0.length l0_0) (hc0_0 : l0_0.length ≤ c0_0) (hr0_1 : Kd.C (Kd.int .i64) w A0_1 l0_1.length l0_1) (hc0_1 : l0_1.length ≤ c0_1) (hr0_2 : Kd.C (Kd.int .i64) w A0_2 l0_2.length l0_2) (hc0_2 : l0_2.length ≤ c0_2) (hr1_0 : Kd.C (Kd.int .i64) w A1_0 l1_0.length l1_0) (hc1_0 : l1_0.length ≤ c1_0) (hr1_1 : Kd.C (Kd.int .i64) w A1_1 l1_1.length l1_1) (hc1_1 : l1_1.length ≤ c1_1) (hr1_2 : Kd.C (Kd.int .i64) w A1_2 l1_2.length l1_2) (hc1_2 : l1_2.length ≤ c1_2) (h : laws_eqChain.f k l0_0 l0_1 l0_2 l1_0 l1_1 l1_2 = some r) :
 Calls Try.prog 24 #[.agg #[.slice A0_0 l0_0.length c0_0, .slice A0_1 l0_1.length c0_1, .slice A0_2 l0_2.length c0_2], .agg #[.slice A1_0 l1_0.length c1_0, .slice A1_1 l1_1.length c1_1, .slice A1_2 l1_2.length c1_2]] w fun e w' => e = .returned (.bool r) ∧ Below w.heap.size w w' := by
 have hu26 := Try.underlying26
 have HR0_0 := Aside0.mk hr0_0
 have HC0_0 := Aside0.mk hc0_0
 clear hr0_0 hc0_0
 have HR0_1 := Aside0.mk hr0_1
 have HC0_1 := Aside0.mk hc0_1
 clear hr0_1 hc0_1
 have HR0_2 := Aside0.mk hr0_2
 have HC0_2 := Aside0.mk hc0_2
 clear hr0_2 hc0_2
 have HR1_0 := Aside0.mk hr1_0
 have HC1_0 := Aside0.mk hc1_0
 clear hr1_0 hc1_0
 have HR1_1 := Aside0.mk hr1_1
 have HC1_1 := Aside0.mk hc1_1
 clear hr1_1 hc1_1
 have HR1_2 := Aside0.mk hr1_2
 have HC1_2 := Aside0.mk hc1_2
 clear hr1_2 hc1_2
 have HB := Aside0.mk (Below.refl w.heap.size w)
 have H : ((laws_eqIntS.f k l0_0 l1_0).bind fun t1661 => (if t1661 = true then ((laws_eqIntS.f k l0_1 l1_1).bind fun t1662 => (if t1662 = true then ((laws_eqIntS.f k l0_2 l1_2).bind fun t1663 => (if t1663 = true then (some true) else (some false))) else (some false))) else (some false))) = some r := h
 clear h
 replace H := Option.bind_eq_some_iff.mp H
 obtain ⟨t1661, A30, H⟩ := H
 replace H : (if t1661 = true then ((laws_eqIntS.f k l0_1 l1_1).bind fun t1662 => (if t1662 = true then ((laws_eqIntS.f k l0_2 l1_2).bind fun t1663 => (if t1663 = true then (some true) else (some false))) else (some false))) else (some false)) = some r := H
 have A3 := Aside0.mk A30
 clear A30
 by_cases c4 : t1661 = true
 · subst c4
   have H1 : ((laws_eqIntS.f k l0_1 l1_1).bind fun t1662 => (if t1662 = true then ((laws_eqIntS.f k l0_2 l1_2).bind fun t1663 => (if t1663 = true then (some true) else (some false))) else (some false))) = some r := by rw [if_pos rfl] at H; exact H
   clear H
   have H := H1
   clear H1
   replace H := Option.bind_eq_some_iff.mp H
   obtain ⟨t1662, A50, H⟩ := H
   replace H : (if t1662 = true then ((laws_eqIntS.f k l0_2 l1_2).bind fun t1663 => (if t1663 = true then (some true) else (some false))) else (some false)) = some r := H
   have A5 := Aside0.mk A50
   clear A50
   by_cases c6 : t1662 = true
   · subst c6
     have H1 : ((laws_eqIntS.f k l0_2 l1_2).bind fun t1663 => (if t1663 = true then (some true) else (some false))) = some r := by rw [if_pos rfl] at H; exact H
     clear H
     have H := H1
     clear H1
     replace H := Option.bind_eq_some_iff.mp H
     obtain ⟨t1663, A70, H⟩ := H
     replace H : (if t1663 = true then (some true) else (some false)) = some r := H
     have A7 := Aside0.mk A70
     clear A70
     by_cases c8 : t1663 = true
     · subst c8
       have H1 : (some true) = some r := by rw [if_pos rfl] at H; exact H
       clear H
       have H := H1
       clear H1
       obtain rfl := Option.some.inj H
       go_enter Try.func24, Try.ntmps24
       go_wp2_with (first | ((with_reducible refine gate_dst (N := 2) rfl ?_); refine box_event ?hg (N := 2) ?hd (cs := #[.slice A0_0 l0_0.length c0_0, .slice A0_1 l0_1.length c0_1, .slice A0_2 l0_2.length c0_2]) (t := 26) ?hr ?_; (case hd => rfl); (case hg => rfl); (case hr => first | (go_simp; done) | (go_simp; rfl)); intro gb1659 hg w9 hbox hb; have n0_ := Aside0.mk (below_step (by repeat (first | (with_reducible first | exact HB.out | apply below_alloc | apply pw_below_drewN | apply below_drew1) | exact HB.out)) hb); have n1_ := Aside0.mk (hbox); have n2_ := Aside0.mk ((by rw [hg]; exact (below_size (by repeat (first | (with_reducible first | exact HB.out | apply below_alloc | apply pw_below_drewN | apply below_drew1) | exact HB.out))) : w.heap.size ≤ gb1659)); have n3_ := Aside0.mk ((by rw [hg]; exact (below_size (by repeat (first | (with_reducible first | exact HB.out | apply below_alloc | apply pw_below_drewN | apply below_drew1) | exact HB.out))) : w.heap.size ≤ gb1659)); clear HB; have HB := n0_; have BK1659 := n1_; have GW1659 := n2_; have GE1659 := n3_; clear n0_ n1_ n2_ n3_; clear hb hbox hg) | ((with_reducible refine gate_dst (N := 3) rfl ?_); refine box_event ?hg (N := 3) ?hd (cs := #[.slice A1_0 l1_0.length c1_0, .slice A1_1 l1_1.length c1_1, .slice A1_2 l1_2.length c1_2]) (t := 26) ?hr ?_; (case hd => rfl); (case hg => rfl); (case hr => first | (go_simp; done) | (go_simp; rfl)); intro gb1660 hg w10 hbox hb; have n0_ := Aside0.mk (blk_below (g := gb1659) (o := .cells #[.slice A0_0 l0_0.length c0_0, .slice A0_1 l0_1.length c0_1, .slice A0_2 l0_2.length c0_2] 26 (0, 0)) (by (with_reducible repeat (first | refine blk_drewN ?_ _ | refine blk_drew ?_ | refine blk_alloc ?_ _)); exact BK1659.out) hb); have n1_ := Aside0.mk (below_step (by repeat (first | (with_reducible first | exact HB.out | apply below_alloc | apply pw_below_drewN | apply below_drew1 | refine below_set ?_ GE1659.out) | exact HB.out)) hb); have n2_ := Aside0.mk (hbox); have n3_ := Aside0.mk ((by rw [hg]; exact (below_size (by repeat (first | (with_reducible first | exact HB.out | apply below_alloc | apply pw_below_drewN | apply below_drew1 | refine below_set ?_ GE1659.out) | exact HB.out))) : w.heap.size ≤ gb1660)); have n4_ := Aside0.mk ((by rw [hg]; exact (below_size (by repeat (first | (with_reducible first | exact HB.out | apply below_alloc | apply pw_below_drewN | apply below_drew1 | refine below_set ?_ GE1659.out) | exact HB.out))) : w.heap.size ≤ gb1660)); have n5_ := Aside0.mk ((by rw [hg]; exact Nat.ne_of_lt (blk_lt (g := gb1659) (o := .cells #[.slice A0_0 l0_0.length c0_0, .slice A0_1 l0_1.length c0_1, .slice A0_2 l0_2.length c0_2] 26 (0, 0)) (by (with_reducible repeat (first | refine blk_drewN ?_ _ | refine blk_drew ?_ | refine blk_alloc ?_ _)); exact BK1659.out)) : gb1659 ≠ gb1660)); have n6_ := Aside0.mk ((by rw [hg]; exact Nat.ne_of_gt (blk_lt (g := gb1659) (o := .cells #[.slice A0_0 l0_0.length c0_0, .slice A0_1 l0_1.length c0_1, .slice A0_2 l0_2.length c0_2] 26 (0, 0)) (by (with_reducible repeat (first | refine blk_drewN ?_ _ | refine blk_drew ?_ | refine blk_alloc ?_ _)); exact BK1659.out)) : gb1660 ≠ gb1659)); clear BK1659; clear HB; have BK1659 := n0_; have HB := n1_; have BK1660 := n2_; have GW1660 := n3_; have GE1660 := n4_; have NB1659_1660 := n5_; have NB1660_1659 := n6_; clear n0_ n1_ n2_ n3_ n4_ n5_ n6_; clear hb hbox hg; have hnb11 := NB1659_1660.out; have hnc11 := NB1660_1659.out; have hcz12_0 : w10.cell? ⟨gb1659, 0, none⟩ = some (.slice A0_0 l0_0.length c0_0) := (blk_cell BK1659.out 0).trans rfl; have hcz12_1 : w10.cell? ⟨gb1659, 1, none⟩ = some (.slice A0_1 l0_1.length c0_1) := (blk_cell BK1659.out 1).trans rfl; have hcz12_2 : w10.cell? ⟨gb1659, 2, none⟩ = some (.slice A0_2 l0_2.length c0_2) := (blk_cell BK1659.out 2).trans rfl; have hfz12_0 := blk_frozen BK1659.out 0; have hfz12_1 := blk_frozen BK1659.out 1; have hfz12_2 := blk_frozen BK1659.out 2; have hcz13_0 : w10.cell? ⟨gb1660, 0, none⟩ = some (.slice A1_0 l1_0.length c1_0) := (blk_cell BK1660.out 0).trans rfl; have hcz13_1 : w10.cell? ⟨gb1660, 1, none⟩ = some (.slice A1_1 l1_1.length c1_1) := (blk_cell BK1660.out 1).trans rfl; have hcz13_2 : w10.cell? ⟨gb1660, 2, none⟩ = some (.slice A1_2 l1_2.length c1_2) := (blk_cell BK1660.out 2).trans rfl; have hfz13_0 := blk_frozen BK1660.out 0; have hfz13_1 := blk_frozen BK1660.out 1; have hfz13_2 := blk_frozen BK1660.out 2) | ((with_reducible refine gate_callee (f := 81) rfl ?_); refine goesL_ (some 9) rfl rfl Try.func81 (by kernel_rfl) rfl #[.slice A0_0 l0_0.length c0_0, .slice A1_0 l1_0.length c1_0] rfl (by (try simp only [List.map_toArray, List.map_cons, List.map_nil]); first | done | rfl | (simp only [List.length_drop, List.length_take]; rfl)) ?_; (with_reducible refine (laws_eqIntS.calls k _ _ l0_0 _ _ l1_0 true _ ?side1 ?side2 ?side3 ?side4 A3.out).mono ?_); (case side1 => repeat (first | exact (Kd.C_below HR0_0.out HB.out) | (with_reducible refine Kd.C_alloc ?_ _) | (with_reducible refine Kd.C_drewN ?_ _) | (with_reducible refine Kd.C_drew ?_))); (case side2 => exact HC0_0.out); (case side3 => repeat (first | exact (Kd.C_below HR1_0.out HB.out) | (with_reducible refine Kd.C_alloc ?_ _) | (with_reducible refine Kd.C_drewN ?_ _) | (with_reducible refine Kd.C_drew ?_))); (case side4 => exact HC1_0.out); rintro e w' ⟨rfl, ⟨nd, rfl⟩⟩; refine ⟨_, rfl, ?_⟩) | ((with_reducible refine gate_callee (f := 81) rfl ?_); refine goesL_ (some 15) rfl rfl Try.func81 (by kernel_rfl) rfl #[.slice A0_1 l0_1.length c0_1, .slice A1_1 l1_1.length c1_1] rfl (by (try simp only [List.map_toArray, List.map_cons, List.map_nil]); first | done | rfl | (simp only [List.length_drop, List.length_take]; rfl)) ?_; (with_reducible refine (laws_eqIntS.calls k _ _ l0_1 _ _ l1_1 true _ ?side1 ?side2 ?side3 ?side4 A5.out).mono ?_); (case side1 => repeat (first | exact (Kd.C_below HR0_1.out (by repeat (first | (with_reducible first | exact HB.out | apply below_alloc | apply pw_below_drewN | apply below_drew1 | refine below_set ?_ GE1659.out | refine below_set ?_ GE1660.out) | exact HB.out))) | (with_reducible refine Kd.C_alloc ?_ _) | (with_reducible refine Kd.C_drewN ?_ _) | (with_reducible refine Kd.C_drew ?_))); (case side2 => exact HC0_1.out); (case side3 => repeat (first | exact (Kd.C_below HR1_1.out (by repeat (first | (with_reducible first | exact HB.out | apply below_alloc | apply pw_below_drewN | apply below_drew1 | refine below_set ?_ GE1659.out | refine below_set ?_ GE1660.out) | exact HB.out))) | (with_reducible refine Kd.C_alloc ?_ _) | (with_reducible refine Kd.C_drewN ?_ _) | (with_reducible refine Kd.C_drew ?_))); (case side4 => exact HC1_1.out); rintro e w' ⟨rfl, ⟨nd, rfl⟩⟩; refine ⟨_, rfl, ?_⟩) | ((with_reducible refine gate_callee (f := 81) rfl ?_); refine goesL_ (some 21) rfl rfl Try.func81 (by kernel_rfl) rfl #[.slice A0_2 l0_2.length c0_2, .slice A1_2 l1_2.length c1_2] rfl (by (try simp only [List.map_toArray, List.map_cons, List.map_nil]); first | done | rfl | (simp only [List.length_drop, List.length_take]; rfl)) ?_; (with_reducible refine (laws_eqIntS.calls k _ _ l0_2 _ _ l1_2 true _ ?side1 ?side2 ?side3 ?side4 A7.out).mono ?_); (case side1 => repeat (first | exact (Kd.C_below HR0_2.out (by repeat (first | (with_reducible first | exact HB.out | apply below_alloc | apply pw_below_drewN | apply below_drew1 | refine below_set ?_ GE1659.out | refine below_set ?_ GE1660.out) | exact HB.out))) | (with_reducible refine Kd.C_alloc ?_ _) | (with_reducible refine Kd.C_drewN ?_ _) | (with_reducible refine Kd.C_drew ?_))); (case side2 => exact HC0_2.out); (case side3 => repeat (first | exact (Kd.C_below HR1_2.out (by repeat (first | (with_reducible first | exact HB.out | apply below_alloc | apply pw_below_drewN | apply below_drew1 | refine below_set ?_ GE1659.out | refine below_set ?_ GE1660.out) | exact HB.out))) | (with_reducible refine Kd.C_alloc ?_ _) | (with_reducible refine Kd.C_drewN ?_ _) | (with_reducible refine Kd.C_drew ?_))); (case side4 => exact HC1_2.out); rintro e w' ⟨rfl, ⟨nd, rfl⟩⟩; refine ⟨_, rfl, ?_⟩))
       go_ret
       exact ⟨by first | rfl | (simp [errW_none, errW_some] <;> rfl) | (simp [*, errW_none, errW_some] <;> rfl), by repeat (first | (with_reducible first | exact HB.out | apply below_alloc | apply pw_below_drewN | apply below_drew1 | refine below_set ?_ GE1659.out | refine below_set ?_ GE1660.out) | exact HB.out)⟩
     · replace c8 := Bool.eq_false_iff.mpr c8
       subst c8
       have H1 : (some false) = some r := by rw [if_neg (show ¬ (false = true) by decide)] at H; exact H
       clear H
       have H := H1
       clear H1
       obtain rfl := Option.some.inj H
       go_enter Try.func24, Try.ntmps24
       go_wp2_with (first | ((with_reducible refine gate_dst (N := 2) rfl ?_); refine box_event ?hg (N := 2) ?hd (cs := #[.slice A0_0 l0_0.length c0_0, .slice A0_1 l0_1.length c0_1, .slice A0_2 l0_2.length c0_2]) (t := 26) ?hr ?_; (case hd => rfl); (case hg => rfl); (case hr => first | (go_simp; done) | (go_simp; rfl)); intro gb1659 hg w14 hbox hb; have n0_ := Aside0.mk (below_step (by repeat (first | (with_reducible first | exact HB.out | apply below_alloc | apply pw_below_drewN | apply below_drew1) | exact HB.out)) hb); have n1_ := Aside0.mk (hbox); have n2_ := Aside0.mk ((by rw [hg]; exact (below_size (by repeat (first | (with_reducible first | exact HB.out | apply below_alloc | apply pw_below_drewN | apply below_drew1) | exact HB.out))) : w.heap.size ≤ gb1659)); have n3_ := Aside0.mk ((by rw [hg]; exact (below_size (by repeat (first | (with_reducible first | exact HB.out | apply below_alloc | apply pw_below_drewN | apply below_drew1) | exact HB.out))) : w.heap.size ≤ gb1659)); clear HB; have HB := n0_; have BK1659 := n1_; have GW1659 := n2_; have GE1659 := n3_; clear n0_ n1_ n2_ n3_; clear hb hbox hg) | ((with_reducible refine gate_dst (N := 3) rfl ?_); refine box_event ?hg (N := 3) ?hd (cs := #[.slice A1_0 l1_0.length c1_0, .slice A1_1 l1_1.length c1_1, .slice A1_2 l1_2.length c1_2]) (t := 26) ?hr ?_; (case hd => rfl); (case hg => rfl); (case hr => first | (go_simp; done) | (go_simp; rfl)); intro gb1660 hg w15 hbox hb; have n0_ := Aside0.mk (blk_below (g := gb1659) (o := .cells #[.slice A0_0 l0_0.length c0_0, .slice A0_1 l0_1.length c0_1, .slice A0_2 l0_2.length c0_2] 26 (0, 0)) (by (with_reducible repeat (first | refine blk_drewN ?_ _ | refine blk_drew ?_ | refine blk_alloc ?_ _)); exact BK1659.out) hb); have n1_ := Aside0.mk (below_step (by repeat (first | (with_reducible first | exact HB.out | apply below_alloc | apply pw_below_drewN | apply below_drew1 | refine below_set ?_ GE1659.out) | exact HB.out)) hb); have n2_ := Aside0.mk (hbox); have n3_ := Aside0.mk ((by rw [hg]; exact (below_size (by repeat (first | (with_reducible first | exact HB.out | apply below_alloc | apply pw_below_drewN | apply below_drew1 | refine below_set ?_ GE1659.out) | exact HB.out))) : w.heap.size ≤ gb1660)); have n4_ := Aside0.mk ((by rw [hg]; exact (below_size (by repeat (first | (with_reducible first | exact HB.out | apply below_alloc | apply pw_below_drewN | apply below_drew1 | refine below_set ?_ GE1659.out) | exact HB.out))) : w.heap.size ≤ gb1660)); have n5_ := Aside0.mk ((by rw [hg]; exact Nat.ne_of_lt (blk_lt (g := gb1659) (o := .cells #[.slice A0_0 l0_0.length c0_0, .slice A0_1 l0_1.length c0_1, .slice A0_2 l0_2.length c0_2] 26 (0, 0)) (by (with_reducible repeat (first | refine blk_drewN ?_ _ | refine blk_drew ?_ | refine blk_alloc ?_ _)); exact BK1659.out)) : gb1659 ≠ gb1660)); have n6_ := Aside0.mk ((by rw [hg]; exact Nat.ne_of_gt (blk_lt (g := gb1659) (o := .cells #[.slice A0_0 l0_0.length c0_0, .slice A0_1 l0_1.length c0_1, .slice A0_2 l0_2.length c0_2] 26 (0, 0)) (by (with_reducible repeat (first | refine blk_drewN ?_ _ | refine blk_drew ?_ | refine blk_alloc ?_ _)); exact BK1659.out)) : gb1660 ≠ gb1659)); clear BK1659; clear HB; have BK1659 := n0_; have HB := n1_; have BK1660 := n2_; have GW1660 := n3_; have GE1660 := n4_; have NB1659_1660 := n5_; have NB1660_1659 := n6_; clear n0_ n1_ n2_ n3_ n4_ n5_ n6_; clear hb hbox hg; have hnb16 := NB1659_1660.out; have hnc16 := NB1660_1659.out; have hcz17_0 : w15.cell? ⟨gb1659, 0, none⟩ = some (.slice A0_0 l0_0.length c0_0) := (blk_cell BK1659.out 0).trans rfl; have hcz17_1 : w15.cell? ⟨gb1659, 1, none⟩ = some (.slice A0_1 l0_1.length c0_1) := (blk_cell BK1659.out 1).trans rfl; have hcz17_2 : w15.cell? ⟨gb1659, 2, none⟩ = some (.slice A0_2 l0_2.length c0_2) := (blk_cell BK1659.out 2).trans rfl; have hfz17_0 := blk_frozen BK1659.out 0; have hfz17_1 := blk_frozen BK1659.out 1; have hfz17_2 := blk_frozen BK1659.out 2; have hcz18_0 : w15.cell? ⟨gb1660, 0, none⟩ = some (.slice A1_0 l1_0.length c1_0) := (blk_cell BK1660.out 0).trans rfl; have hcz18_1 : w15.cell? ⟨gb1660, 1, none⟩ = some (.slice A1_1 l1_1.length c1_1) := (blk_cell BK1660.out 1).trans rfl; have hcz18_2 : w15.cell? ⟨gb1660, 2, none⟩ = some (.slice A1_2 l1_2.length c1_2) := (blk_cell BK1660.out 2).trans rfl; have hfz18_0 := blk_frozen BK1660.out 0; have hfz18_1 := blk_frozen BK1660.out 1; have hfz18_2 := blk_frozen BK1660.out 2) | ((with_reducible refine gate_callee (f := 81) rfl ?_); refine goesL_ (some 9) rfl rfl Try.func81 (by kernel_rfl) rfl #[.slice A0_0 l0_0.length c0_0, .slice A1_0 l1_0.length c1_0] rfl (by (try simp only [List.map_toArray, List.map_cons, List.map_nil]); first | done | rfl | (simp only [List.length_drop, List.length_take]; rfl)) ?_; (with_reducible refine (laws_eqIntS.calls k _ _ l0_0 _ _ l1_0 true _ ?side1 ?side2 ?side3 ?side4 A3.out).mono ?_); (case side1 => repeat (first | exact (Kd.C_below HR0_0.out HB.out) | (with_reducible refine Kd.C_alloc ?_ _) | (with_reducible refine Kd.C_drewN ?_ _) | (with_reducible refine Kd.C_drew ?_))); (case side2 => exact HC0_0.out); (case side3 => repeat (first | exact (Kd.C_below HR1_0.out HB.out) | (with_reducible refine Kd.C_alloc ?_ _) | (with_reducible refine Kd.C_drewN ?_ _) | (with_reducible refine Kd.C_drew ?_))); (case side4 => exact HC1_0.out); rintro e w' ⟨rfl, ⟨nd, rfl⟩⟩; refine ⟨_, rfl, ?_⟩) | ((with_reducible refine gate_callee (f := 81) rfl ?_); refine goesL_ (some 15) rfl rfl Try.func81 (by kernel_rfl) rfl #[.slice A0_1 l0_1.length c0_1, .slice A1_1 l1_1.length c1_1] rfl (by (try simp only [List.map_toArray, List.map_cons, List.map_nil]); first | done | rfl | (simp only [List.length_drop, List.length_take]; rfl)) ?_; (with_reducible refine (laws_eqIntS.calls k _ _ l0_1 _ _ l1_1 true _ ?side1 ?side2 ?side3 ?side4 A5.out).mono ?_); (case side1 => repeat (first | exact (Kd.C_below HR0_1.out (by repeat (first | (with_reducible first | exact HB.out | apply below_alloc | apply pw_below_drewN | apply below_drew1 | refine below_set ?_ GE1659.out | refine below_set ?_ GE1660.out) | exact HB.out))) | (with_reducible refine Kd.C_alloc ?_ _) | (with_reducible refine Kd.C_drewN ?_ _) | (with_reducible refine Kd.C_drew ?_))); (case side2 => exact HC0_1.out); (case side3 => repeat (first | exact (Kd.C_below HR1_1.out (by repeat (first | (with_reducible first | exact HB.out | apply below_alloc | apply pw_below_drewN | apply below_drew1 | refine below_set ?_ GE1659.out | refine below_set ?_ GE1660.out) | exact HB.out))) | (with_reducible refine Kd.C_alloc ?_ _) | (with_reducible refine Kd.C_drewN ?_ _) | (with_reducible refine Kd.C_drew ?_))); (case side4 => exact HC1_1.out); rintro e w' ⟨rfl, ⟨nd, rfl⟩⟩; refine ⟨_, rfl, ?_⟩) | ((with_reducible refine gate_callee (f := 81) rfl ?_); refine goesL_ (some 21) rfl rfl Try.func81 (by kernel_rfl) rfl #[.slice A0_2 l0_2.length c0_2, .slice A1_2 l1_2.length c1_2] rfl (by (try simp only [List.map_toArray, List.map_cons, List.map_nil]); first | done | rfl | (simp only [List.length_drop, List.length_take]; rfl)) ?_; (with_reducible refine (laws_eqIntS.calls k _ _ l0_2 _ _ l1_2 false _ ?side1 ?side2 ?side3 ?side4 A7.out).mono ?_); (case side1 => repeat (first | exact (Kd.C_below HR0_2.out (by repeat (first | (with_reducible first | exact HB.out | apply below_alloc | apply pw_below_drewN | apply below_drew1 | refine below_set ?_ GE1659.out | refine below_set ?_ GE1660.out) | exact HB.out))) | (with_reducible refine Kd.C_alloc ?_ _) | (with_reducible refine Kd.C_drewN ?_ _) | (with_reducible refine Kd.C_drew ?_))); (case side2 => exact HC0_2.out); (case side3 => repeat (first | exact (Kd.C_below HR1_2.out (by repeat (first | (with_reducible first | exact HB.out | apply below_alloc | apply pw_below_drewN | apply below_drew1 | refine below_set ?_ GE1659.out | refine below_set ?_ GE1660.out) | exact HB.out))) | (with_reducible refine Kd.C_alloc ?_ _) | (with_reducible refine Kd.C_drewN ?_ _) | (with_reducible refine Kd.C_drew ?_))); (case side4 => exact HC1_2.out); rintro e w' ⟨rfl, ⟨nd, rfl⟩⟩; refine ⟨_, rfl, ?_⟩))
       go_ret
       exact ⟨by first | rfl | (simp [errW_none, errW_some] <;> rfl) | (simp [*, errW_none, errW_some] <;> rfl), by repeat (first | (with_reducible first | exact HB.out | apply below_alloc | apply pw_below_drewN | apply below_drew1 | refine below_set ?_ GE1659.out | refine below_set ?_ GE1660.out) | exact HB.out)⟩
   · replace c6 := Bool.eq_false_iff.mpr c6
     subst c6
     have H1 : (some false) = some r := by rw [if_neg (show ¬ (false = true) by decide)] at H; exact H
     clear H
     have H := H1
     clear H1
     obtain rfl := Option.some.inj H
     go_enter Try.func24, Try.ntmps24
     go_wp2_with (first | ((with_reducible refine gate_dst (N := 2) rfl ?_); refine box_event ?hg (N := 2) ?hd (cs := #[.slice A0_0 l0_0.length c0_0, .slice A0_1 l0_1.length c0_1, .slice A0_2 l0_2.length c0_2]) (t := 26) ?hr ?_; (case hd => rfl); (case hg => rfl); (case hr => first | (go_simp; done) | (go_simp; rfl)); intro gb1659 hg w19 hbox hb; have n0_ := Aside0.mk (below_step (by repeat (first | (with_reducible first | exact HB.out | apply below_alloc | apply pw_below_drewN | apply below_drew1) | exact HB.out)) hb); have n1_ := Aside0.mk (hbox); have n2_ := Aside0.mk ((by rw [hg]; exact (below_size (by repeat (first | (with_reducible first | exact HB.out | apply below_alloc | apply pw_below_drewN | apply below_drew1) | exact HB.out))) : w.heap.size ≤ gb1659)); have n3_ := Aside0.mk ((by rw [hg]; exact (below_size (by repeat (first | (with_reducible first | exact HB.out | apply below_alloc | apply pw_below_drewN | apply below_drew1) | exact HB.out))) : w.heap.size ≤ gb1659)); clear HB; have HB := n0_; have BK1659 := n1_; have GW1659 := n2_; have GE1659 := n3_; clear n0_ n1_ n2_ n3_; clear hb hbox hg) | ((with_reducible refine gate_dst (N := 3) rfl ?_); refine box_event ?hg (N := 3) ?hd (cs := #[.slice A1_0 l1_0.length c1_0, .slice A1_1 l1_1.length c1_1, .slice A1_2 l1_2.length c1_2]) (t := 26) ?hr ?_; (case hd => rfl); (case hg => rfl); (case hr => first | (go_simp; done) | (go_simp; rfl)); intro gb1660 hg w20 hbox hb; have n0_ := Aside0.mk (blk_below (g := gb1659) (o := .cells #[.slice A0_0 l0_0.length c0_0, .slice A0_1 l0_1.length c0_1, .slice A0_2 l0_2.length c0_2] 26 (0, 0)) (by (with_reducible repeat (first | refine blk_drewN ?_ _ | refine blk_drew ?_ | refine blk_alloc ?_ _)); exact BK1659.out) hb); have n1_ := Aside0.mk (below_step (by repeat (first | (with_reducible first | exact HB.out | apply below_alloc | apply pw_below_drewN | apply below_drew1 | refine below_set ?_ GE1659.out) | exact HB.out)) hb); have n2_ := Aside0.mk (hbox); have n3_ := Aside0.mk ((by rw [hg]; exact (below_size (by repeat (first | (with_reducible first | exact HB.out | apply below_alloc | apply pw_below_drewN | apply below_drew1 | refine below_set ?_ GE1659.out) | exact HB.out))) : w.heap.size ≤ gb1660)); have n4_ := Aside0.mk ((by rw [hg]; exact (below_size (by repeat (first | (with_reducible first | exact HB.out | apply below_alloc | apply pw_below_drewN | apply below_drew1 | refine below_set ?_ GE1659.out) | exact HB.out))) : w.heap.size ≤ gb1660)); have n5_ := Aside0.mk ((by rw [hg]; exact Nat.ne_of_lt (blk_lt (g := gb1659) (o := .cells #[.slice A0_0 l0_0.length c0_0, .slice A0_1 l0_1.length c0_1, .slice A0_2 l0_2.length c0_2] 26 (0, 0)) (by (with_reducible repeat (first | refine blk_drewN ?_ _ | refine blk_drew ?_ | refine blk_alloc ?_ _)); exact BK1659.out)) : gb1659 ≠ gb1660)); have n6_ := Aside0.mk ((by rw [hg]; exact Nat.ne_of_gt (blk_lt (g := gb1659) (o := .cells #[.slice A0_0 l0_0.length c0_0, .slice A0_1 l0_1.length c0_1, .slice A0_2 l0_2.length c0_2] 26 (0, 0)) (by (with_reducible repeat (first | refine blk_drewN ?_ _ | refine blk_drew ?_ | refine blk_alloc ?_ _)); exact BK1659.out)) : gb1660 ≠ gb1659)); clear BK1659; clear HB; have BK1659 := n0_; have HB := n1_; have BK1660 := n2_; have GW1660 := n3_; have GE1660 := n4_; have NB1659_1660 := n5_; have NB1660_1659 := n6_; clear n0_ n1_ n2_ n3_ n4_ n5_ n6_; clear hb hbox hg; have hnb21 := NB1659_1660.out; have hnc21 := NB1660_1659.out; have hcz22_0 : w20.cell? ⟨gb1659, 0, none⟩ = some (.slice A0_0 l0_0.length c0_0) := (blk_cell BK1659.out 0).trans rfl; have hcz22_1 : w20.cell? ⟨gb1659, 1, none⟩ = some (.slice A0_1 l0_1.length c0_1) := (blk_cell BK1659.out 1).trans rfl; have hcz22_2 : w20.cell? ⟨gb1659, 2, none⟩ = some (.slice A0_2 l0_2.length c0_2) := (blk_cell BK1659.out 2).trans rfl; have hfz22_0 := blk_frozen BK1659.out 0; have hfz22_1 := blk_frozen BK1659.out 1; have hfz22_2 := blk_frozen BK1659.out 2; have hcz23_0 : w20.cell? ⟨gb1660, 0, none⟩ = some (.slice A1_0 l1_0.length c1_0) := (blk_cell BK1660.out 0).trans rfl; have hcz23_1 : w20.cell? ⟨gb1660, 1, none⟩ = some (.slice A1_1 l1_1.length c1_1) := (blk_cell BK1660.out 1).trans rfl; have hcz23_2 : w20.cell? ⟨gb1660, 2, none⟩ = some (.slice A1_2 l1_2.length c1_2) := (blk_cell BK1660.out 2).trans rfl; have hfz23_0 := blk_frozen BK1660.out 0; have hfz23_1 := blk_frozen BK1660.out 1; have hfz23_2 := blk_frozen BK1660.out 2) | ((with_reducible refine gate_callee (f := 81) rfl ?_); refine goesL_ (some 9) rfl rfl Try.func81 (by kernel_rfl) rfl #[.slice A0_0 l0_0.length c0_0, .slice A1_0 l1_0.length c1_0] rfl (by (try simp only [List.map_toArray, List.map_cons, List.map_nil]); first | done | rfl | (simp only [List.length_drop, List.length_take]; rfl)) ?_; (with_reducible refine (laws_eqIntS.calls k _ _ l0_0 _ _ l1_0 true _ ?side1 ?side2 ?side3 ?side4 A3.out).mono ?_); (case side1 => repeat (first | exact (Kd.C_below HR0_0.out HB.out) | (with_reducible refine Kd.C_alloc ?_ _) | (with_reducible refine Kd.C_drewN ?_ _) | (with_reducible refine Kd.C_drew ?_))); (case side2 => exact HC0_0.out); (case side3 => repeat (first | exact (Kd.C_below HR1_0.out HB.out) | (with_reducible refine Kd.C_alloc ?_ _) | (with_reducible refine Kd.C_drewN ?_ _) | (with_reducible refine Kd.C_drew ?_))); (case side4 => exact HC1_0.out); rintro e w' ⟨rfl, ⟨nd, rfl⟩⟩; refine ⟨_, rfl, ?_⟩) | ((with_reducible refine gate_callee (f := 81) rfl ?_); refine goesL_ (some 15) rfl rfl Try.func81 (by kernel_rfl) rfl #[.slice A0_1 l0_1.length c0_1, .slice A1_1 l1_1.length c1_1] rfl (by (try simp only [List.map_toArray, List.map_cons, List.map_nil]); first | done | rfl | (simp only [List.length_drop, List.length_take]; rfl)) ?_; (with_reducible refine (laws_eqIntS.calls k _ _ l0_1 _ _ l1_1 false _ ?side1 ?side2 ?side3 ?side4 A5.out).mono ?_); (case side1 => repeat (first | exact (Kd.C_below HR0_1.out (by repeat (first | (with_reducible first | exact HB.out | apply below_alloc | apply pw_below_drewN | apply below_drew1 | refine below_set ?_ GE1659.out | refine below_set ?_ GE1660.out) | exact HB.out))) | (with_reducible refine Kd.C_alloc ?_ _) | (with_reducible refine Kd.C_drewN ?_ _) | (with_reducible refine Kd.C_drew ?_))); (case side2 => exact HC0_1.out); (case side3 => repeat (first | exact (Kd.C_below HR1_1.out (by repeat (first | (with_reducible first | exact HB.out | apply below_alloc | apply pw_below_drewN | apply below_drew1 | refine below_set ?_ GE1659.out | refine below_set ?_ GE1660.out) | exact HB.out))) | (with_reducible refine Kd.C_alloc ?_ _) | (with_reducible refine Kd.C_drewN ?_ _) | (with_reducible refine Kd.C_drew ?_))); (case side4 => exact HC1_1.out); rintro e w' ⟨rfl, ⟨nd, rfl⟩⟩; refine ⟨_, rfl, ?_⟩))
     go_ret
     exact ⟨by first | rfl | (simp [errW_none, errW_some] <;> rfl) | (simp [*, errW_none, errW_some] <;> rfl), by repeat (first | (with_reducible first | exact HB.out | apply below_alloc | apply pw_below_drewN | apply below_drew1 | refine below_set ?_ GE1659.out | refine below_set ?_ GE1660.out) | exact HB.out)⟩
 · replace c4 := Bool.eq_false_iff.mpr c4
   subst c4
   have H1 : (some false) = some r := by rw [if_neg (show ¬ (false = true) by decide)] at H; exact H
   clear H
   have H := H1
   clear H1
   obtain rfl := Option.some.inj H
   go_enter Try.func24, Try.ntmps24
   go_wp2_with (first | ((with_reducible refine gate_dst (N := 2) rfl ?_); refine box_event ?hg (N := 2) ?hd (cs := #[.slice A0_0 l0_0.length c0_0, .slice A0_1 l0_1.length c0_1, .slice A0_2 l0_2.length c0_2]) (t := 26) ?hr ?_; (case hd => rfl); (case hg => rfl); (case hr => first | (go_simp; done) | (go_simp; rfl)); intro gb1659 hg w24 hbox hb; have n0_ := Aside0.mk (below_step (by repeat (first | (with_reducible first | exact HB.out | apply below_alloc | apply pw_below_drewN | apply below_drew1) | exact HB.out)) hb); have n1_ := Aside0.mk (hbox); have n2_ := Aside0.mk ((by rw [hg]; exact (below_size (by repeat (first | (with_reducible first | exact HB.out | apply below_alloc | apply pw_below_drewN | apply below_drew1) | exact HB.out))) : w.heap.size ≤ gb1659)); have n3_ := Aside0.mk ((by rw [hg]; exact (below_size (by repeat (first | (with_reducible first | exact HB.out | apply below_alloc | apply pw_below_drewN | apply below_drew1) | exact HB.out))) : w.heap.size ≤ gb1659)); clear HB; have HB := n0_; have BK1659 := n1_; have GW1659 := n2_; have GE1659 := n3_; clear n0_ n1_ n2_ n3_; clear hb hbox hg) | ((with_reducible refine gate_dst (N := 3) rfl ?_); refine box_event ?hg (N := 3) ?hd (cs := #[.slice A1_0 l1_0.length c1_0, .slice A1_1 l1_1.length c1_1, .slice A1_2 l1_2.length c1_2]) (t := 26) ?hr ?_; (case hd => rfl); (case hg => rfl); (case hr => first | (go_simp; done) | (go_simp; rfl)); intro gb1660 hg w25 hbox hb; have n0_ := Aside0.mk (blk_below (g := gb1659) (o := .cells #[.slice A0_0 l0_0.length c0_0, .slice A0_1 l0_1.length c0_1, .slice A0_2 l0_2.length c0_2] 26 (0, 0)) (by (with_reducible repeat (first | refine blk_drewN ?_ _ | refine blk_drew ?_ | refine blk_alloc ?_ _)); exact BK1659.out) hb); have n1_ := Aside0.mk (below_step (by repeat (first | (with_reducible first | exact HB.out | apply below_alloc | apply pw_below_drewN | apply below_drew1 | refine below_set ?_ GE1659.out) | exact HB.out)) hb); have n2_ := Aside0.mk (hbox); have n3_ := Aside0.mk ((by rw [hg]; exact (below_size (by repeat (first | (with_reducible first | exact HB.out | apply below_alloc | apply pw_below_drewN | apply below_drew1 | refine below_set ?_ GE1659.out) | exact HB.out))) : w.heap.size ≤ gb1660)); have n4_ := Aside0.mk ((by rw [hg]; exact (below_size (by repeat (first | (with_reducible first | exact HB.out | apply below_alloc | apply pw_below_drewN | apply below_drew1 | refine below_set ?_ GE1659.out) | exact HB.out))) : w.heap.size ≤ gb1660)); have n5_ := Aside0.mk ((by rw [hg]; exact Nat.ne_of_lt (blk_lt (g := gb1659) (o := .cells #[.slice A0_0 l0_0.length c0_0, .slice A0_1 l0_1.length c0_1, .slice A0_2 l0_2.length c0_2] 26 (0, 0)) (by (with_reducible repeat (first | refine blk_drewN ?_ _ | refine blk_drew ?_ | refine blk_alloc ?_ _)); exact BK1659.out)) : gb1659 ≠ gb1660)); have n6_ := Aside0.mk ((by rw [hg]; exact Nat.ne_of_gt (blk_lt (g := gb1659) (o := .cells #[.slice A0_0 l0_0.length c0_0, .slice A0_1 l0_1.length c0_1, .slice A0_2 l0_2.length c0_2] 26 (0, 0)) (by (with_reducible repeat (first | refine blk_drewN ?_ _ | refine blk_drew ?_ | refine blk_alloc ?_ _)); exact BK1659.out)) : gb1660 ≠ gb1659)); clear BK1659; clear HB; have BK1659 := n0_; have HB := n1_; have BK1660 := n2_; have GW1660 := n3_; have GE1660 := n4_; have NB1659_1660 := n5_; have NB1660_1659 := n6_; clear n0_ n1_ n2_ n3_ n4_ n5_ n6_; clear hb hbox hg; have hnb26 := NB1659_1660.out; have hnc26 := NB1660_1659.out; have hcz27_0 : w25.cell? ⟨gb1659, 0, none⟩ = some (.slice A0_0 l0_0.length c0_0) := (blk_cell BK1659.out 0).trans rfl; have hcz27_1 : w25.cell? ⟨gb1659, 1, none⟩ = some (.slice A0_1 l0_1.length c0_1) := (blk_cell BK1659.out 1).trans rfl; have hcz27_2 : w25.cell? ⟨gb1659, 2, none⟩ = some (.slice A0_2 l0_2.length c0_2) := (blk_cell BK1659.out 2).trans rfl; have hfz27_0 := blk_frozen BK1659.out 0; have hfz27_1 := blk_frozen BK1659.out 1; have hfz27_2 := blk_frozen BK1659.out 2; have hcz28_0 : w25.cell? ⟨gb1660, 0, none⟩ = some (.slice A1_0 l1_0.length c1_0) := (blk_cell BK1660.out 0).trans rfl; have hcz28_1 : w25.cell? ⟨gb1660, 1, none⟩ = some (.slice A1_1 l1_1.length c1_1) := (blk_cell BK1660.out 1).trans rfl; have hcz28_2 : w25.cell? ⟨gb1660, 2, none⟩ = some (.slice A1_2 l1_2.length c1_2) := (blk_cell BK1660.out 2).trans rfl; have hfz28_0 := blk_frozen BK1660.out 0; have hfz28_1 := blk_frozen BK1660.out 1; have hfz28_2 := blk_frozen BK1660.out 2) | ((with_reducible refine gate_callee (f := 81) rfl ?_); refine goesL_ (some 9) rfl rfl Try.func81 (by kernel_rfl) rfl #[.slice A0_0 l0_0.length c0_0, .slice A1_0 l1_0.length c1_0] rfl (by (try simp only [List.map_toArray, List.map_cons, List.map_nil]); first | done | rfl | (simp only [List.length_drop, List.length_take]; rfl)) ?_; (with_reducible refine (laws_eqIntS.calls k _ _ l0_0 _ _ l1_0 false _ ?side1 ?side2 ?side3 ?side4 A3.out).mono ?_); (case side1 => repeat (first | exact (Kd.C_below HR0_0.out HB.out) | (with_reducible refine Kd.C_alloc ?_ _) | (with_reducible refine Kd.C_drewN ?_ _) | (with_reducible refine Kd.C_drew ?_))); (case side2 => exact HC0_0.out); (case side3 => repeat (first | exact (Kd.C_below HR1_0.out HB.out) | (with_reducible refine Kd.C_alloc ?_ _) | (with_reducible refine Kd.C_drewN ?_ _) | (with_reducible refine Kd.C_drew ?_))); (case side4 => exact HC1_0.out); rintro e w' ⟨rfl, ⟨nd, rfl⟩⟩; refine ⟨_, rfl, ?_⟩))
   go_ret
   exact ⟨by first | rfl | (simp [errW_none, errW_some] <;> rfl) | (simp [*, errW_none, errW_some] <;> rfl), by repeat (first | (with_reducible first | exact HB.out | apply below_alloc | apply pw_below_drewN | apply below_drew1 | refine below_set ?_ GE1659.out | refine below_set ?_ GE1660.out) | exact HB.out)⟩
end Go.Proofs.Ythlmmcmpllgflaa.P
namespace Go.Proofs.Ythlmmcmpllgflaa.P
open Go.RowKit Go.Proofs.YthlmmcmpllgflaaW.PrintWords Go.Proofs.YthlmmcmpllgflaaW.PrintLast Go.Proofs.YthlmmcmpllgflaaW.PrintMore
attribute [local go_sem] max2_int min2_int max_two min_two max_three min_three max_four min_four
set_option linter.unusedVariables false
set_option linter.unusedSimpArgs false
def impl_within.f (a0 : Int) (a1 : Int) (a2 : Int) : Option (Bool) := if a0 ≥ a1 then (some (decide (a0 ≤ a2))) else (some false)
set_option maxHeartbeats 8000000 in
set_option maxRecDepth 100000 in
theorem impl_within.calls (a0 : Int) (a1 : Int) (a2 : Int) (r : Bool) (w : World) (h : impl_within.f a0 a1 a2 = some r) :
 Calls Try.prog 85 #[.int .i64 a0, .int .i64 a1, .int .i64 a2] w fun e w' => e = .returned (.bool r) ∧ Drawn0 w w' := by
 have H : (if a0 ≥ a1 then (some (decide (a0 ≤ a2))) else (some false)) = some r := h
 clear h
 by_cases c4 : a0 ≥ a1
 · rw [if_pos c4] at H
   have c4b0 : decide (a1 ≤ a0) = true := decide_eq_true c4
   clear c4
   obtain rfl := Option.some.inj H
   go_enter Try.func85, Try.ntmps85
   go_wp2
   go_ret
   exact ⟨by first | rfl | (simp; done) | (simp [*]; done), by repeat (first | exact Drawn0.refl _ | apply Drawn0.step)⟩
 · rw [if_neg c4] at H
   have c4b0 : decide (a1 ≤ a0) = false := decide_eq_false c4
   clear c4
   obtain rfl := Option.some.inj H
   go_enter Try.func85, Try.ntmps85
   go_wp2
   go_ret
   exact ⟨by first | rfl | (simp; done) | (simp [*]; done), by repeat (first | exact Drawn0.refl _ | apply Drawn0.step)⟩
end Go.Proofs.Ythlmmcmpllgflaa.P
namespace Go.Proofs.Ythlmmcmpllgflaa.P
open Go.RowKit Go.Proofs.YthlmmcmpllgflaaW.PrintWords Go.Proofs.YthlmmcmpllgflaaW.PrintLast Go.Proofs.YthlmmcmpllgflaaW.PrintMore
attribute [local go_sem] max2_int min2_int max_two min_two max_three min_three max_four min_four
set_option linter.unusedVariables false
set_option linter.unusedSimpArgs false
def impl_allWithin.l0 : Nat → Int → Int → List Int → Int → Int → Option (Bool)
 | 0, _, _, _, _, _ => none
 | k + 1, x1, x2, x9, x10, x11 => if x11 < x10 then (if 0 ≤ x11 then (if x11 < (x9.length : Int) then ((impl_within.f (rd x9 x11) x1 x2).bind fun t287 => (if t287 = true then (impl_allWithin.l0 k x1 x2 x9 x10 (wrap64 (x11 + 1))) else (some false))) else (none)) else (none)) else (some true)
def impl_allWithin.f (k : Nat) (l0 : List Int) (a1 : Int) (a2 : Int) : Option (Bool) := impl_allWithin.l0 k a1 a2 l0 (l0.length : Int) 0
set_option maxHeartbeats 8000000 in
set_option maxRecDepth 100000 in
theorem impl_allWithin.calls (k : Nat) (A0 : Option Addr) (c0 : Nat) (l0 : List Int) (a1 : Int) (a2 : Int) (r : Bool) (w : World) (hr0 : Kd.C (Kd.int .i64) w A0 l0.length l0) (hc0 : l0.length ≤ c0) (h : impl_allWithin.f k l0 a1 a2 = some r) :
 Calls Try.prog 69 #[.slice A0 l0.length c0, .int .i64 a1, .int .i64 a2] w fun e w' => e = .returned (.bool r) ∧ Drawn0 w w' := by
 have HR0 := Aside0.mk hr0
 have HC0 := Aside0.mk hc0
 clear hr0 hc0
 have H : (impl_allWithin.l0 k a1 a2 l0 (l0.length : Int) 0) = some r := h
 clear h
 have H' := Aside0.mk H
 clear H
 go_enter Try.func69, Try.ntmps69
 go_wp2
 go_loopg [11] k (fun kq v11 w' => ∃ (x11_1 : Int), v11 = .int .i64 x11_1 ∧ Aside0 (impl_allWithin.l0 kq a1 a2 l0 (l0.length : Int) x11_1 = some r) ∧ Aside0 (kq ≤ k) ∧ Drawn0 w w')
 case atStart => exact ⟨(0), (by first | rfl | (simp; done) | (simp [*]; done)), H', ⟨Nat.le_refl _⟩, by repeat (first | exact Drawn0.refl _ | apply Drawn0.step)⟩
 case round =>
  clear H'
  try clear p2
  obtain ⟨x11_1, rfl, HA, HK1, ⟨m1, rfl⟩⟩ := hrel
  cases gk with
  | zero => exact absurd HA.out (by simp [impl_allWithin.l0])
  | succ k1 =>
   have H := HA.out
   clear HA
   simp only [impl_allWithin.l0] at H
   by_cases c4 : x11_1 < (l0.length : Int)
   · rw [if_pos c4] at H
     have c4b0 : decide (x11_1 < (l0.length : Int)) = true := decide_eq_true c4
     clear c4
     by_cases c5 : 0 ≤ x11_1
     · rw [if_pos c5] at H
       have c5b0 : decide (0 ≤ x11_1) = true := decide_eq_true c5
       clear c5
       by_cases c6 : x11_1 < (l0.length : Int)
       · rw [if_pos c6] at H
         have c6b0 : decide (x11_1 < (l0.length : Int)) = true := decide_eq_true c6
         clear c6
         replace H := Option.bind_eq_some_iff.mp H
         obtain ⟨t287, A70, H⟩ := H
         replace H : (if t287 = true then (impl_allWithin.l0 k1 a1 a2 l0 (l0.length : Int) (wrap64 (x11_1 + 1))) else (some false)) = some r := H
         have A7 := Aside0.mk A70
         clear A70
         by_cases c8 : t287 = true
         · subst c8
           have H1 : (impl_allWithin.l0 k1 a1 a2 l0 (l0.length : Int) (wrap64 (x11_1 + 1))) = some r := by rw [if_pos rfl] at H; exact H
           clear H
           have H := H1
           clear H1
           have H' := Aside0.mk H
           clear H
           have p286 : 0 ≤ (x11_1 : Int) := of_decide_eq_true (by first | (with_reducible assumption) | assumption)
           have q286 : x11_1 < (l0.length : Int) := of_decide_eq_true (by first | (with_reducible assumption) | assumption)
           obtain ⟨ad286, e286, hx286_0⟩ := Kd.at_int HR0.out x11_1 p286 q286
           cases e286
           replace p286 := eq_true p286
           replace q286 := eq_true q286
           go_wp2_with (first | ((with_reducible refine gate_callee (f := 85) rfl ?_); refine goesL_ (some 18) rfl rfl Try.func85 (by kernel_rfl) rfl #[.int .i64 (rd l0 x11_1), .int .i64 a1, .int .i64 a2] rfl (by (try simp only [List.map_toArray, List.map_cons, List.map_nil]); first | done | rfl | (simp only [List.length_drop, List.length_take]; rfl)) ?_; (with_reducible refine (impl_within.calls (rd l0 x11_1) a1 a2 true _ A7.out).mono ?_); rintro e w' ⟨rfl, ⟨nd, rfl⟩⟩; refine ⟨_, rfl, ?_⟩))
           go_roundg k1
           case measure => have := HK1.out; omega
           case rel => exact ⟨(wrap64 (x11_1 + 1)), (by first | rfl | (simp; done) | (simp [*]; done)), H', ⟨by have := HK1.out; omega⟩, by repeat (first | exact Drawn0.refl _ | apply Drawn0.step)⟩
         · replace c8 := Bool.eq_false_iff.mpr c8
           subst c8
           have H1 : (some false) = some r := by rw [if_neg (show ¬ (false = true) by decide)] at H; exact H
           clear H
           have H := H1
           clear H1
           obtain rfl := Option.some.inj H
           have p286 : 0 ≤ (x11_1 : Int) := of_decide_eq_true (by first | (with_reducible assumption) | assumption)
           have q286 : x11_1 < (l0.length : Int) := of_decide_eq_true (by first | (with_reducible assumption) | assumption)
           obtain ⟨ad286, e286, hx286_0⟩ := Kd.at_int HR0.out x11_1 p286 q286
           cases e286
           replace p286 := eq_true p286
           replace q286 := eq_true q286
           go_wp2_with (first | ((with_reducible refine gate_callee (f := 85) rfl ?_); refine goesL_ (some 18) rfl rfl Try.func85 (by kernel_rfl) rfl #[.int .i64 (rd l0 x11_1), .int .i64 a1, .int .i64 a2] rfl (by (try simp only [List.map_toArray, List.map_cons, List.map_nil]); first | done | rfl | (simp only [List.length_drop, List.length_take]; rfl)) ?_; (with_reducible refine (impl_within.calls (rd l0 x11_1) a1 a2 false _ A7.out).mono ?_); rintro e w' ⟨rfl, ⟨nd, rfl⟩⟩; refine ⟨_, rfl, ?_⟩))
           go_ret
           exact ⟨by first | rfl | (simp; done) | (simp [*]; done), by repeat (first | exact Drawn0.refl _ | apply Drawn0.step)⟩
       · rw [if_neg c6] at H
         exact absurd H (by simp)
     · rw [if_neg c5] at H
       exact absurd H (by simp)
   · rw [if_neg c4] at H
     have c4b0 : decide (x11_1 < (l0.length : Int)) = false := decide_eq_false c4
     clear c4
     obtain rfl := Option.some.inj H
     go_wp2
     go_ret
     exact ⟨by first | rfl | (simp; done) | (simp [*]; done), by repeat (first | exact Drawn0.refl _ | apply Drawn0.step)⟩
end Go.Proofs.Ythlmmcmpllgflaa.P
namespace Go.Proofs.Ythlmmcmpllgflaa.P
open Go.RowKit Go.Proofs.YthlmmcmpllgflaaW.PrintWords Go.Proofs.YthlmmcmpllgflaaW.PrintLast Go.Proofs.YthlmmcmpllgflaaW.PrintMore
def inB (lo hi x : Int) : Bool := decide (lo ≤ x ∧ x ≤ hi)
theorem within_eq (n lo hi : Int) : impl_within.f n lo hi = some (inB lo hi n) := by
  unfold impl_within.f inB
  by_cases h : n ≥ lo
  · rw [if_pos h]; congr 1; simp; omega
  · rw [if_neg h]; congr 1; symm; simp; omega
theorem l1In_eq (n lo hi : Int) : spec_l1In.f n lo hi = some (inB lo hi n) := within_eq n lo hi
theorem allWithin_l0 (l : List Int) (lo hi : Int) (hl : l.length < 4611686018427387904) : ∀ d i : Nat, i + d = l.length →
    Ev (fun k => impl_allWithin.l0 k lo hi l (l.length : Int) (i : Int)) ((l.drop i).all (inB lo hi))
  | 0, i, h => by
    refine Ev.step (fun k => impl_allWithin.l0.eq_2 ..) ?_
    refine Ev.neg (by omega) ((Ev.now true).to ?_)
    rw [List.drop_of_length_le (by omega)]; rfl
  | d + 1, i, h => by
    refine Ev.step (fun k => impl_allWithin.l0.eq_2 ..) ?_
    refine Ev.pos (by omega) (Ev.pos (by omega) (Ev.pos (by omega) (Ev.bind (Ev.const (within_eq _ _ _)) ?_)))
    rw [rd_nat, wrS (by omega), drop_cons l 0 (by omega), List.all_cons]
    cases hb : inB lo hi (l.getD i 0) with
    | true => exact Ev.pos rfl ((allWithin_l0 l lo hi hl d (i + 1) (by omega)).to (by simp))
    | false => exact Ev.neg (by simp) ((Ev.now false).to (by simp))
theorem allWithin_ev (l : List Int) (lo hi : Int) (hl : l.length < 4611686018427387904) : Ev (fun k => impl_allWithin.f k l lo hi) (l.all (inB lo hi)) :=
  (allWithin_l0 l lo hi hl l.length 0 (by omega)).to (by simp)
theorem l2Row_l0 (l : List Int) (n most : Int) (hl : l.length < 4611686018427387904) : ∀ d i : Nat, i + d = l.length →
    Ev (fun k => spec_l2Row.l0 k l n most (i : Int)) ((l.drop i).all (inB 0 most) && ((l.length : Int) == n))
  | 0, i, h => by
    refine Ev.step (fun k => spec_l2Row.l0.eq_2 ..) ?_
    refine Ev.neg (by omega) ((Ev.now _).to ?_)
    rw [List.drop_of_length_le (by omega)]; rfl
  | d + 1, i, h => by
    refine Ev.step (fun k => spec_l2Row.l0.eq_2 ..) ?_
    refine Ev.pos (by omega) (Ev.pos (by omega) (Ev.bind (Ev.const (l1In_eq _ _ _)) ?_))
    rw [rd_nat, wrS (by omega), drop_cons l 0 (by omega), List.all_cons]
    cases hb : inB 0 most (l.getD i 0) with
    | true => exact Ev.pos rfl ((l2Row_l0 l n most hl d (i + 1) (by omega)).to (by simp))
    | false => exact Ev.neg (by simp) ((Ev.now false).to (by simp))
theorem l2Row_ev (l : List Int) (n most : Int) (hl : l.length < 4611686018427387904) : Ev (fun k => spec_l2Row.f k l n most) (l.all (inB 0 most) && ((l.length : Int) == n)) :=
  (l2Row_l0 l n most hl l.length 0 (by omega)).to (by simp)
def lsum : List Int → Int
  | [] => 0
  | x :: l => x + lsum l
theorem lsum_append (a b : List Int) : lsum (a ++ b) = lsum a + lsum b := by
  induction a with
  | nil => simp [lsum]
  | cons x a ih => simp only [List.cons_append, lsum, ih]; omega
theorem lsum_bound (l : List Int) (M : Int) (h : ∀ x ∈ l, 0 ≤ x ∧ x ≤ M) : 0 ≤ lsum l ∧ lsum l ≤ M * (l.length : Int) := by
  induction l with
  | nil => simp [lsum]
  | cons x l ih =>
    have h1 := ih (fun y hy => h y (by simp [hy])); have h2 := h x (by simp)
    simp only [lsum, List.length_cons, Int.natCast_add, Int.mul_add]; simp; omega
theorem l2Sum_l0 (l : List Int) (hl : l.length ≤ 1000000) (hb : ∀ x ∈ l, -1000000 ≤ x ∧ x ≤ 1000000) : ∀ (d i : Nat) (s : Int), i + d = l.length → -1000000 * (i : Int) ≤ s → s ≤ 1000000 * (i : Int) →
    Ev (fun k => spec_l2Sum.l0 k l s (i : Int)) (s + lsum (l.drop i))
  | 0, i, s, h, _, _ => by
    refine Ev.step (fun k => spec_l2Sum.l0.eq_2 ..) ?_
    refine Ev.neg (by omega) ((Ev.now _).to ?_)
    rw [List.drop_of_length_le (by omega)]; simp [lsum]
  | d + 1, i, s, h, h0, h1 => by
    refine Ev.step (fun k => spec_l2Sum.l0.eq_2 ..) ?_
    refine Ev.pos (by omega) (Ev.pos (by omega) ?_)
    have hx := hb (l.getD i 0) (by rw [List.getD_eq_getElem?_getD, List.getElem?_eq_getElem (by omega)]; simp)
    rw [rd_nat, wrS (by omega), wr (by omega) (by omega)]
    refine (l2Sum_l0 l hl hb d (i + 1) _ (by omega) (by omega) (by omega)).to ?_
    rw [drop_cons l 0 (i := i) (by omega)]; simp only [lsum]; omega
theorem l2Sum_ev (l : List Int) (hl : l.length ≤ 1000000) (hb : ∀ x ∈ l, -1000000 ≤ x ∧ x ≤ 1000000) : Ev (fun k => spec_l2Sum.f k l) (lsum l) :=
  (l2Sum_l0 l hl hb l.length 0 0 (by omega) (by omega) (by omega)).to (by simp)
theorem copied_eq (l : List Int) (hl : l.length < 1000000000) : impl_copied.f l = some l := by
  unfold impl_copied.f; simp only [Option.bind_some]; rw [if_pos (by simp; omega)]; simp
theorem toIntS_l0 (l : List Int) (hl : l.length < 1000000000) : ∀ (d i : Nat) (x : List Int), i + d = l.length → x = l.take i ++ List.replicate d 0 →
    Ev (fun k => laws_toIntS.l0 k l x (i : Int)) l
  | 0, i, x, h, hx => by
    refine Ev.step (fun k => laws_toIntS.l0.eq_2 ..) ?_
    refine Ev.neg (by omega) ((Ev.now _).to ?_)
    rw [hx, List.take_of_length_le (by omega)]; simp
  | d + 1, i, x, h, hx => by
    refine Ev.step (fun k => laws_toIntS.l0.eq_2 ..) ?_
    have hxl : x.length = l.length := by rw [hx]; simp; omega
    refine Ev.pos (by omega) (Ev.pos (by omega) (Ev.pos (by omega) ?_))
    rw [rd_nat, wrS (by omega)]
    refine toIntS_l0 l hl d (i + 1) _ (by omega) ?_
    rw [Int.toNat_natCast, hx, List.set_append_right _ _ (by rw [List.length_take]; omega), List.length_take, Nat.min_eq_left (by omega), Nat.sub_self, List.replicate_succ, List.set_cons_zero, List.take_succ_eq_append_getElem (by omega), List.append_assoc, List.singleton_append]
    congr 2
    rw [List.getD_eq_getElem?_getD, List.getElem?_eq_getElem (by omega)]; rfl
theorem toIntS_ev (l : List Int) (hl : l.length < 1000000000) : Ev (fun k => laws_toIntS.f k l) l := by
  unfold laws_toIntS.f
  refine Ev.pos (by omega) (Ev.pos (by omega) ?_)
  exact toIntS_l0 l hl l.length 0 _ (by omega) (by simp)
theorem toChain_ev (a b c : List Int) (ha : a.length < 1000000000) (hb : b.length < 1000000000) (hc : c.length < 1000000000) : Ev (fun k => laws_toChain.f k a b c) (a, b, c) := by
  unfold laws_toChain.f
  exact Ev.bind (toIntS_ev a ha) (Ev.bind (toIntS_ev b hb) (Ev.bind (toIntS_ev c hc) (Ev.now _)))
theorem eqIntS_l0 (a b : List Int) (hl : a.length < 4611686018427387904) (hab : a.length = b.length) : ∀ d i : Nat, i + d = a.length →
    Ev (fun k => laws_eqIntS.l0 k a b (i : Int)) (decide (a.drop i = b.drop i))
  | 0, i, h => by
    refine Ev.step (fun k => laws_eqIntS.l0.eq_2 ..) ?_
    refine Ev.neg (by omega) ((Ev.now true).to ?_)
    rw [List.drop_of_length_le (by omega), List.drop_of_length_le (by omega)]; simp
  | d + 1, i, h => by
    refine Ev.step (fun k => laws_eqIntS.l0.eq_2 ..) ?_
    refine Ev.pos (by omega) (Ev.pos (by omega) (Ev.pos (by omega) ?_))
    rw [rd_nat, rd_nat, wrS (by omega), drop_cons a 0 (by omega), drop_cons b 0 (by omega)]
    by_cases hx : a.getD i 0 = b.getD i 0
    · exact Ev.pos hx ((eqIntS_l0 a b hl hab d (i + 1) (by omega)).to (by rw [hx]; simp))
    · exact Ev.neg hx ((Ev.now false).to (decide_eq_false (fun e => hx (List.cons.inj e).1)).symm)
theorem eqIntS_ev (a b : List Int) (hl : a.length < 4611686018427387904) : Ev (fun k => laws_eqIntS.f k a b) (decide (a = b)) := by
  unfold laws_eqIntS.f
  by_cases h : a.length = b.length
  · exact Ev.pos (by omega) ((eqIntS_l0 a b hl h a.length 0 (by omega)).to (by simp))
  · refine Ev.neg (by omega) ((Ev.now false).to ?_)
    symm; simp; intro e; exact h (by rw [e])
theorem eqChain_self (a b c : List Int) (ha : a.length < 1000000000) (hb : b.length < 1000000000) (hc : c.length < 1000000000) : Ev (fun k => laws_eqChain.f k a b c a b c) true := by
  unfold laws_eqChain.f
  exact Ev.bind ((eqIntS_ev a a (by omega)).to (by simp)) (Ev.pos rfl (Ev.bind ((eqIntS_ev b b (by omega)).to (by simp)) (Ev.pos rfl (Ev.bind ((eqIntS_ev c c (by omega)).to (by simp)) (Ev.pos rfl (Ev.now _))))))
theorem szChain_ev (a b c : List Int) (ha : a.length ≤ 9223372036854775807) (hb : b.length ≤ 9223372036854775807) (hc : c.length ≤ 9223372036854775807) :
    ∃ r, laws_szChain.f a b c 1048576 = some r ∧ (0 ≤ r → a.length ≤ 1048576 ∧ b.length ≤ 1048576 ∧ c.length ≤ 1048576) := by
  unfold laws_szChain.f laws_szIntS.f
  by_cases h1 : (1048576 : Int) - a.length < 0
  · rw [wr (by omega) (by omega), if_pos h1]; exact ⟨_, rfl, by omega⟩
  · rw [wr (by omega) (by omega), if_neg h1]; simp only [Option.bind_some]; rw [if_neg h1]
    by_cases h2 : (1048576 : Int) - a.length - b.length < 0
    · rw [wr (n := 1048576 - (a.length : Int) - b.length) (by omega) (by omega), if_pos h2]; exact ⟨_, rfl, by omega⟩
    · rw [wr (n := 1048576 - (a.length : Int) - b.length) (by omega) (by omega), if_neg h2]; simp only [Option.bind_some]; rw [if_neg h2]
      by_cases h3 : (1048576 : Int) - a.length - b.length - c.length < 0
      · rw [wr (n := 1048576 - (a.length : Int) - b.length - c.length) (by omega) (by omega), if_pos h3]; exact ⟨_, rfl, by omega⟩
      · rw [wr (n := 1048576 - (a.length : Int) - b.length - c.length) (by omega) (by omega), if_neg h3]; simp only [Option.bind_some]; rw [if_neg h3]; exact ⟨_, rfl, by omega⟩
def risB (l : List Int) : Bool := (List.range (l.length - 1)).all fun i => decide (l.getD i 0 ≤ l.getD (i + 1) 0)
theorem cmpLess_eq (a b : Int) : cmp_Less_int.f a b = some (decide (a < b)) := by
  unfold cmp_Less_int.f cmp_isNaN_int.f; simp
theorem IsSorted_l0 (l : List Int) (hl : l.length < 4611686018427387904) : ∀ i : Nat, (i = 0 ∨ i < l.length) →
    Ev (fun k => slices_IsSorted_int_int.l0 k l (i : Int)) ((List.range i).all fun i => decide (l.getD i 0 ≤ l.getD (i + 1) 0))
  | 0, _ => by
    refine Ev.step (fun k => slices_IsSorted_int_int.l0.eq_2 ..) ?_
    exact Ev.neg (by omega) ((Ev.now _).to (by simp))
  | i + 1, h => by
    refine Ev.step (fun k => slices_IsSorted_int_int.l0.eq_2 ..) ?_
    rw [wrP (by omega)]
    refine Ev.pos (by omega) (Ev.pos (by omega) (Ev.pos (by omega) (Ev.pos (by omega) (Ev.pos (by omega) (Ev.bind (Ev.const (cmpLess_eq _ _)) ?_)))))
    rw [rd_nat, rd_nat, List.range_succ, List.all_append]
    by_cases hx : l.getD (i + 1) 0 < l.getD i 0
    · refine Ev.pos (by simpa using hx) ((Ev.now false).to ?_)
      symm; simp only [List.all_cons, List.all_nil, Bool.and_true, Bool.and_eq_false_iff]; right; exact decide_eq_false (by omega)
    · refine Ev.neg (by simpa using hx) ((IsSorted_l0 l hl i (by omega)).to ?_)
      simp only [List.all_cons, List.all_nil, Bool.and_true]; rw [decide_eq_true (show l.getD i 0 ≤ l.getD (i + 1) 0 by omega), Bool.and_true]
theorem IsSorted_ev (l : List Int) (hl : l.length < 4611686018427387904) : Ev (fun k => slices_IsSorted_int_int.f k l) (risB l) := by
  unfold slices_IsSorted_int_int.f risB
  by_cases h0 : l.length = 0
  · rw [h0]
    refine Ev.step (fun k => slices_IsSorted_int_int.l0.eq_2 ..) ?_
    rw [wr (by omega) (by omega)]
    exact Ev.neg (by omega) ((Ev.now _).to (by simp))
  · have e : wrap64 ((l.length : Int) - 1) = ((l.length - 1 : Nat) : Int) := by rw [wr (by omega) (by omega)]; omega
    rw [e]; exact IsSorted_l0 l hl _ (by omega)
end Go.Proofs.Ythlmmcmpllgflaa.P
namespace ChainMath
def nxtF (O : Nat → Bool) : Nat → Nat → Nat
  | 0, t => t
  | f + 1, t => if O t then t else nxtF O f (t + 1)
def nxt (O : Nat → Bool) (n t : Nat) : Nat := nxtF O (n - t) t
theorem nxtF_spec (O : Nat → Bool) : ∀ f t, t ≤ nxtF O f t ∧ nxtF O f t ≤ t + f ∧ (nxtF O f t < t + f → O (nxtF O f t) = true) ∧ ∀ u, t ≤ u → u < nxtF O f t → O u = false
  | 0, t => by simp [nxtF]; omega
  | f + 1, t => by
    unfold nxtF
    split
    · rename_i h; exact ⟨Nat.le_refl _, by omega, fun _ => h, fun u h1 h2 => by omega⟩
    · rename_i h
      obtain ⟨h1, h2, h3, h4⟩ := nxtF_spec O f (t + 1)
      refine ⟨by omega, by omega, fun hh => h3 (by omega), fun u hu1 hu2 => ?_⟩
      by_cases e : u = t
      · subst e; simpa using h
      · exact h4 u (by omega) hu2
theorem nxt_ge (O : Nat → Bool) (n t : Nat) : t ≤ nxt O n t := (nxtF_spec O _ t).1
theorem nxt_le (O : Nat → Bool) {n t : Nat} (h : t ≤ n) : nxt O n t ≤ n := by have := (nxtF_spec O (n - t) t).2.1; unfold nxt; omega
theorem nxt_in (O : Nat → Bool) {n t : Nat} (h : nxt O n t < n) : O (nxt O n t) = true := (nxtF_spec O (n - t) t).2.2.1 (by have := nxt_ge O n t; unfold nxt at *; omega)
theorem nxt_not (O : Nat → Bool) {n t u : Nat} (h1 : t ≤ u) (h2 : u < nxt O n t) : O u = false := (nxtF_spec O (n - t) t).2.2.2 u h1 h2
theorem nxt_min (O : Nat → Bool) {n t u : Nat} (h1 : t ≤ u) (h2 : O u = true) : nxt O n t ≤ u := by
  apply Classical.byContradiction; intro h
  have := nxt_not O (n := n) h1 (by omega)
  simp [this] at h2
theorem nxt_self (O : Nat → Bool) {n t : Nat} (h2 : O t = true) : nxt O n t = t := by
  have := nxt_min O (n := n) (Nat.le_refl t) h2; have := nxt_ge O n t; omega
theorem nxt_n (O : Nat → Bool) (n : Nat) : nxt O n n = n := by unfold nxt; simp [nxtF]
theorem nxt_step (O : Nat → Bool) {n t : Nat} (h2 : O t = false) (h : t < n) : nxt O n t = nxt O n (t + 1) := by
  unfold nxt; obtain ⟨m, hm⟩ : ∃ m, n - t = m + 1 := ⟨n - t - 1, by omega⟩
  rw [hm]; simp only [nxtF, h2]; rw [show n - (t+1) = m by omega]; simp
theorem nxt_mono (O : Nat → Bool) {n s t : Nat} (h : s ≤ t) (ht : t ≤ n) : nxt O n s ≤ nxt O n t := by
  by_cases e : nxt O n t < n
  · exact nxt_min O (by have := nxt_ge O n t; omega) (nxt_in O e)
  · have := nxt_le O (n := n) (t := s) (by omega); have := nxt_le O (n := n) ht; omega
def pend (O Q : Nat → Bool) : Nat → Bool
  | 0 => false
  | t + 1 => (pend O Q t || O t) && !Q t
def moved (O Q : Nat → Bool) (t : Nat) : Bool := (pend O Q t || O t) && Q t
def cnt (O : Nat → Bool) : Nat → Nat
  | 0 => 0
  | t + 1 => cnt O t + (if O t then 1 else 0)
theorem moved_sub (O Q : Nat → Bool) (t : Nat) (h : moved O Q t = true) : Q t = true := by unfold moved at h; simp at h; exact h.2
theorem moved_cnt' (O Q : Nat → Bool) : ∀ t, cnt (moved O Q) t + (if pend O Q t then 1 else 0) ≤ cnt O t
  | 0 => by simp [cnt, pend]
  | t + 1 => by
    have ih := moved_cnt' O Q t
    simp only [cnt, pend, moved]
    rcases Bool.eq_false_or_eq_true (pend O Q t) with hp | hp <;> rcases Bool.eq_false_or_eq_true (O t) with ho | ho <;> rcases Bool.eq_false_or_eq_true (Q t) with hq | hq <;> simp only [hp, ho, hq] at ih ⊢ <;> simp at ih ⊢ <;> omega
theorem moved_cnt (O Q : Nat → Bool) (t : Nat) : cnt (moved O Q) t ≤ cnt O t := by have := moved_cnt' O Q t; omega
theorem pend_go (O Q : Nat → Bool) (v : Nat) (hv : O v = true) : ∀ d, (∀ u, v ≤ u → u < v + d → Q u = false) → (pend O Q (v + d) || O (v + d)) = true
  | 0, _ => by simp [hv]
  | d + 1, h => by
    have ih := pend_go O Q v hv d (fun u h1 h2 => h u h1 (by omega))
    have hq := h (v + d) (by omega) (by omega)
    rw [show v + (d + 1) = (v + d) + 1 by omega]
    simp only [pend, hq]; rw [ih]; simp
theorem moved_nxt (O Q : Nat → Bool) {n v : Nat} (hn : v ≤ n) (hv : O v = true) : nxt (moved O Q) n v ≤ nxt Q n v := by
  by_cases e : nxt Q n v < n
  · apply nxt_min _ (nxt_ge Q n v)
    have h1 := nxt_ge Q n v
    have := pend_go O Q v hv (nxt Q n v - v) (fun u h1 h2 => nxt_not Q h1 (n := n) (by omega))
    rw [show v + (nxt Q n v - v) = nxt Q n v by omega] at this
    unfold moved; rw [this, nxt_in Q e]; rfl
  · have := nxt_le Q (n := n) hn; have := nxt_le (moved O Q) (n := n) hn; omega
theorem love_step {n : Nat} {D X Y : Nat → Int} {O Q : Nat → Bool} (hD : ∀ s t, s ≤ t → t ≤ n → D s ≤ D t)
    (hX : ∀ t, t < n → O t = false → X (t + 1) = X t) (hXn : X n = D n) (hXY : ∀ t, t ≤ n → Y t ≤ X t) (hY : ∀ t, t ≤ n → D (nxt Q n t) ≤ Y t) :
    ∀ t, t ≤ n → D (nxt (moved O Q) n t) ≤ X t := by
  intro t ht
  have hv : ∀ d t, t + d = nxt O n t → t ≤ n → X t = X (t + d) := by
    intro d
    induction d with
    | zero => intro t _ _; rfl
    | succ d ih =>
      intro t h ht
      have h1 := nxt_le O (n := n) ht
      have h0 : O t = false := nxt_not O (n := n) (Nat.le_refl t) (by omega)
      rw [← hX t (by omega) h0, show t + (d + 1) = (t + 1) + d by omega]
      exact ih (t + 1) (by rw [← nxt_step O h0 (by omega)]; omega) (by omega)
  have h1 := nxt_ge O n t
  have h2 := nxt_le O (n := n) ht
  have hx : X t = X (nxt O n t) := by
    have := hv (nxt O n t - t) t (by omega) ht
    rwa [show t + (nxt O n t - t) = nxt O n t by omega] at this
  by_cases e : nxt O n t < n
  · have ho := nxt_in O e
    have a1 := hY _ h2
    have a2 := hXY _ h2
    have a3 := moved_nxt O Q (n := n) h2 ho
    have a4 := nxt_mono (moved O Q) (n := n) h1 h2
    have a5 := hD _ _ (Nat.le_trans a4 a3) (nxt_le Q h2)
    omega
  · have e' : nxt O n t = n := by omega
    have a5 := hD _ _ (nxt_le (moved O Q) ht) (Nat.le_refl n)
    rw [hx, e', hXn]; exact a5
theorem single_step {n : Nat} {D X : Nat → Int} {O : Nat → Bool}
    (hX : ∀ t, t < n → O t = false → X (t + 1) = X t) (hXY : ∀ t, t ≤ n → D t ≤ X t) :
    ∀ t, t ≤ n → D (nxt O n t) ≤ X t := by
  intro t ht
  have hv : ∀ d t, t + d = nxt O n t → t ≤ n → X t = X (t + d) := by
    intro d
    induction d with
    | zero => intro t _ _; rfl
    | succ d ih =>
      intro t h ht
      have h1 := nxt_le O (n := n) ht
      have h0 : O t = false := nxt_not O (n := n) (Nat.le_refl t) (by omega)
      rw [← hX t (by omega) h0, show t + (d + 1) = (t + 1) + d by omega]
      exact ih (t + 1) (by rw [← nxt_step O h0 (by omega)]; omega) (by omega)
  have h1 := nxt_ge O n t
  have h2 := nxt_le O (n := n) ht
  have hx : X t = X (nxt O n t) := by
    have := hv (nxt O n t - t) t (by omega) ht
    rwa [show t + (nxt O n t - t) = nxt O n t by omega] at this
  rw [hx]; exact hXY _ h2
end ChainMath
namespace ChainMath
def sumN (f : Nat → Int) : Nat → Int
  | 0 => 0
  | n + 1 => sumN f n + f n
theorem sumN_congr {f g : Nat → Int} : ∀ n, (∀ i, i < n → f i = g i) → sumN f n = sumN g n
  | 0, _ => rfl
  | n + 1, h => by simp only [sumN]; rw [sumN_congr n (fun i hi => h i (by omega)), h n (by omega)]
theorem sumN_le {f g : Nat → Int} : ∀ n, (∀ i, i < n → f i ≤ g i) → sumN f n ≤ sumN g n
  | 0, _ => by simp [sumN]
  | n + 1, h => by simp only [sumN]; have := sumN_le n (fun i hi => h i (by omega)); have := h n (by omega); omega
theorem sumN_add (f g : Nat → Int) : ∀ n, sumN (fun i => f i + g i) n = sumN f n + sumN g n
  | 0 => by simp [sumN]
  | n + 1 => by simp only [sumN, sumN_add f g n]; omega
theorem sumN_sub (f g : Nat → Int) : ∀ n, sumN (fun i => f i - g i) n = sumN f n - sumN g n
  | 0 => by simp [sumN]
  | n + 1 => by simp only [sumN, sumN_sub f g n]; omega
theorem sumN_mul (c : Int) (f : Nat → Int) : ∀ n, sumN (fun i => c * f i) n = c * sumN f n
  | 0 => by simp [sumN]
  | n + 1 => by simp only [sumN, sumN_mul c f n]; rw [Int.mul_add]
theorem sumN_zero : ∀ n, sumN (fun _ => 0) n = 0
  | 0 => rfl
  | n + 1 => by simp [sumN, sumN_zero n]
def chg (X : Nat → Int) (t : Nat) : Bool := decide (X (t + 1) ≠ X t)
def ech (hold : Nat → Int) : Nat → Int
  | 0 => hold 0
  | s + 1 => hold (s + 1) - hold s
def hcost (m n : Nat) (setup hold : Nat → Int) (X : Nat → Nat → Int) : Int :=
  sumN (fun s => setup s * (cnt (chg (X s)) n : Int) + hold s * sumN (fun t => X s (t + 1) - X (s + 1) (t + 1)) n) m
def ecost (m n : Nat) (setup hold : Nat → Int) (X : Nat → Nat → Int) : Int :=
  sumN (fun s => setup s * (cnt (chg (X s)) n : Int) + ech hold s * sumN (fun t => X s (t + 1) - X m (t + 1)) n) m
theorem abel_stages (hold : Nat → Int) (a : Nat → Int) : ∀ m, sumN (fun s => hold s * (a s - a (s + 1))) (m + 1) = sumN (fun s => ech hold s * a s) (m + 1) - hold m * a (m + 1)
  | 0 => by simp [sumN, ech, Int.mul_sub]
  | m + 1 => by
    rw [sumN, abel_stages hold a m, sumN.eq_def _ (m + 1 + 1)]
    simp only [ech, Int.mul_sub, Int.sub_mul]; omega
theorem ech_sum (hold : Nat → Int) : ∀ m, sumN (ech hold) (m + 1) = hold m
  | 0 => by simp [sumN, ech]
  | m + 1 => by rw [sumN, ech_sum hold m]; simp [ech]; omega
theorem hcost_ecost (m n : Nat) (setup hold : Nat → Int) (X : Nat → Nat → Int) : hcost m n setup hold X = ecost m n setup hold X := by
  unfold hcost ecost
  rw [sumN_add, sumN_add]
  congr 1
  cases m with
  | zero => rfl
  | succ m =>
    have h1 : sumN (fun i => hold i * sumN (fun t => X i (t + 1) - X (i + 1) (t + 1)) n) (m + 1) = sumN (fun i => hold i * (sumN (fun t => X i (t + 1)) n - sumN (fun t => X (i + 1) (t + 1)) n)) (m + 1) :=
      sumN_congr _ fun i _ => by rw [sumN_sub]
    have h2 : sumN (fun i => ech hold i * sumN (fun t => X i (t + 1) - X (m + 1) (t + 1)) n) (m + 1) = sumN (fun i => ech hold i * sumN (fun t => X i (t + 1)) n - sumN (fun t => X (m + 1) (t + 1)) n * ech hold i) (m + 1) :=
      sumN_congr _ fun i _ => by rw [sumN_sub, Int.mul_sub, Int.mul_comm (sumN (fun t => X (m + 1) (t + 1)) n)]
    rw [h1, h2, abel_stages hold (fun i => sumN (fun t => X i (t + 1)) n) m, sumN_sub, sumN_mul, ech_sum, Int.mul_comm]
structure Feas (m n : Nat) (D : Nat → Int) (X : Nat → Nat → Int) : Prop where
  zero : ∀ s, s < m → X s 0 = 0
  full : ∀ s, s < m → X s n = D n
  last : ∀ t, t ≤ n → X m t = D t
  over : ∀ s t, s < m → t ≤ n → X (s + 1) t ≤ X s t
def shifted (D : Nat → Int) (X : Nat → Nat → Int) (m : Nat) : Nat → Nat → Bool
  | 0 => chg D
  | k + 1 => moved (chg (X (m - (k + 1)))) (shifted D X m k)
theorem chg_not {X : Nat → Int} {t : Nat} (h : chg X t = false) : X (t + 1) = X t := by unfold chg at h; simp at h; exact h
theorem shifted_cover {m n : Nat} {D : Nat → Int} {X : Nat → Nat → Int} (hD : ∀ s t, s ≤ t → t ≤ n → D s ≤ D t) (hX : Feas m n D X) :
    ∀ k, k ≤ m → ∀ t, t ≤ n → D (nxt (shifted D X m k) n t) ≤ X (m - k) t
  | 0, _ => by
    intro t ht
    simp only [shifted, Nat.sub_zero]; rw [hX.last t ht]
    exact single_step (fun t _ h => chg_not h) (fun t _ => Int.le_refl _) t ht
  | k + 1, hk => by
    have ih := shifted_cover hD hX k (by omega)
    have e : m - k = (m - (k + 1)) + 1 := by omega
    refine love_step (Y := X (m - k)) hD (fun t _ h => chg_not h) (hX.full _ (by omega)) (fun t ht => ?_) ih
    rw [e]; exact hX.over _ _ (by omega) ht
structure Nest (m n : Nat) (D : Nat → Int) (Q : Nat → Nat → Bool) : Prop where
  sub : ∀ s t, s + 1 < m → Q s t = true → Q (s + 1) t = true
  pos : ∀ s t, s < m → Q s t = true → chg D t = true
  start : ∀ s, s < m → D (nxt (Q s) n 0) = 0
def ncost (m n : Nat) (D : Nat → Int) (setup hold : Nat → Int) (Q : Nat → Nat → Bool) : Int :=
  sumN (fun s => setup s * (cnt (Q s) n : Int) + ech hold s * sumN (fun t => D (nxt (Q s) n (t + 1)) - D (t + 1)) n) m
theorem love {m n : Nat} {D : Nat → Int} {X : Nat → Nat → Int} {setup hold : Nat → Int} (hD : ∀ s t, s ≤ t → t ≤ n → D s ≤ D t) (hD0 : D 0 = 0) (hX : Feas m n D X)
    (hs : ∀ s, s < m → 0 ≤ setup s) (hh : ∀ s, s < m → 0 ≤ ech hold s) :
    ∃ Q, Nest m n D Q ∧ ncost m n D setup hold Q ≤ hcost m n setup hold X := by
  refine ⟨fun s => shifted D X m (m - s), ⟨?_, ?_, ?_⟩, ?_⟩
  · intro s t hs h
    obtain ⟨k, hk⟩ : ∃ k, m - s = k + 1 := ⟨m - s - 1, by omega⟩
    rw [hk] at h
    rw [show m - (s + 1) = k by omega]
    exact moved_sub _ _ _ h
  · intro s t hs h
    have : ∀ k, shifted D X m k t = true → chg D t = true := by
      intro k
      induction k with
      | zero => exact id
      | succ k ih => intro h; exact ih (moved_sub _ _ _ h)
    exact this _ h
  · intro s hs
    have h1 := shifted_cover hD hX (m - s) (by omega) 0 (by omega)
    rw [show m - (m - s) = s by omega, hX.zero s hs] at h1
    have h2 := hD 0 (nxt (shifted D X m (m - s)) n 0) (by omega) (nxt_le _ (by omega))
    show D (nxt (shifted D X m (m - s)) n 0) = 0
    omega
  · rw [hcost_ecost]
    refine sumN_le _ fun s hm => ?_
    have h1 : (cnt (shifted D X m (m - s)) n : Int) ≤ cnt (chg (X s)) n := by
      obtain ⟨k, hk⟩ : ∃ k, m - s = k + 1 := ⟨m - s - 1, by omega⟩
      rw [hk]; simp only [shifted]
      rw [show m - (k + 1) = s by omega]
      have := moved_cnt (chg (X s)) (shifted D X m k) n
      omega
    have h2 : sumN (fun t => D (nxt (shifted D X m (m - s)) n (t + 1)) - D (t + 1)) n ≤ sumN (fun t => X s (t + 1) - X m (t + 1)) n := by
      refine sumN_le _ fun t ht => ?_
      have h3 := shifted_cover hD hX (m - s) (by omega) (t + 1) (by omega)
      rw [show m - (m - s) = s by omega] at h3
      have := hX.last (t + 1) (by omega)
      omega
    have a := Int.mul_le_mul_of_nonneg_left h1 (hs s hm)
    have b := Int.mul_le_mul_of_nonneg_left h2 (hh s hm)
    exact Int.add_le_add a b
end ChainMath
namespace ChainMath
def upd (best : Int) (c : Option Int) : Int := match c with
  | none => best
  | some c => if best < 0 ∨ c < best then c else best
def least (cand : Nat → Option Int) : List Nat → Int → Int
  | [], best => best
  | s :: l, best => least cand l (upd best (cand s))
theorem least_spec (cand : Nat → Option Int) : ∀ (l : List Nat) (best : Int), (∀ s c, s ∈ l → cand s = some c → 0 ≤ c) → -1 ≤ best →
    (-1 ≤ least cand l best) ∧ (0 ≤ best → 0 ≤ least cand l best ∧ least cand l best ≤ best) ∧ (∀ s c, s ∈ l → cand s = some c → 0 ≤ least cand l best ∧ least cand l best ≤ c) ∧
    (least cand l best = best ∨ ∃ s, s ∈ l ∧ cand s = some (least cand l best))
  | [], best, _, hb => by simp [least]; omega
  | s :: l, best, h, hb => by
    have hu : -1 ≤ upd best (cand s) := by
      unfold upd; split
      · exact hb
      · rename_i c hc; have := h s c (by simp) hc; split <;> omega
    obtain ⟨i0, i1, i2, i3⟩ := least_spec cand l (upd best (cand s)) (fun s' c hs hc => h s' c (by simp [hs]) hc) hu
    refine ⟨i0, fun h0 => ?_, fun s' c hs hc => ?_, ?_⟩
    · have : 0 ≤ upd best (cand s) ∧ upd best (cand s) ≤ best := by
        unfold upd; split
        · omega
        · rename_i c hc; have := h s c (by simp) hc; split <;> omega
      have := i1 this.1
      simp only [least]; omega
    · simp only [least]
      rcases List.mem_cons.1 hs with e | e
      · subst e
        have h1 := h s' c (by simp) hc
        have h2 : 0 ≤ upd best (cand s') ∧ upd best (cand s') ≤ c := by
          unfold upd; rw [hc]; dsimp only; split <;> omega
        have := i1 h2.1; omega
      · exact i2 s' c e hc
    · simp only [least]
      rcases i3 with e | ⟨s', h1, h2⟩
      · rw [e]
        unfold upd; split
        · exact .inl rfl
        · rename_i c hc; split
          · exact .inr ⟨s, by simp, hc⟩
          · exact .inl rfl
      · exact .inr ⟨s', by simp [h1], h2⟩
section
variable (m n : Nat) (D setup hold : Nat → Int)
def gcand (G : Nat → Nat → Nat → Nat → Int) (s t a b split : Nat) : Option Int :=
  if s + 1 < m then
    (let c1 := if D split - D a > 0 then setup (s + 1) + G (s + 1) t a split else 0
     if D b - D split > 0 then (if t + 1 > split then none else some (c1 + hold s * (D b - D split) + G s (t + 1) split b)) else some c1)
  else if split > a + 1 ∨ (split > a ∧ a > t) ∨ (split = a ∧ a = t) then none
  else if D b - D split > 0 then (if t + 1 > split then none else some (0 + hold s * (D b - D split) + G s (t + 1) split b)) else some 0
def give : Nat → Nat → Nat → Nat → Nat → Int
  | 0, _, _, _, _ => 0
  | f + 1, s, t, a, b => if D b - D a = 0 then 0 else least (gcand m D setup hold (give f) s t a b) (List.range' a (b + 1 - a)) (-1)
end
section
variable {m n : Nat} {D setup hold : Nat → Int} (hD : ∀ s t, s ≤ t → t ≤ n → D s ≤ D t) (hs : ∀ s, s < m → 0 ≤ setup s) (hh : ∀ s, s < m → 0 ≤ hold s)
include hD hs hh
theorem give_nonneg : ∀ f s t a b, s < m → t ≤ a → a ≤ b → b ≤ n → (b - t) + (m - s) ≤ f → 0 ≤ give m D setup hold f s t a b
  | 0, s, t, a, b, h1, _, _, _, h5 => by simp [give]
  | f + 1, s, t, a, b, h1, h2, h3, h4, h5 => by
    unfold give
    split
    · omega
    · rename_i hne
      have hab : a < b := by
        rcases Nat.lt_or_ge a b with h | h
        · exact h
        · have : a = b := by omega
          subst this; omega
      have hpos : D b - D a > 0 := by have := hD a b h3 h4; omega
      have hc : ∀ split c, split ∈ List.range' a (b + 1 - a) → gcand m D setup hold (give m D setup hold f) s t a b split = some c → 0 ≤ c := by
        intro split c hm hc
        rw [List.mem_range'_1] at hm
        unfold gcand at hc
        split at hc
        · rename_i hsm
          have p1 : 0 ≤ (if D split - D a > 0 then setup (s + 1) + give m D setup hold f (s + 1) t a split else 0) := by
            split
            · have := hs (s + 1) hsm; have := give_nonneg f (s + 1) t a split hsm h2 (by omega) (by omega) (by omega); omega
            · omega
          dsimp only at hc
          split at hc
          · rename_i hl
            split at hc
            · simp at hc
            · have := give_nonneg f s (t + 1) split b h1 (by omega) (by omega) h4 (by omega)
              have := Int.mul_nonneg (hh s h1) (Int.le_of_lt hl)
              simp only [Option.some.injEq] at hc; omega
          · simp only [Option.some.injEq] at hc; omega
        · split at hc
          · simp at hc
          · split at hc
            · rename_i hl
              split at hc
              · simp at hc
              · have := give_nonneg f s (t + 1) split b h1 (by omega) (by omega) h4 (by omega)
                have := Int.mul_nonneg (hh s h1) (Int.le_of_lt hl)
                simp only [Option.some.injEq] at hc; omega
            · simp only [Option.some.injEq] at hc; omega
      obtain ⟨_, _, i2, _⟩ := least_spec (gcand m D setup hold (give m D setup hold f) s t a b) (List.range' a (b + 1 - a)) (-1) hc (by omega)
      have hv : ∃ split c, split ∈ List.range' a (b + 1 - a) ∧ gcand m D setup hold (give m D setup hold f) s t a b split = some c := by
        by_cases hsm : s + 1 < m
        · exact ⟨b, (if D b - D a > 0 then setup (s + 1) + give m D setup hold f (s + 1) t a b else 0), by rw [List.mem_range'_1]; omega, by unfold gcand; rw [if_pos hsm]; dsimp only; rw [if_neg (show ¬ D b - D b > 0 by omega)]⟩
        · by_cases ht : t = a
          · subst ht
            by_cases hl : D b - D (t + 1) > 0
            · exact ⟨t + 1, _, by rw [List.mem_range'_1]; omega, by unfold gcand; rw [if_neg hsm, if_neg (by omega), if_pos hl, if_neg (by omega)]⟩
            · exact ⟨t + 1, _, by rw [List.mem_range'_1]; omega, by unfold gcand; rw [if_neg hsm, if_neg (by omega), if_neg hl]⟩
          · exact ⟨a, _, by rw [List.mem_range'_1]; omega, by unfold gcand; rw [if_neg hsm, if_neg (by omega), if_pos hpos, if_neg (by omega)]⟩
      obtain ⟨split, c, h6, h7⟩ := hv
      exact (i2 split c h6 h7).1
termination_by f => f
theorem gcand_nonneg (f s t a b : Nat) (h1 : s < m) (h2 : t ≤ a) (h3 : a ≤ b) (h4 : b ≤ n) (h5 : (b - t) + (m - s) ≤ f + 1) :
    ∀ split c, split ∈ List.range' a (b + 1 - a) → gcand m D setup hold (give m D setup hold f) s t a b split = some c → 0 ≤ c := by
  intro split c hm hc
  rw [List.mem_range'_1] at hm
  unfold gcand at hc
  split at hc
  · rename_i hsm
    have p1 : 0 ≤ (if D split - D a > 0 then setup (s + 1) + give m D setup hold f (s + 1) t a split else 0) := by
      split
      · have := hs (s + 1) hsm; have := give_nonneg hD hs hh f (s + 1) t a split hsm h2 (by omega) (by omega) (by omega); omega
      · omega
    dsimp only at hc
    split at hc
    · rename_i hl
      split at hc
      · simp at hc
      · have := give_nonneg hD hs hh f s (t + 1) split b h1 (by omega) (by omega) h4 (by omega)
        have := Int.mul_nonneg (hh s h1) (Int.le_of_lt hl)
        simp only [Option.some.injEq] at hc; omega
    · simp only [Option.some.injEq] at hc; omega
  · split at hc
    · simp at hc
    · split at hc
      · rename_i hl
        split at hc
        · simp at hc
        · have := give_nonneg hD hs hh f s (t + 1) split b h1 (by omega) (by omega) h4 (by omega)
          have := Int.mul_nonneg (hh s h1) (Int.le_of_lt hl)
          simp only [Option.some.injEq] at hc; omega
      · simp only [Option.some.injEq] at hc; omega
theorem give_le (f s t a b : Nat) (h1 : s < m) (h2 : t ≤ a) (h3 : a ≤ b) (h4 : b ≤ n) (h5 : (b - t) + (m - s) ≤ f + 1) (hne : D b - D a > 0) {split : Nat} {c : Int} (hm : a ≤ split ∧ split ≤ b)
    (hc : gcand m D setup hold (give m D setup hold f) s t a b split = some c) : give m D setup hold (f + 1) s t a b ≤ c := by
  have hcs := gcand_nonneg hD hs hh f s t a b h1 h2 h3 h4 h5
  obtain ⟨_, _, i2, _⟩ := least_spec (gcand m D setup hold (give m D setup hold f) s t a b) (List.range' a (b + 1 - a)) (-1) hcs (by omega)
  unfold give; rw [if_neg (by omega)]
  exact (i2 split c (by rw [List.mem_range'_1]; omega) hc).2
theorem give_is (f s t a b : Nat) (h1 : s < m) (h2 : t ≤ a) (h3 : a ≤ b) (h4 : b ≤ n) (h5 : (b - t) + (m - s) ≤ f + 1) (hne : D b - D a > 0) :
    ∃ split, a ≤ split ∧ split ≤ b ∧ gcand m D setup hold (give m D setup hold f) s t a b split = some (give m D setup hold (f + 1) s t a b) := by
  have hcs := gcand_nonneg hD hs hh f s t a b h1 h2 h3 h4 h5
  obtain ⟨_, _, i2, i3⟩ := least_spec (gcand m D setup hold (give m D setup hold f) s t a b) (List.range' a (b + 1 - a)) (-1) hcs (by omega)
  have h0 := give_nonneg hD hs hh (f + 1) s t a b h1 h2 h3 h4 h5
  have e : give m D setup hold (f + 1) s t a b = least (gcand m D setup hold (give m D setup hold f) s t a b) (List.range' a (b + 1 - a)) (-1) := by
    rw [give]; rw [if_neg (by omega)]
  rcases i3 with e1 | ⟨split, h6, h7⟩
  · omega
  · rw [List.mem_range'_1] at h6
    exact ⟨split, by omega, by omega, by rw [e]; exact h7⟩
end
end ChainMath
namespace ChainMath
theorem sumN_front (f : Nat → Int) : ∀ n, sumN f (n + 1) = f 0 + sumN (fun i => f (i + 1)) n
  | 0 => by simp [sumN]
  | n + 1 => by rw [sumN, sumN_front f n, sumN]; omega
def rng (f : Nat → Int) (u b : Nat) : Int := sumN f b - sumN f u
theorem rng_self (f : Nat → Int) (u : Nat) : rng f u u = 0 := by unfold rng; omega
theorem rng_add (f : Nat → Int) (u b c : Nat) : rng f u b + rng f b c = rng f u c := by unfold rng; omega
theorem rng_first (f : Nat → Int) {u b : Nat} (_h : u < b) : rng f u b = f u + rng f (u + 1) b := by unfold rng; simp only [sumN]; omega
theorem rng_le {f g : Nat → Int} {u b : Nat} (h : ∀ t, u ≤ t → t < b → f t ≤ g t) (hub : u ≤ b) : rng f u b ≤ rng g u b := by
  induction b with
  | zero => have : u = 0 := by omega
            subst this; simp [rng_self]
  | succ b ih =>
    rcases Nat.lt_or_ge b u with hb | hb
    · have : u = b + 1 := by omega
      subst this; simp [rng_self]
    · have i1 := ih (fun t h1 h2 => h t h1 (by omega)) hb
      have i2 := h b hb (by omega)
      unfold rng at *; simp only [sumN]; omega
theorem rng_nonneg {f : Nat → Int} {u b : Nat} (h : ∀ t, u ≤ t → t < b → 0 ≤ f t) (hub : u ≤ b) : 0 ≤ rng f u b := by
  have := rng_le (f := fun _ => 0) (g := f) h hub
  have h0 : rng (fun _ => 0) u b = 0 := by unfold rng; rw [sumN_zero, sumN_zero]; rfl
  omega
theorem rng_mul (c : Int) (f : Nat → Int) (u b : Nat) : rng (fun t => c * f t) u b = c * rng f u b := by unfold rng; rw [sumN_mul, sumN_mul, Int.mul_sub]
theorem rng_addf (f g : Nat → Int) (u b : Nat) : rng (fun t => f t + g t) u b = rng f u b + rng g u b := by unfold rng; rw [sumN_add, sumN_add]; omega
section
variable {m n : Nat} {D setup hold : Nat → Int} {Q : Nat → Nat → Bool}
def nx (m n : Nat) (Q : Nat → Nat → Bool) (s t : Nat) : Nat := if s < m then nxt (Q s) n t else t
def per (m n : Nat) (D setup hold : Nat → Int) (Q : Nat → Nat → Bool) (s t : Nat) : Int :=
  (if Q s t then setup s else 0) + hold s * (D (nx m n Q s (t + 1)) - D (nx m n Q (s + 1) (t + 1)))
def Rk (m n : Nat) (D setup hold : Nat → Int) (Q : Nat → Nat → Bool) : Nat → Nat → Nat → Nat → Int
  | 0, _, _, _ => 0
  | k + 1, s, u, b => rng (per m n D setup hold Q s) u b + Rk m n D setup hold Q k (s + 1) u b
theorem Rk_add (k : Nat) : ∀ s u b c, Rk m n D setup hold Q k s u b + Rk m n D setup hold Q k s b c = Rk m n D setup hold Q k s u c := by
  induction k with
  | zero => intro s u b c; simp [Rk]
  | succ k ih => intro s u b c; simp only [Rk]; have := ih (s + 1) u b c; have := rng_add (per m n D setup hold Q s) u b c; omega
theorem nx_ge (s t : Nat) : t ≤ nx m n Q s t := by unfold nx; split; exact nxt_ge _ _ _; exact Nat.le_refl _
theorem nx_le {s t : Nat} (h : t ≤ n) : nx m n Q s t ≤ n := by unfold nx; split; exact nxt_le _ h; exact h
variable (hsub : ∀ s t, s + 1 < m → Q s t = true → Q (s + 1) t = true)
include hsub
theorem sub_up {s t : Nat} : ∀ d, s + d < m → Q s t = true → Q (s + d) t = true
  | 0, _, h => by exact h
  | d + 1, h1, h => hsub (s + d) t (by omega) (sub_up d (by omega) h)
theorem nx_le_b {s s' t b : Nat} (h : s ≤ s') (hb : b = n ∨ (s < m ∧ Q s b = true)) (ht : t ≤ b) (hbn : b ≤ n) : nx m n Q s' t ≤ b := by
  rcases hb with hb | ⟨h1, h2⟩
  · subst hb; exact nx_le ht
  · unfold nx; split
    · rename_i h3
      have := sub_up hsub (s' - s) (by omega) h2
      rw [show s + (s' - s) = s' by omega] at this
      exact nxt_min _ ht this
    · exact ht
theorem nx_mono_s {s t : Nat} (ht : t ≤ n) : nx m n Q (s + 1) t ≤ nx m n Q s t := by
  rcases Nat.lt_or_ge s m with h | h
  · by_cases e : nxt (Q s) n t < n
    · have := nx_le_b (m := m) (n := n) (Q := Q) (s := s) (s' := s + 1) (t := t) (b := nxt (Q s) n t) hsub (by omega) (.inr ⟨h, nxt_in _ e⟩) (nxt_ge _ _ _) (by omega)
      have e2 : nx m n Q s t = nxt (Q s) n t := by unfold nx; rw [if_pos h]
      omega
    · have h1 := nxt_ge (Q s) n t; have h2 := nxt_le (Q s) ht
      have e2 : nx m n Q s t = nxt (Q s) n t := by unfold nx; rw [if_pos h]
      have := nx_le (m := m) (n := n) (Q := Q) (s := s + 1) ht
      omega
  · unfold nx; rw [if_neg (by omega), if_neg (by omega)]; omega
variable (hD : ∀ s t, s ≤ t → t ≤ n → D s ≤ D t) (hs : ∀ s, s < m → 0 ≤ setup s) (hh : ∀ s, s < m → 0 ≤ hold s)
include hD hs hh
theorem per_nonneg {s t : Nat} (h : s < m) (ht : t < n) : 0 ≤ per m n D setup hold Q s t := by
  unfold per
  have h1 := nx_mono_s (m := m) (n := n) (Q := Q) (s := s) hsub (t := t + 1) (by omega)
  have h2 := hD _ _ h1 (nx_le (by omega))
  have h3 := Int.mul_nonneg (hh s h) (show 0 ≤ D (nx m n Q s (t + 1)) - D (nx m n Q (s + 1) (t + 1)) by omega)
  have := hs s h
  split <;> omega
theorem Rk_nonneg (k : Nat) : ∀ s u b, s + k ≤ m → u ≤ b → b ≤ n → 0 ≤ Rk m n D setup hold Q k s u b := by
  induction k with
  | zero => intro s u b _ _ _; simp [Rk]
  | succ k ih =>
    intro s u b h1 h2 h3; simp only [Rk]
    have := ih (s + 1) u b (by omega) h2 h3
    have := rng_nonneg (f := per m n D setup hold Q s) (u := u) (b := b) (fun t _ ht => per_nonneg hsub hD hs hh (by omega) (by omega)) h2
    omega
theorem mimic : ∀ f k s t b, s + k + 1 = m → t ≤ b → b ≤ n → (b = n ∨ Q s b = true) → (b - t) + (m - s) ≤ f →
    give m D setup hold f s t (nx m n Q (s + 1) t) b ≤ hold s * rng (fun τ => D b - D (nx m n Q (s + 1) (τ + 1))) t b + Rk m n D setup hold Q k (s + 1) (nx m n Q (s + 1) t) b
  | 0, k, s, t, b, h1, _, _, _, h5 => by omega
  | f + 1, k, s, t, b, h1, h2, h3, h4, h5 => by
    have hsm : s < m := by omega
    have h4' : b = n ∨ (s < m ∧ Q s b = true) := h4.imp_right fun h => ⟨hsm, h⟩
    have ha0 := nx_ge (m := m) (n := n) (Q := Q) (s + 1) t
    have ha1 := nx_le_b (m := m) (n := n) (Q := Q) (s := s) (s' := s + 1) hsub (by omega) h4' h2 h3
    have hT0 : 0 ≤ hold s * rng (fun τ => D b - D (nx m n Q (s + 1) (τ + 1))) t b :=
      Int.mul_nonneg (hh s hsm) (rng_nonneg (fun τ _ hτ => by
        have := nx_le_b (m := m) (n := n) (Q := Q) (s := s) (s' := s + 1) (t := τ + 1) hsub (by omega) h4' (by omega) h3
        have := hD _ _ this h3; omega) h2)
    have hR0 := Rk_nonneg hsub hD hs hh k (s + 1) (nx m n Q (s + 1) t) b (by omega) ha1 h3
    by_cases hz : D b - D (nx m n Q (s + 1) t) = 0
    · unfold give; rw [if_pos hz]; omega
    have hpos : D b - D (nx m n Q (s + 1) t) > 0 := by have := hD _ _ ha1 h3; omega
    have htb : t < b := by
      rcases Nat.lt_or_ge t b with h | h
      · exact h
      · have : nx m n Q (s + 1) t = b := by omega
        rw [this] at hz; omega
    have hg := fun split c => give_le (split := split) (c := c) hD hs hh f s t (nx m n Q (s + 1) t) b hsm ha0 ha1 h3 h5 hpos
    rw [rng_first _ htb, Int.mul_add]
    have ih := mimic f k s (t + 1) b h1 (by omega) h3 h4 (by omega)
    by_cases hat : nx m n Q (s + 1) t = t
    ·
      rw [hat] at hg ⊢
      rcases Nat.eq_or_lt_of_le (show s + 1 ≤ m by omega) with hm | hm
      ·
        have hk : k = 0 := by omega
        subst hk
        have e : ∀ τ, nx m n Q (s + 1) τ = τ := fun τ => by unfold nx; rw [if_neg (by omega)]
        simp only [e, Rk] at ih ⊢
        by_cases hl : D b - D (t + 1) > 0
        · have hg1 := hg (t + 1) (0 + hold s * (D b - D (t + 1)) + give m D setup hold f s (t + 1) (t + 1) b) ⟨by omega, by omega⟩ (by unfold gcand; rw [if_neg (by omega), if_neg (by omega), if_pos hl, if_neg (by omega)])
          omega
        · have hg1 := hg (t + 1) 0 ⟨by omega, by omega⟩ (by unfold gcand; rw [if_neg (by omega), if_neg (by omega), if_neg hl])
          have h7 := hD (t + 1) b (by omega) h3
          have h8 := Int.mul_nonneg (hh s hsm) (show 0 ≤ D b - D (t + 1) by omega)
          have h9 : 0 ≤ hold s * rng (fun τ => D b - D (τ + 1)) (t + 1) b := Int.mul_nonneg (hh s hsm) (rng_nonneg (fun τ _ hτ => by have := hD (τ + 1) b (by omega) h3; omega) (by omega))
          omega
      ·
        obtain ⟨k, rfl⟩ : ∃ k', k = k' + 1 := ⟨k - 1, by omega⟩
        have hq : Q (s + 1) t = true := by
          unfold nx at hat; rw [if_pos hm] at hat
          have := nxt_in (Q (s + 1)) (n := n) (t := t) (by omega)
          rwa [hat] at this
        have e2 : nx m n Q (s + 1 + 1) t = t := by
          unfold nx; split
          · rename_i h; exact nxt_self _ (hsub (s + 1) t h hq)
          · rfl
        have hb0 := nx_ge (m := m) (n := n) (Q := Q) (s + 1) (t + 1)
        have hb1 := nx_le_b (m := m) (n := n) (Q := Q) (s := s) (s' := s + 1) (t := t + 1) hsub (by omega) h4' (by omega) h3
        generalize hA : nx m n Q (s + 1) (t + 1) = a' at *
        have hA' : a' = nxt (Q (s + 1)) n (t + 1) := by rw [← hA]; unfold nx; rw [if_pos hm]
        have hin : a' = n ∨ Q (s + 1) a' = true := by
          by_cases e : a' < n
          · rw [hA'] at e; have := nxt_in _ e; rw [← hA'] at this; exact .inr this
          · exact .inl (by omega)
        have ih1 := mimic f k (s + 1) t a' (by omega) (by omega) (by omega) hin (by omega)
        rw [e2] at ih1
        have hsame : ∀ τ, t ≤ τ → τ < a' → nx m n Q (s + 1) (τ + 1) = a' := by
          intro τ h6 h7
          unfold nx; rw [if_pos hm]
          have h8 : nxt (Q (s + 1)) n (t + 1) ≤ nxt (Q (s + 1)) n (τ + 1) := nxt_mono _ (by omega) (by omega)
          have h9 : nxt (Q (s + 1)) n (τ + 1) ≤ a' := by
            rcases hin with h | h
            · rw [h]; exact nxt_le _ (by omega)
            · exact nxt_min _ (by omega) h
          omega
        have hP : setup (s + 1) + hold (s + 1) * rng (fun τ => D a' - D (nx m n Q (s + 1 + 1) (τ + 1))) t a' ≤ rng (per m n D setup hold Q (s + 1)) t a' := by
          have h6 : rng (per m n D setup hold Q (s + 1)) t a' = rng (fun τ => (if Q (s + 1) τ then setup (s + 1) else 0) + hold (s + 1) * (D (nx m n Q (s + 1) (τ + 1)) - D (nx m n Q (s + 1 + 1) (τ + 1)))) t a' := rfl
          rw [h6, rng_addf, ← rng_mul]
          have h7 : rng (fun τ => hold (s + 1) * (D a' - D (nx m n Q (s + 1 + 1) (τ + 1)))) t a' ≤ rng (fun τ => hold (s + 1) * (D (nx m n Q (s + 1) (τ + 1)) - D (nx m n Q (s + 1 + 1) (τ + 1)))) t a' :=
            rng_le (fun τ h8 h9 => by rw [hsame τ h8 h9]; exact Int.le_refl _) (by omega)
          have h8 : setup (s + 1) ≤ rng (fun τ => if Q (s + 1) τ then setup (s + 1) else 0) t a' := by
            rw [rng_first _ (by omega)]
            have h9 := rng_nonneg (f := fun τ => if Q (s + 1) τ then setup (s + 1) else 0) (u := t + 1) (b := a') (fun τ _ _ => by have := hs (s + 1) hm; split <;> omega) (by omega)
            simp only [hq, if_true]; omega
          omega
        have hR := Rk_add (m := m) (n := n) (D := D) (setup := setup) (hold := hold) (Q := Q) (k + 1) (s + 1) t a' b
        have hR1 : Rk m n D setup hold Q (k + 1) (s + 1) t a' = rng (per m n D setup hold Q (s + 1)) t a' + Rk m n D setup hold Q k (s + 1 + 1) t a' := rfl
        have hc1 : (if D a' - D t > 0 then setup (s + 1) + give m D setup hold f (s + 1) t t a' else 0) ≤ Rk m n D setup hold Q (k + 1) (s + 1) t a' := by
          split
          · omega
          · exact Rk_nonneg hsub hD hs hh (k + 1) (s + 1) t a' (by omega) (by omega) (by omega)
        by_cases hl : D b - D a' > 0
        · have hg1 := hg a' ((if D a' - D t > 0 then setup (s + 1) + give m D setup hold f (s + 1) t t a' else 0) + hold s * (D b - D a') + give m D setup hold f s (t + 1) a' b) ⟨by omega, by omega⟩
            (by unfold gcand; rw [if_pos hm]; dsimp only; rw [if_pos hl, if_neg (by omega)])
          omega
        · have hg1 := hg a' (if D a' - D t > 0 then setup (s + 1) + give m D setup hold f (s + 1) t t a' else 0) ⟨by omega, by omega⟩
            (by unfold gcand; rw [if_pos hm]; dsimp only; rw [if_neg hl])
          have h7 := hD a' b (by omega) h3
          have h8 := Int.mul_nonneg (hh s hsm) (show 0 ≤ D b - D a' by omega)
          have h9 : 0 ≤ hold s * rng (fun τ => D b - D (nx m n Q (s + 1) (τ + 1))) (t + 1) b := Int.mul_nonneg (hh s hsm) (rng_nonneg (fun τ _ hτ => by
            have := nx_le_b (m := m) (n := n) (Q := Q) (s := s) (s' := s + 1) (t := τ + 1) hsub (by omega) h4' (by omega) h3
            have := hD _ _ this h3; omega) (by omega))
          have h10 := Rk_nonneg hsub hD hs hh (k + 1) (s + 1) a' b (by omega) (by omega) h3
          omega
    ·
      have hm : s + 1 < m := by
        rcases Nat.lt_or_ge (s + 1) m with h | h
        · exact h
        · exact absurd (by unfold nx; rw [if_neg (by omega)]) hat
      have e1 : nx m n Q (s + 1) (t + 1) = nx m n Q (s + 1) t := by
        unfold nx at hat ⊢; rw [if_pos hm] at hat ⊢; rw [if_pos hm]
        have hq : Q (s + 1) t = false := by
          rcases Bool.eq_false_or_eq_true (Q (s + 1) t) with h | h
          · exact absurd (nxt_self _ h) hat
          · exact h
        exact (nxt_step _ hq (by omega)).symm
      rw [e1] at ih ⊢
      have hg1 := hg (nx m n Q (s + 1) t) (0 + hold s * (D b - D (nx m n Q (s + 1) t)) + give m D setup hold f s (t + 1) (nx m n Q (s + 1) t) b) ⟨Nat.le_refl _, ha1⟩
        (by unfold gcand; rw [if_pos hm]; dsimp only; rw [if_neg (show ¬ D (nx m n Q (s + 1) t) - D (nx m n Q (s + 1) t) > 0 by omega), if_pos hpos, if_neg (by omega)])
      omega
termination_by f => f
end
end ChainMath
namespace ChainMath
def tail7 (m n : Nat) (D setup hold : Nat → Int) (F : Nat) : Nat → List Int
  | 0 => [0]
  | d + 1 => let r := tail7 m n D setup hold F d; let a := n - (d + 1)
    (if D (a + 1) - D a = 0 then r.headD 0 else least (fun b => some (setup 0 + give m D setup hold F 0 a a b + r.getD (b - (a + 1)) 0)) (List.range' (a + 1) (n - a)) (-1)) :: r
def out7 (m n : Nat) (D setup hold : Nat → Int) (F a : Nat) : Int := (tail7 m n D setup hold F (n - a)).headD 0
section
variable {m n : Nat} {D setup hold : Nat → Int} {F : Nat}
theorem tail7_get : ∀ d j, j ≤ d → (tail7 m n D setup hold F d).getD j 0 = (tail7 m n D setup hold F (d - j)).headD 0
  | d, 0, _ => by cases tail7 m n D setup hold F d <;> simp
  | d + 1, j + 1, hj => by
    have := tail7_get d j (by omega)
    simp only [tail7, List.getD_cons_succ]
    rw [this]; congr 2; omega
  | 0, j + 1, hj => by omega
theorem out7_n : out7 m n D setup hold F n = 0 := by unfold out7; simp [tail7]
theorem out7_step {a : Nat} (h : a < n) : out7 m n D setup hold F a = if D (a + 1) - D a = 0 then out7 m n D setup hold F (a + 1)
    else least (fun b => some (setup 0 + give m D setup hold F 0 a a b + out7 m n D setup hold F b)) (List.range' (a + 1) (n - a)) (-1) := by
  unfold out7
  obtain ⟨d, hd⟩ : ∃ d, n - a = d + 1 := ⟨n - a - 1, by omega⟩
  rw [hd]; simp only [tail7, List.headD_cons]
  rw [show n - (d + 1) = a by omega, show n - (a + 1) = d by omega]
  split
  · rfl
  · have : ∀ (l : List Nat) (best : Int), (∀ b ∈ l, a + 1 ≤ b ∧ b ≤ n) → least (fun b => some (setup 0 + give m D setup hold F 0 a a b + (tail7 m n D setup hold F d).getD (b - (a + 1)) 0)) l best
        = least (fun b => some (setup 0 + give m D setup hold F 0 a a b + (tail7 m n D setup hold F (n - b)).headD 0)) l best := by
      intro l
      induction l with
      | nil => intro best _; rfl
      | cons b l ih =>
        intro best hl
        have hb := hl b (by simp)
        simp only [least]
        rw [tail7_get d (b - (a + 1)) (by omega), show d - (b - (a + 1)) = n - b by omega]
        exact ih _ (fun b' h' => hl b' (by simp [h']))
    exact (this (List.range' (a + 1) (n - a)) (-1) (fun b hb => by rw [List.mem_range'_1] at hb; omega)).trans (by rw [hd])
theorem out7_skip (hD : ∀ s t, s ≤ t → t ≤ n → D s ≤ D t) {f : Nat} (hz : D f = D 0) (hf : f ≤ n) : ∀ d a, a + d = f → out7 m n D setup hold F a = out7 m n D setup hold F f
  | 0, a, h => by rw [show a = f by omega]
  | d + 1, a, h => by
    have h1 := hD 0 a (by omega) (by omega); have h2 := hD a (a + 1) (by omega) (by omega); have h3 := hD (a + 1) f (by omega) hf
    rw [out7_step (by omega), if_pos (by omega)]
    exact out7_skip hD hz hf d (a + 1) (by omega)
variable (hD : ∀ s t, s ≤ t → t ≤ n → D s ≤ D t) (hs : ∀ s, s < m → 0 ≤ setup s) (hh : ∀ s, s < m → 0 ≤ hold s) (hm : 0 < m) (hF : n + m ≤ F)
include hD hs hh hm hF
theorem out7_nonneg : ∀ d a, a + d = n → 0 ≤ out7 m n D setup hold F a := by
  intro d
  induction d using Nat.strongRecOn with
  | _ d ih =>
    intro a h
    rcases Nat.lt_or_ge a n with hn | hn
    · rw [out7_step hn]
      split
      · exact ih (n - (a + 1)) (by omega) (a + 1) (by omega)
      · have hc : ∀ b c, b ∈ List.range' (a + 1) (n - a) → (fun b => some (setup 0 + give m D setup hold F 0 a a b + out7 m n D setup hold F b)) b = some c → 0 ≤ c := by
          intro b c hb hc
          rw [List.mem_range'_1] at hb
          have h1 : 0 ≤ give m D setup hold F 0 a a b := give_nonneg (n := n) hD hs hh F 0 a a b hm (Nat.le_refl _) (by omega) (by omega) (by omega)
          have h2 := ih (n - b) (by omega) b (by omega)
          have h3 := hs 0 hm
          simp only [Option.some.injEq] at hc; omega
        exact ((least_spec _ _ (-1) hc (by omega)).2.2.1 (a + 1) _ (by rw [List.mem_range'_1]; omega) rfl).1
    · rw [show a = n by omega, out7_n]; omega
theorem out7_spec {a : Nat} (h : a < n) (hne : ¬ D (a + 1) - D a = 0) :
    (∀ b, a < b → b ≤ n → out7 m n D setup hold F a ≤ setup 0 + give m D setup hold F 0 a a b + out7 m n D setup hold F b) ∧
    ∃ b, a < b ∧ b ≤ n ∧ out7 m n D setup hold F a = setup 0 + give m D setup hold F 0 a a b + out7 m n D setup hold F b := by
  have hc : ∀ b c, b ∈ List.range' (a + 1) (n - a) → (fun b => some (setup 0 + give m D setup hold F 0 a a b + out7 m n D setup hold F b)) b = some c → 0 ≤ c := by
    intro b c hb hc
    rw [List.mem_range'_1] at hb
    have h1 : 0 ≤ give m D setup hold F 0 a a b := give_nonneg (n := n) hD hs hh F 0 a a b hm (Nat.le_refl _) (by omega) (by omega) (by omega)
    have h2 := out7_nonneg hD hs hh hm hF (n - b) b (by omega)
    have h3 := hs 0 hm
    simp only [Option.some.injEq] at hc; omega
  have h0 := out7_nonneg hD hs hh hm hF (n - a) a (by omega)
  obtain ⟨_, _, i2, i3⟩ := least_spec _ (List.range' (a + 1) (n - a)) (-1) hc (by omega)
  rw [out7_step h, if_neg hne] at h0 ⊢
  refine ⟨fun b h1 h2 => (i2 b _ (by rw [List.mem_range'_1]; omega) rfl).2, ?_⟩
  rcases i3 with e | ⟨b, h1, h2⟩
  · omega
  · rw [List.mem_range'_1] at h1
    simp only [Option.some.injEq] at h2
    exact ⟨b, by omega, by omega, h2.symm⟩
theorem out7_mimic {Q : Nat → Nat → Bool} (hQ : Nest m n D Q) :
    ∀ d a, a + d = n → (a = n ∨ Q 0 a = true) → out7 m n D setup hold F a ≤ Rk m n D setup hold Q m 0 a n := by
  intro d
  induction d using Nat.strongRecOn with
  | _ d ih =>
    intro a h hq
    rcases Nat.lt_or_ge a n with hn | hn
    · have hqa : Q 0 a = true := by rcases hq with e | e; omega; exact e
      have hne : ¬ D (a + 1) - D a = 0 := by have := hQ.pos 0 a hm hqa; unfold chg at this; simp at this; omega
      have h1 := nxt_ge (Q 0) n (a + 1); have h2 := nxt_le (Q 0) (n := n) (t := a + 1) (by omega)
      have hb : nxt (Q 0) n (a + 1) = n ∨ Q 0 (nxt (Q 0) n (a + 1)) = true := by
        by_cases e : nxt (Q 0) n (a + 1) < n
        · exact .inr (nxt_in _ e)
        · exact .inl (by omega)
      have h3 := (out7_spec hD hs hh hm hF hn hne).1 (nxt (Q 0) n (a + 1)) (by omega) h2
      have h4 := ih (n - nxt (Q 0) n (a + 1)) (by omega) (nxt (Q 0) n (a + 1)) (by omega) hb
      generalize hB : nxt (Q 0) n (a + 1) = b at *
      have hna : nx m n Q (0 + 1) a = a := by
        unfold nx; split
        · rename_i h5; exact nxt_self _ (hQ.sub 0 a h5 hqa)
        · rfl
      obtain ⟨k, rfl⟩ : ∃ k, m = k + 1 := ⟨m - 1, by omega⟩
      have h5 := mimic hQ.sub hD hs hh F k 0 a b (by omega) (by omega) h2 hb (by omega)
      rw [hna] at h5
      have h6 := Rk_add (m := k + 1) (n := n) (D := D) (setup := setup) (hold := hold) (Q := Q) (k + 1) 0 a b n
      have h7 : Rk (k + 1) n D setup hold Q (k + 1) 0 a b = rng (per (k + 1) n D setup hold Q 0) a b + Rk (k + 1) n D setup hold Q k (0 + 1) a b := rfl
      have h8 : setup 0 + hold 0 * rng (fun τ => D b - D (nx (k + 1) n Q (0 + 1) (τ + 1))) a b ≤ rng (per (k + 1) n D setup hold Q 0) a b := by
        have h9 : rng (per (k + 1) n D setup hold Q 0) a b = rng (fun τ => (if Q 0 τ then setup 0 else 0) + hold 0 * (D (nx (k + 1) n Q 0 (τ + 1)) - D (nx (k + 1) n Q (0 + 1) (τ + 1)))) a b := rfl
        rw [h9, rng_addf, ← rng_mul]
        have h10 : rng (fun τ => hold 0 * (D b - D (nx (k + 1) n Q (0 + 1) (τ + 1)))) a b ≤ rng (fun τ => hold 0 * (D (nx (k + 1) n Q 0 (τ + 1)) - D (nx (k + 1) n Q (0 + 1) (τ + 1)))) a b :=
          rng_le (fun τ h11 h12 => by
            have : nx (k + 1) n Q 0 (τ + 1) = b := by
              unfold nx; rw [if_pos hm]
              have h13 : nxt (Q 0) n (a + 1) ≤ nxt (Q 0) n (τ + 1) := nxt_mono _ (by omega) (by omega)
              have h14 : nxt (Q 0) n (τ + 1) ≤ b := by
                rcases hb with e | e
                · rw [e]; exact nxt_le _ (by omega)
                · exact nxt_min _ (by omega) e
              omega
            rw [this]; exact Int.le_refl _) (by omega)
        have h11 : setup 0 ≤ rng (fun τ => if Q 0 τ then setup 0 else 0) a b := by
          rw [rng_first _ (by omega)]
          have h12 := rng_nonneg (f := fun τ => if Q 0 τ then setup 0 else 0) (u := a + 1) (b := b) (fun τ _ _ => by have := hs 0 hm; split <;> omega) (by omega)
          simp only [hqa, if_true]; omega
        omega
      omega
    · have : a = n := by omega
      subst this
      rw [out7_n]
      exact Rk_nonneg hQ.sub hD hs hh m 0 a a (by omega) (by omega) (by omega)
end
theorem Rk_sum {m n : Nat} {D setup hold : Nat → Int} {Q : Nat → Nat → Bool} : ∀ k s, Rk m n D setup hold Q k s 0 n = sumN (fun i => sumN (per m n D setup hold Q (s + i)) n) k
  | 0, s => rfl
  | k + 1, s => by
    rw [sumN_front]; simp only [Rk]; rw [Rk_sum k (s + 1)]
    congr 1
    · unfold rng; simp [sumN]
    · exact sumN_congr _ fun i _ => by rw [show s + 1 + i = s + (i + 1) by omega]
theorem sum_setup (su : Int) (O : Nat → Bool) : ∀ n, sumN (fun t => if O t then su else 0) n = su * (cnt O n : Int)
  | 0 => by simp [sumN, cnt]
  | n + 1 => by
    simp only [sumN, sum_setup su O n, cnt]
    cases O n <;> simp [Int.mul_add]
theorem holds_eq (m n : Nat) (hold : Nat → Int) (X : Nat → Nat → Int) : sumN (fun s => hold s * sumN (fun t => X s (t + 1) - X (s + 1) (t + 1)) n) m = sumN (fun s => ech hold s * sumN (fun t => X s (t + 1) - X m (t + 1)) n) m := by
  have h := hcost_ecost m n (fun _ => 0) hold X
  unfold hcost ecost at h
  simpa using h
theorem Rk_ncost {m n : Nat} {D setup hold : Nat → Int} {Q : Nat → Nat → Bool} : Rk m n D setup hold Q m 0 0 n = ncost m n D setup hold Q := by
  rw [Rk_sum]; unfold ncost
  have h1 : ∀ s, sumN (per m n D setup hold Q s) n = setup s * (cnt (Q s) n : Int) + hold s * sumN (fun t => D (nx m n Q s (t + 1)) - D (nx m n Q (s + 1) (t + 1))) n := by
    intro s
    rw [← sum_setup, ← sumN_mul, ← sumN_add]; rfl
  rw [sumN_congr (g := fun s => setup s * (cnt (Q s) n : Int) + hold s * sumN (fun t => D (nx m n Q s (t + 1)) - D (nx m n Q (s + 1) (t + 1))) n) m (fun s _ => by rw [Nat.zero_add]; exact h1 s)]
  rw [sumN_add, sumN_add]
  congr 1
  rw [holds_eq m n hold (fun s t => D (nx m n Q s t))]
  refine sumN_congr _ fun s hs => ?_
  congr 1
  refine sumN_congr _ fun t _ => ?_
  unfold nx; rw [if_pos hs, if_neg (by omega)]
theorem out7_le {m n : Nat} {D setup hold : Nat → Int} {F : Nat} {Q : Nat → Nat → Bool} (hD : ∀ s t, s ≤ t → t ≤ n → D s ≤ D t) (hD0 : D 0 = 0) (hs : ∀ s, s < m → 0 ≤ setup s) (hh : ∀ s, s < m → 0 ≤ hold s) (hm : 0 < m) (hF : n + m ≤ F)
    (hQ : Nest m n D Q) : out7 m n D setup hold F 0 ≤ ncost m n D setup hold Q := by
  have h1 := nxt_le (Q 0) (n := n) (t := 0) (by omega)
  have hb : nxt (Q 0) n 0 = n ∨ Q 0 (nxt (Q 0) n 0) = true := by
    by_cases e : nxt (Q 0) n 0 < n
    · exact .inr (nxt_in _ e)
    · exact .inl (by omega)
  have hz := hQ.start 0 hm
  rw [out7_skip hD (by rw [hz, hD0]) h1 (nxt (Q 0) n 0) 0 (by omega), ← Rk_ncost]
  have h2 := out7_mimic hD hs hh hm hF hQ (n - nxt (Q 0) n 0) _ (by omega) hb
  have h3 := Rk_add (m := m) (n := n) (D := D) (setup := setup) (hold := hold) (Q := Q) m 0 0 (nxt (Q 0) n 0) n
  have h4 := Rk_nonneg hQ.sub hD hs hh m 0 0 (nxt (Q 0) n 0) (by omega) (by omega) h1
  omega
end ChainMath
namespace ChainMath
def stepf (t : Nat) (S : Int) (τ : Nat) : Int := if τ ≤ t then 0 else S
def consume (D : Nat → Int) (a b τ : Nat) : Int := D (min (max τ a) b) - D a
theorem sum_single (x : Int) (t : Nat) : ∀ n, sumN (fun τ => if τ = t then x else 0) n = if t < n then x else 0
  | 0 => by simp [sumN]
  | n + 1 => by
    simp only [sumN, sum_single x t n]
    by_cases h : n = t
    · subst h; simp
    · by_cases h2 : t < n
      · rw [if_pos h2, if_neg h, if_pos (by omega)]; omega
      · rw [if_neg h2, if_neg h, if_neg (by omega)]; omega
theorem cnt_zero : ∀ n, cnt (chg fun _ => (0 : Int)) n = 0
  | 0 => rfl
  | n + 1 => by simp [cnt, cnt_zero n, chg]
theorem cnt_le {O P : Nat → Bool} : ∀ n, (∀ t, t < n → O t = true → P t = true) → cnt O n ≤ cnt P n
  | 0, _ => Nat.le_refl _
  | n + 1, h => by
    have ih := cnt_le n (fun t ht => h t (by omega))
    have h2 := h n (by omega)
    simp only [cnt]
    rcases Bool.eq_false_or_eq_true (O n) with e | e <;> rcases Bool.eq_false_or_eq_true (P n) with e' | e' <;> simp only [e, e'] at h2 ⊢ <;> simp at h2 ⊢ <;> omega
theorem cnt_congr {O P : Nat → Bool} : ∀ n, (∀ t, t < n → O t = P t) → cnt O n = cnt P n
  | 0, _ => rfl
  | n + 1, h => by simp only [cnt]; rw [cnt_congr n (fun t ht => h t (by omega)), h n (by omega)]
theorem cnt_step (t : Nat) (S : Int) : ∀ n, cnt (chg (stepf t S)) n ≤ if t < n then 1 else 0
  | 0 => by simp [cnt]
  | n + 1 => by
    have ih := cnt_step t S n
    simp only [cnt]
    by_cases h : t < n
    · have e : chg (stepf t S) n = false := by unfold chg stepf; rw [if_neg (by omega), if_neg (by omega)]; simp
      rw [if_pos h] at ih; rw [e]; simp only [Bool.false_eq_true, if_false, Nat.add_zero]; rw [if_pos (by omega)]; exact ih
    · rw [if_neg h] at ih
      by_cases h2 : t = n
      · have e : (if t < n + 1 then 1 else 0) = 1 := if_pos (by omega)
        rw [e]; split <;> omega
      · have e : chg (stepf t S) n = false := by unfold chg stepf; rw [if_pos (by omega), if_pos (by omega)]; simp
        rw [e]; simp only [Bool.false_eq_true, if_false, Nat.add_zero]; rw [if_neg (by omega)]; exact ih
theorem cnt_add (X Y : Nat → Int) : ∀ n, cnt (chg fun τ => X τ + Y τ) n ≤ cnt (chg X) n + cnt (chg Y) n
  | 0 => by simp [cnt]
  | n + 1 => by
    have ih := cnt_add X Y n
    simp only [cnt]
    by_cases h1 : X (n + 1) = X n
    · by_cases h2 : Y (n + 1) = Y n
      · have e : chg (fun τ => X τ + Y τ) n = false := by unfold chg; simp; omega
        rw [e]; simp; omega
      · have e : chg Y n = true := by unfold chg; simpa using h2
        rw [e]; simp only [if_true]; split <;> split <;> omega
    · have e : chg X n = true := by unfold chg; simpa using h1
      rw [e]; simp only [if_true]; split <;> split <;> omega
section
variable (n : Nat) (setup hold : Nat → Int)
def hw (Y : Nat → Nat → Int) (s : Nat) : Int := hold s * sumN (fun τ => Y s (τ + 1) - Y (s + 1) (τ + 1)) n
def full : Nat → Nat → (Nat → Nat → Int) → Int
  | 0, _, _ => 0
  | k + 1, s, Y => setup s * (cnt (chg (Y s)) n : Int) + hw n hold Y s + full k (s + 1) Y
end
section
variable {m n : Nat} {D setup hold : Nat → Int}
theorem full_sum (Y : Nat → Nat → Int) : ∀ k s, full n setup hold k s Y = sumN (fun i => setup (s + i) * (cnt (chg (Y (s + i))) n : Int) + hw n hold Y (s + i)) k
  | 0, s => rfl
  | k + 1, s => by
    rw [sumN_front]; simp only [full]; rw [full_sum Y k (s + 1)]
    congr 1
    exact sumN_congr _ fun i _ => by rw [show s + 1 + i = s + (i + 1) by omega]
theorem full_hcost (Y : Nat → Nat → Int) : full n setup hold m 0 Y = hcost m n setup hold Y := by
  rw [full_sum]; unfold hcost hw; exact sumN_congr _ fun i _ => by rw [Nat.zero_add]
theorem full_congr {Y Z : Nat → Nat → Int} : ∀ k s, (∀ s', s ≤ s' → s' ≤ s + k → Y s' = Z s') → full n setup hold k s Y = full n setup hold k s Z
  | 0, _, _ => rfl
  | k + 1, s, h => by
    simp only [full, hw]
    rw [h s (by omega) (by omega), h (s + 1) (by omega) (by omega), full_congr k (s + 1) (fun s' h1 h2 => h s' (by omega) (by omega))]
theorem hw_add (Y Z : Nat → Nat → Int) (s : Nat) : hw n hold (fun s τ => Y s τ + Z s τ) s = hw n hold Y s + hw n hold Z s := by
  unfold hw; rw [← Int.mul_add, ← sumN_add]; congr 1; exact sumN_congr _ fun τ _ => by dsimp only; omega
theorem full_add (hs : ∀ s, s < m → 0 ≤ setup s) (Y Z : Nat → Nat → Int) : ∀ k s, s + k ≤ m → full n setup hold k s (fun s τ => Y s τ + Z s τ) ≤ full n setup hold k s Y + full n setup hold k s Z
  | 0, s, _ => by simp [full]
  | k + 1, s, h => by
    have ih := full_add hs Y Z k (s + 1) (by omega)
    simp only [full]
    rw [hw_add]
    have h1 := Int.mul_le_mul_of_nonneg_left (Int.ofNat_le.2 (cnt_add (Y s) (Z s) n)) (hs s (by omega))
    rw [Int.natCast_add, Int.mul_add] at h1
    omega
theorem full_zero : ∀ k s, full n setup hold k s (fun _ _ => 0) = 0
  | 0, _ => rfl
  | k + 1, s => by
    simp only [full, full_zero k (s + 1), hw]
    have h1 : cnt (chg fun _ => (0 : Int)) n = 0 := cnt_zero n
    rw [h1]; simp [sumN_zero]
theorem hw_zero (s : Nat) : hw n hold (fun _ _ => 0) s = 0 := by unfold hw; simp [sumN_zero]
theorem consume_zero (hD : ∀ s t, s ≤ t → t ≤ n → D s ≤ D t) {a b τ : Nat} (hab : a ≤ b) (hb : b ≤ n) (h : ¬ D b - D a > 0) : consume D a b τ = 0 := by
  unfold consume
  have h1 := hD a (min (max τ a) b) (by omega) (by omega)
  have h2 := hD (min (max τ a) b) b (by omega) hb
  omega
structure Sub (m n : Nat) (D setup hold : Nat → Int) (s k t a b : Nat) (cost : Int) (Y : Nat → Nat → Int) : Prop where
  head : ∀ τ, τ ≤ n → Y s τ = stepf t (D b - D a) τ
  last : ∀ τ, τ ≤ n → Y m τ = consume D a b τ
  over : ∀ s' τ, s ≤ s' → s' < m → τ ≤ n → Y (s' + 1) τ ≤ Y s' τ
  zero : ∀ s', s ≤ s' → s' < m → Y s' 0 = 0
  ends : ∀ s', s ≤ s' → s' < m → Y s' n = D b - D a
  cost : hw n hold Y s + full n setup hold k (s + 1) Y ≤ cost
theorem Sub.none (hD : ∀ s t, s ≤ t → t ≤ n → D s ≤ D t) {s k t a b : Nat} (hab : a ≤ b) (hb : b ≤ n) (h : ¬ D b - D a > 0) : Sub m n D setup hold s k t a b 0 (fun _ _ => 0) := by
  have h1 := hD a b hab hb
  refine ⟨fun τ _ => ?_, fun τ _ => (consume_zero hD hab hb h).symm, fun _ _ _ _ _ => Int.le_refl _, fun _ _ _ => rfl, fun _ _ _ => by omega, by rw [hw_zero, full_zero]; omega⟩
  unfold stepf; split <;> omega
theorem subplan (hD : ∀ s t, s ≤ t → t ≤ n → D s ≤ D t) (hs : ∀ s, s < m → 0 ≤ setup s) (hh : ∀ s, s < m → 0 ≤ hold s) :
    ∀ f s k t a b, s + k + 1 = m → t ≤ a → a ≤ b → b ≤ n → (b - t) + (m - s) ≤ f → ∃ Y, Sub m n D setup hold s k t a b (give m D setup hold f s t a b) Y
  | 0, s, k, t, a, b, h1, _, _, _, h5 => by omega
  | f + 1, s, k, t, a, b, h1, h2, h3, h4, h5 => by
    have hsm : s < m := by omega
    by_cases hpos : D b - D a > 0
    case neg =>
      have := hD a b h3 h4
      refine ⟨_, (by unfold give; rw [if_pos (by omega)]; exact Sub.none hD h3 h4 hpos)⟩
    have htn : t < n := by
      rcases Nat.lt_or_ge t n with h | h
      · exact h
      · have : a = b := by omega
        subst this; omega
    obtain ⟨split, hs1, hs2, hc⟩ := give_is hD hs hh f s t a b hsm h2 h3 h4 h5 hpos
    have hl0 := hD split b hs2 h4
    have hl1 := hD a split hs1 (by omega)
    have hY2 : (D b - D split > 0 → ¬ t + 1 > split) → ∃ Y2, Sub m n D setup hold s k (t + 1) split b (if D b - D split > 0 then give m D setup hold f s (t + 1) split b else 0) Y2 := by
      intro hok
      split
      · rename_i hl; exact subplan hD hs hh f s k (t + 1) split b h1 (by have := hok hl; omega) hs2 h4 (by omega)
      · rename_i hl; exact ⟨_, Sub.none hD hs2 h4 hl⟩
    unfold gcand at hc
    split at hc
    ·
      rename_i hm
      obtain ⟨k, rfl⟩ : ∃ k', k = k' + 1 := ⟨k - 1, by omega⟩
      dsimp only at hc
      have hok : D b - D split > 0 → ¬ t + 1 > split := by
        intro hl h; rw [if_pos hl, if_pos h] at hc; simp at hc
      obtain ⟨Y2, b1, b2, b3, b4, b5, b6⟩ := hY2 hok
      have hY1 : ∃ Y1, (∀ τ, τ ≤ n → Y1 (s + 1) τ = stepf t (D split - D a) τ) ∧ (∀ τ, τ ≤ n → Y1 m τ = consume D a split τ) ∧ (∀ s' τ, s + 1 ≤ s' → s' < m → τ ≤ n → Y1 (s' + 1) τ ≤ Y1 s' τ) ∧ (∀ s', s + 1 ≤ s' → s' < m → Y1 s' 0 = 0) ∧
          (∀ s', s + 1 ≤ s' → s' < m → Y1 s' n = D split - D a) ∧ full n setup hold (k + 1) (s + 1) Y1 ≤ (if D split - D a > 0 then setup (s + 1) + give m D setup hold f (s + 1) t a split else 0) := by
        by_cases hg : D split - D a > 0
        · obtain ⟨Y1, a1, a2, a3, a4, a5, a6⟩ := subplan hD hs hh f (s + 1) k t a split (by omega) h2 hs1 (by omega) (by omega)
          refine ⟨Y1, a1, a2, a3, a4, a5, ?_⟩
          rw [if_pos hg]; simp only [full]
          have e : cnt (chg (Y1 (s + 1))) n = cnt (chg (stepf t (D split - D a))) n := cnt_congr n fun τ hτ => by unfold chg; rw [a1 τ (by omega), a1 (τ + 1) (by omega)]
          have h6 := cnt_step t (D split - D a) n
          rw [if_pos htn] at h6
          have h7 := Int.mul_le_mul_of_nonneg_left (Int.ofNat_le.2 h6) (hs (s + 1) hm)
          rw [e]; simp only [Int.natCast_one, Int.mul_one] at h7; omega
        · obtain ⟨a1, a2, a3, a4, a5, a6⟩ := Sub.none (m := m) (n := n) (D := D) (setup := setup) (hold := hold) (s := s + 1) (k := k) (t := t) hD hs1 (show split ≤ n by omega) hg
          exact ⟨_, a1, a2, a3, a4, a5, by rw [if_neg hg, full_zero]; omega⟩
      obtain ⟨Y1, a1, a2, a3, a4, a5, a6⟩ := hY1
      have hval : give m D setup hold (f + 1) s t a b = (if D split - D a > 0 then setup (s + 1) + give m D setup hold f (s + 1) t a split else 0) + hold s * (D b - D split) + (if D b - D split > 0 then give m D setup hold f s (t + 1) split b else 0) := by
        by_cases hl : D b - D split > 0
        · rw [if_pos hl, if_neg (hok hl)] at hc; rw [if_pos hl]
          simp only [Option.some.injEq] at hc; omega
        · rw [if_neg hl] at hc; rw [if_neg hl, show D b - D split = 0 by omega]
          simp only [Option.some.injEq] at hc; omega
      refine ⟨fun s' τ => if s' ≤ s then stepf t (D b - D a) τ else Y1 s' τ + Y2 s' τ, ⟨?_, ?_, ?_, ?_, ?_, ?_⟩⟩
      · intro τ _; rw [if_pos (Nat.le_refl _)]
      · intro τ hτ; rw [if_neg (by omega), a2 τ hτ, b2 τ hτ]
        unfold consume
        rcases Nat.lt_or_ge τ split with h | h
        · rw [show min (max τ a) split = min (max τ a) b by omega, show min (max τ split) b = split by omega]; omega
        · rw [show min (max τ a) split = split by omega, show min (max τ split) b = min (max τ a) b by omega]; omega
      · intro s' τ h6 h7 h8
        rw [if_neg (by omega)]
        rcases Nat.eq_or_lt_of_le h6 with h9 | h9
        · subst h9
          rw [if_pos (Nat.le_refl _)]
          have h10 := a1 τ h8; have h11 := b3 s τ (Nat.le_refl _) h7 h8; have h12 := b1 τ h8
          unfold stepf at h10 h12 ⊢
          split <;> rename_i h13
          · rw [if_pos h13] at h10; rw [if_pos (by omega)] at h12; omega
          · rw [if_neg h13] at h10
            by_cases h14 : τ ≤ t + 1
            · rw [if_pos h14] at h12; omega
            · rw [if_neg h14] at h12; omega
        · rw [if_neg (by omega)]
          have := a3 s' τ (by omega) h7 h8; have := b3 s' τ (by omega) h7 h8; omega
      · intro s' h6 h7
        split
        · unfold stepf; rw [if_pos (by omega)]
        · rw [a4 s' (by omega) h7, b4 s' (by omega) h7]; omega
      · intro s' h6 h7
        split
        · unfold stepf; rw [if_neg (by omega)]
        · rw [a5 s' (by omega) h7, b5 s' (by omega) h7]; omega
      · have e1 : full n setup hold (k + 1) (s + 1) (fun s' τ => if s' ≤ s then stepf t (D b - D a) τ else Y1 s' τ + Y2 s' τ) = full n setup hold (k + 1) (s + 1) (fun s' τ => Y1 s' τ + Y2 s' τ) :=
          full_congr _ _ fun s' h6 _ => by funext τ; rw [if_neg (by omega)]
        have e2 : hw n hold (fun s' τ => if s' ≤ s then stepf t (D b - D a) τ else Y1 s' τ + Y2 s' τ) s = hw n hold Y2 s + hold s * (D b - D split) := by
          unfold hw
          rw [← Int.mul_add]; congr 1
          have h6 := sum_single (D b - D split) t n
          rw [if_pos htn] at h6
          rw [← h6, ← sumN_add]
          refine sumN_congr _ fun τ hτ => ?_
          dsimp only
          rw [if_pos (Nat.le_refl _), if_neg (by omega)]
          have h7 := a1 (τ + 1) (by omega); have h8 := b1 (τ + 1) (by omega)
          unfold stepf at h7 h8 ⊢
          by_cases h9 : τ + 1 ≤ t
          · rw [if_pos h9] at h7 ⊢; rw [if_pos (by omega)] at h8; rw [if_neg (by omega)]; omega
          · rw [if_neg h9] at h7 ⊢
            by_cases h10 : τ = t
            · rw [if_pos (by omega)] at h8; rw [if_pos h10]; omega
            · rw [if_neg (by omega)] at h8; rw [if_neg h10]; omega
        rw [e1, e2, hval]
        have := full_add (n := n) (hold := hold) hs Y1 Y2 (k + 1) (s + 1) (by omega)
        omega
    ·
      rename_i hm
      have hk : k = 0 := by omega
      subst hk
      split at hc
      · simp at hc
      rename_i hval0
      have hok : D b - D split > 0 → ¬ t + 1 > split := by
        intro hl h; rw [if_pos hl, if_pos h] at hc; simp at hc
      obtain ⟨Y2, b1, b2, b3, b4, b5, b6⟩ := hY2 hok
      have hval : give m D setup hold (f + 1) s t a b = hold s * (D b - D split) + (if D b - D split > 0 then give m D setup hold f s (t + 1) split b else 0) := by
        by_cases hl : D b - D split > 0
        · rw [if_pos hl, if_neg (hok hl)] at hc; rw [if_pos hl]
          simp only [Option.some.injEq] at hc; omega
        · rw [if_neg hl] at hc; rw [if_neg hl, show D b - D split = 0 by omega]
          simp only [Option.some.injEq] at hc; omega
      have e0 : s + 1 = m := by omega
      have hor : split = a ∧ t < a ∨ split = a + 1 ∧ a = t := by omega
      refine ⟨fun s' τ => if s' ≤ s then stepf t (D b - D a) τ else consume D a b τ, ⟨?_, ?_, ?_, ?_, ?_, ?_⟩⟩
      · intro τ _; rw [if_pos (Nat.le_refl _)]
      · intro τ _; rw [if_neg (by omega)]
      · intro s' τ h6 h7 h8
        have : s' = s := by omega
        subst this
        rw [if_neg (by omega), if_pos (Nat.le_refl _)]
        unfold stepf consume
        split
        · rw [show min (max τ a) b = a by omega]; omega
        · have := hD (min (max τ a) b) b (by omega) h4; omega
      · intro s' h6 h7; rw [if_pos (by omega)]; unfold stepf; rw [if_pos (by omega)]
      · intro s' h6 h7; rw [if_pos (by omega)]; unfold stepf; rw [if_neg (by omega)]
      · simp only [full]
        have e2 : hw n hold (fun s' τ => if s' ≤ s then stepf t (D b - D a) τ else consume D a b τ) s = hw n hold Y2 s + hold s * (D b - D split) := by
          unfold hw
          rw [← Int.mul_add]; congr 1
          have h6 := sum_single (D b - D split) t n
          rw [if_pos htn] at h6
          rw [← h6, ← sumN_add]
          refine sumN_congr _ fun τ hτ => ?_
          dsimp only
          rw [if_pos (Nat.le_refl _), if_neg (by omega)]
          have h8 := b1 (τ + 1) (by omega); have h9 := b2 (τ + 1) (by omega)
          rw [e0, h8, h9]
          unfold stepf consume
          rcases hor with ⟨h10, h11⟩ | ⟨h10, h11⟩
          · subst h10
            by_cases h12 : τ + 1 ≤ t
            · rw [if_pos h12, if_pos (by omega), if_neg (by omega)]; omega
            · rw [if_neg h12]
              by_cases h13 : τ = t
              · rw [if_pos (by omega), if_pos h13]; omega
              · rw [if_neg (by omega), if_neg h13]; omega
          · subst h11
            rw [h10]
            by_cases h12 : τ + 1 ≤ a
            · rw [if_pos h12, if_pos (by omega), if_neg (by omega)]
              rw [show min (max (τ + 1) a) b = a by omega, show min (max (τ + 1) (a + 1)) b = a + 1 by omega]; omega
            · rw [if_neg h12]
              rw [show max (τ + 1) a = τ + 1 by omega, show max (τ + 1) (a + 1) = τ + 1 by omega]
              by_cases h13 : τ = a
              · subst h13
                rw [if_pos (by omega), if_pos rfl]; omega
              · rw [if_neg (by omega), if_neg h13]; omega
        rw [e2, hval]
        simp only [full] at b6
        omega
termination_by f => f
theorem out7_plan (hD : ∀ s t, s ≤ t → t ≤ n → D s ≤ D t) (hs : ∀ s, s < m → 0 ≤ setup s) (hh : ∀ s, s < m → 0 ≤ hold s) (hm : 0 < m) {F : Nat} (hF : n + m ≤ F) :
    ∀ d a, a + d = n → ∃ X : Nat → Nat → Int, (∀ τ, τ ≤ n → X m τ = consume D a n τ) ∧ (∀ s τ, s < m → τ ≤ n → X (s + 1) τ ≤ X s τ) ∧ (∀ s, s < m → X s 0 = 0) ∧ (∀ s, s < m → X s n = D n - D a) ∧
      hcost m n setup hold X ≤ out7 m n D setup hold F a := by
  intro d
  induction d using Nat.strongRecOn with
  | _ d ih =>
    intro a h
    rcases Nat.lt_or_ge a n with hn | hn
    · by_cases hz : D (a + 1) - D a = 0
      · obtain ⟨X, x1, x2, x3, x4, x5⟩ := ih (n - (a + 1)) (by omega) (a + 1) (by omega)
        refine ⟨X, fun τ hτ => ?_, x2, x3, fun s h6 => by rw [x4 s h6]; omega, by rw [out7_step hn, if_pos hz]; exact x5⟩
        rw [x1 τ hτ]; unfold consume
        rcases Nat.lt_or_ge τ (a + 1) with h6 | h6
        · rw [show min (max τ a) n = a by omega, show min (max τ (a + 1)) n = a + 1 by omega]; omega
        · rw [show max τ (a + 1) = τ by omega, show max τ a = τ by omega]; omega
      · obtain ⟨b, hb1, hb2, hb3⟩ := (out7_spec hD hs hh hm hF hn hz).2
        obtain ⟨X, x1, x2, x3, x4, x5⟩ := ih (n - b) (by omega) b (by omega)
        obtain ⟨k, rfl⟩ : ∃ k, m = k + 1 := ⟨m - 1, by omega⟩
        obtain ⟨Y, y1, y2, y3, y4, y5, y6⟩ := subplan hD hs hh F 0 k a a b (by omega) (Nat.le_refl _) (by omega) hb2 (by omega)
        refine ⟨fun s τ => Y s τ + X s τ, fun τ hτ => ?_, fun s τ h6 h7 => ?_, fun s h6 => ?_, fun s h6 => ?_, ?_⟩
        · dsimp only; rw [y2 τ hτ, x1 τ hτ]; unfold consume
          rcases Nat.lt_or_ge τ b with h | h
          · rw [show min (max τ a) b = min (max τ a) n by omega, show min (max τ b) n = b by omega]; omega
          · rw [show min (max τ a) b = b by omega, show min (max τ b) n = min (max τ a) n by omega]; omega
        · dsimp only; have := y3 s τ (by omega) h6 h7; have := x2 s τ h6 h7; omega
        · dsimp only; rw [y4 s (by omega) h6, x3 s h6]; omega
        · dsimp only; rw [y5 s (by omega) h6, x4 s h6]; omega
        · rw [hb3, ← full_hcost]
          have h6 := full_add (n := n) (hold := hold) hs Y X (k + 1) 0 (by omega)
          rw [full_hcost (m := k + 1) X] at h6
          have h7 : full n setup hold (k + 1) 0 Y = setup 0 * (cnt (chg (Y 0)) n : Int) + hw n hold Y 0 + full n setup hold k (0 + 1) Y := rfl
          have e : cnt (chg (Y 0)) n = cnt (chg (stepf a (D b - D a))) n := cnt_congr n fun τ hτ => by unfold chg; rw [y1 τ (by omega), y1 (τ + 1) (by omega)]
          have h8 := cnt_step a (D b - D a) n
          rw [if_pos hn] at h8
          have h9 := Int.mul_le_mul_of_nonneg_left (Int.ofNat_le.2 h8) (hs 0 hm)
          simp only [Int.natCast_one, Int.mul_one] at h9
          rw [e] at h7
          omega
    · have : a = n := by omega
      subst this
      refine ⟨fun _ _ => 0, fun τ hτ => ?_, fun _ _ _ _ => Int.le_refl _, fun _ _ => rfl, fun _ _ => by dsimp only; omega, ?_⟩
      · unfold consume; dsimp only; rw [show min (max τ a) a = a by omega]; omega
      · rw [out7_n, ← full_hcost, full_zero]; omega
theorem out7_feas (hD : ∀ s t, s ≤ t → t ≤ n → D s ≤ D t) (hD0 : D 0 = 0) (hs : ∀ s, s < m → 0 ≤ setup s) (hh : ∀ s, s < m → 0 ≤ hold s) (hm : 0 < m) {F : Nat} (hF : n + m ≤ F) :
    ∃ X, Feas m n D X ∧ hcost m n setup hold X ≤ out7 m n D setup hold F 0 := by
  obtain ⟨X, x1, x2, x3, x4, x5⟩ := out7_plan hD hs hh hm hF n 0 (by omega)
  refine ⟨X, ⟨x3, fun s h => by rw [x4 s h]; omega, fun t ht => ?_, fun s t h1 h2 => x2 s t h1 h2⟩, x5⟩
  rw [x1 t ht]; unfold consume; rw [show min (max t 0) n = t by omega]; omega
end
end ChainMath
namespace Go.Proofs.Ythlmmcmpllgflaa.P
open Go.RowKit Go.Proofs.YthlmmcmpllgflaaW.PrintWords Go.Proofs.YthlmmcmpllgflaaW.PrintLast Go.Proofs.YthlmmcmpllgflaaW.PrintMore
attribute [local go_sem] max2_int min2_int max_two min_two max_three min_three max_four min_four
set_option linter.unusedVariables false
set_option linter.unusedSimpArgs false
def impl_power.l0 : Nat → Int → Int → Int → Int → Option (Int)
 | 0, _, _, _, _ => none
 | k + 1, x0, x5, x6, x7 => if x7 < x6 then (impl_power.l0 k x0 (wrap64 (x5 * x0)) x6 (wrap64 (x7 + 1))) else (some x5)
def impl_power.f (k : Nat) (a0 : Int) (a1 : Int) : Option (Int) := impl_power.l0 k a0 1 a1 0
set_option maxHeartbeats 8000000 in
set_option maxRecDepth 100000 in
theorem impl_power.calls (k : Nat) (a0 : Int) (a1 : Int) (r : Int) (w : World) (h : impl_power.f k a0 a1 = some r) :
 Calls Try.prog 116 #[.int .i64 a0, .int .i64 a1] w fun e w' => e = .returned (.int .i64 r) ∧ Drawn0 w w' := by
 have H : (impl_power.l0 k a0 1 a1 0) = some r := h
 clear h
 have H' := Aside0.mk H
 clear H
 go_enter Try.func116, Try.ntmps116
 go_wp2
 go_loopg [5, 7] k (fun kq v5 v7 w' => ∃ (x5_1 : Int) (x7_1 : Int), v5 = .int .i64 x5_1 ∧ v7 = .int .i64 x7_1 ∧ Aside0 (impl_power.l0 kq a0 x5_1 a1 x7_1 = some r) ∧ Aside0 (kq ≤ k) ∧ Drawn0 w w')
 case atStart => exact ⟨(1), (0), (by first | rfl | (simp; done) | (simp [*]; done)), (by first | rfl | (simp; done) | (simp [*]; done)), H', ⟨Nat.le_refl _⟩, by repeat (first | exact Drawn0.refl _ | apply Drawn0.step)⟩
 case round =>
  clear H'
  try clear c1
  try clear p2
  obtain ⟨x5_1, x7_1, rfl, rfl, HA, HK1, ⟨m1, rfl⟩⟩ := hrel
  cases gk with
  | zero => exact absurd HA.out (by simp [impl_power.l0])
  | succ k1 =>
   have H := HA.out
   clear HA
   simp only [impl_power.l0] at H
   by_cases c3 : x7_1 < a1
   · rw [if_pos c3] at H
     have c3b0 : decide (x7_1 < a1) = true := decide_eq_true c3
     clear c3
     have H' := Aside0.mk H
     clear H
     go_wp2
     go_roundg k1
     case measure => have := HK1.out; omega
     case rel => exact ⟨(wrap64 (x5_1 * a0)), (wrap64 (x7_1 + 1)), (by first | rfl | (simp; done) | (simp [*]; done)), (by first | rfl | (simp; done) | (simp [*]; done)), H', ⟨by have := HK1.out; omega⟩, by repeat (first | exact Drawn0.refl _ | apply Drawn0.step)⟩
   · rw [if_neg c3] at H
     have c3b0 : decide (x7_1 < a1) = false := decide_eq_false c3
     clear c3
     obtain rfl := Option.some.inj H
     go_wp2
     go_ret
     exact ⟨by first | rfl | (simp; done) | (simp [*]; done), by repeat (first | exact Drawn0.refl _ | apply Drawn0.step)⟩
end Go.Proofs.Ythlmmcmpllgflaa.P
