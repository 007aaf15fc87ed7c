/- The law FnExactBestNested: for every chain the program and the reference find the same nested order periods, which leave the arguments as they are and share no memory; no condition. -/
import Derived.Test.YthlmmcmpllgflaaR4a
import Derived.Test.YthlmmcmpllgflaaProg
import Derived.Below
import Derived.Deep.Draws
import Derived.Deep.AppendLies
import Derived.Maps.AppendAt
import Derived.OwnWalk
import Derived.Laws.BytesArg
import Derived.Laws.MakeOwn
import Derived.Laws.OwnMore
import Derived.Deep.OwnRows
import Derived.Tactics
import Derived.Lib.ConvBytes
import Derived.Laws.Slices
import Derived.WalkKit
import Derived.KernelRfl
import Derived.RowKit3
import Derived.Deep.LoopGhost
import Derived.Deep.QuietTactic
import Derived.BigQuiet
import Derived.WideLaws
import Derived.Deep.DeepCutAuto
import Derived.Deep.CutBlock
import Derived.Deep.RegionHeld3
import Derived.Laws.Rows
import Derived.Lib.AppendStr
import Derived.ArgAppend
import Derived.Laws.IdiomCopy
import Derived.OrdersHeld
import Derived.Laws.BitsLemmas
import Derived.RowKit
section
set_option linter.unusedVariables false
namespace Go.Proofs.Ythlmmcmpllgflaa
open Go.RowKit Go.Proofs.YthlmmcmpllgflaaW.PrintWords Go.Proofs.YthlmmcmpllgflaaW.PrintLast Go.Proofs.YthlmmcmpllgflaaW.PrintMore
theorem zs0 {w W w2 : Go.World} (hb : Below W.heap.size W w2) (h : Below w.heap.size w W := by repeat (first | (with_reducible first | exact HB.out | apply below_alloc | apply pw_below_drewN | apply below_drew1) | exact HB.out)) : Aside0 (Below w.heap.size w w2) := ⟨below_step (h) hb⟩
theorem zc3 {w : Go.World} {g t : Nat} {a0 a1 a2 : Go.Value} (x : w.heap[g]? = some (Go.Obj.cells #[a0, a1, a2] t (0, 0))) : w.cell? ⟨g, 0, none⟩ = some a0 ∧ w.cell? ⟨g, 1, none⟩ = some a1 ∧ w.cell? ⟨g, 2, none⟩ = some a2 ∧ w.frozen? ⟨g, 0, none⟩ = false ∧ w.frozen? ⟨g, 1, none⟩ = false ∧ w.frozen? ⟨g, 2, none⟩ = false := ⟨(blk_cell x 0).trans rfl, (blk_cell x 1).trans rfl, (blk_cell x 2).trans rfl, blk_frozen x 0, blk_frozen x 1, blk_frozen x 2⟩
theorem zb {w W w1 : Go.World} {g : Nat} {o : Go.Obj} (x : Aside0 (w.heap[g]? = some o)) (hb : Below W.heap.size W w1) (h : w.heap[g]? = some o → W.heap[g]? = some o := by intro x_; (with_reducible repeat (first | refine blk_drewN ?_ _ | refine blk_drew ?_ | refine blk_alloc ?_ _)); exact x_) : Aside0 (w1.heap[g]? = some o) := ⟨blk_below (h x.out) hb⟩
theorem zs1 {w W w2 : Go.World} {a0 : Prop} (x0 : a0) (hb : Below W.heap.size W w2) (h : a0 → Below w.heap.size w W := by intro x0_; repeat (first | (with_reducible first | exact HB.out | apply below_alloc | apply pw_below_drewN | apply below_drew1 | refine below_set ?_ x0_) | exact HB.out)) : Aside0 (Below w.heap.size w w2) := ⟨below_step (h x0) hb⟩
theorem zs2 {w W w2 : Go.World} {a0 a1 : Prop} (x0 : a0) (x1 : a1) (hb : Below W.heap.size W w2) (h : a0 → a1 → Below w.heap.size w W := by intro x0_ x1_; repeat (first | (with_reducible first | exact HB.out | apply below_alloc | apply pw_below_drewN | apply below_drew1 | refine below_set ?_ x0_ | refine below_set ?_ x1_) | exact HB.out)) : Aside0 (Below w.heap.size w w2) := ⟨below_step (h x0 x1) hb⟩
theorem zs3 {w W w2 : Go.World} {a0 a1 a2 : Prop} (x0 : a0) (x1 : a1) (x2 : a2) (hb : Below W.heap.size W w2) (h : a0 → a1 → a2 → Below w.heap.size w W := by intro x0_ x1_ x2_; repeat (first | (with_reducible first | exact HB.out | apply below_alloc | apply pw_below_drewN | apply below_drew1 | refine below_set ?_ x0_ | refine below_set ?_ x1_ | refine below_set ?_ x2_) | exact HB.out)) : Aside0 (Below w.heap.size w w2) := ⟨below_step (h x0 x1 x2) hb⟩
theorem zRe {α : Type} {d : Kd α} {e base : Nat} {ok : Nat → Prop} {w W w1 : Go.World} {u v : Go.Value} {xs : List α} (x : Aside0 (d.R e w base ok v xs)) (hu : ∀ k : Nat, u.ownBlock = some k → W.heap.size ≤ k) (hb : Below W.heap.size W w1) (h : d.R e w base ok v xs → d.R e W base ok v xs := by intro x_; (with_reducible repeat (first | apply Kd.R_alloc | apply Kd.R_drewN | apply Kd.R_drew)); exact x_) : Aside0 (d.R e w1 base (fun k => ok k ∧ some k ≠ u.ownBlock) v xs) := ⟨Kd.R_elder' (h x.out) hu hb⟩
theorem zRb {α : Type} {d : Kd α} {e base : Nat} {ok : Nat → Prop} {w W w1 : Go.World} {v : Go.Value} {xs : List α} (x : Aside0 (d.R e w base ok v xs)) (hb : Below W.heap.size W w1) (h : d.R e w base ok v xs → d.R e W base ok v xs := by intro x_; (with_reducible repeat (first | apply Kd.R_alloc | apply Kd.R_drewN | apply Kd.R_drew)); exact x_) : Aside0 (d.R e w1 base ok v xs) := ⟨Kd.R_below (h x.out) hb⟩
theorem zc4 {w : Go.World} {g t : Nat} {a0 a1 a2 a3 : Go.Value} (x : w.heap[g]? = some (Go.Obj.cells #[a0, a1, a2, a3] t (0, 0))) : w.cell? ⟨g, 0, none⟩ = some a0 ∧ w.cell? ⟨g, 1, none⟩ = some a1 ∧ w.cell? ⟨g, 2, none⟩ = some a2 ∧ w.cell? ⟨g, 3, none⟩ = some a3 ∧ w.frozen? ⟨g, 0, none⟩ = false ∧ w.frozen? ⟨g, 1, none⟩ = false ∧ w.frozen? ⟨g, 2, none⟩ = false ∧ w.frozen? ⟨g, 3, none⟩ = false := ⟨(blk_cell x 0).trans rfl, (blk_cell x 1).trans rfl, (blk_cell x 2).trans rfl, (blk_cell x 3).trans rfl, blk_frozen x 0, blk_frozen x 1, blk_frozen x 2, blk_frozen x 3⟩
theorem zSe {α : Type} {d : Kd α} {e base : Nat} {ok : Nat → Prop} {w W w1 : Go.World} {u v : Go.Value} {xs : List α} (x : Aside0 (d.S e w base ok v xs)) (hu : ∀ k : Nat, u.ownBlock = some k → W.heap.size ≤ k) (hb : Below W.heap.size W w1) (h : d.S e w base ok v xs → d.S e W base ok v xs := by intro x_; (with_reducible repeat (first | apply Kd.S_alloc | apply Kd.S_drewN | apply Kd.S_drew)); exact x_) : Aside0 (d.S e w1 base (fun k => ok k ∧ some k ≠ u.ownBlock) v xs) := ⟨Kd.S_elder' (h x.out) hu hb⟩
theorem zSb {α : Type} {d : Kd α} {e base : Nat} {ok : Nat → Prop} {w W w1 : Go.World} {v : Go.Value} {xs : List α} (x : Aside0 (d.S e w base ok v xs)) (hb : Below W.heap.size W w1) (h : d.S e w base ok v xs → d.S e W base ok v xs := by intro x_; (with_reducible repeat (first | apply Kd.S_alloc | apply Kd.S_drewN | apply Kd.S_drew)); exact x_) : Aside0 (d.S e w1 base ok v xs) := ⟨Kd.S_below (h x.out) hb⟩
theorem zVe {α : Type} {d : Kd α} {e base : Nat} {ok : Nat → Prop} {w W w1 : Go.World} {u v : Go.Value} {xs : List α} (x : Aside0 (d.V e w base ok v xs)) (hu : ∀ k : Nat, u.ownBlock = some k → W.heap.size ≤ k) (hb : Below W.heap.size W w1) (h : d.V e w base ok v xs → d.V e W base ok v xs := by intro x_; (with_reducible repeat (first | apply Kd.V_alloc | apply Kd.V_drewN | apply Kd.V_drew)); exact x_) : Aside0 (d.V e w1 base (fun k => ok k ∧ some k ≠ u.ownBlock) v xs) := ⟨Kd.V_elder' (h x.out) hu hb⟩
theorem zVb {α : Type} {d : Kd α} {e base : Nat} {ok : Nat → Prop} {w W w1 : Go.World} {v : Go.Value} {xs : List α} (x : Aside0 (d.V e w base ok v xs)) (hb : Below W.heap.size W w1) (h : d.V e w base ok v xs → d.V e W base ok v xs := by intro x_; (with_reducible repeat (first | apply Kd.V_alloc | apply Kd.V_drewN | apply Kd.V_drew)); exact x_) : Aside0 (d.V e w1 base ok v xs) := ⟨Kd.V_below (h x.out) hb⟩
theorem zNb {α : Type} {d : Kd α} {e base : Nat} {ok : Nat → Prop} {w W w1 : Go.World} {v : Go.Value} {xs : List α} (x : Aside0 (d.N e w base ok v xs)) (hb : Below W.heap.size W w1) (h : d.N e w base ok v xs → d.N e W base ok v xs := by intro x_; (with_reducible repeat (first | apply Kd.N_alloc | apply Kd.N_drewN | apply Kd.N_drew)); exact x_) : Aside0 (d.N e w1 base ok v xs) := ⟨Kd.N_below (h x.out) hb⟩
theorem zP {P : Go.Program} {ops : Array Go.Oper} {Q : Go.Exit → Go.Act → Go.World → Prop} {md : Go.Region.Mode} {S : Go.World → Prop} {ds : List Nat} {fuel : Nat} {l : Array Bool} {a : Go.Act} {w : Go.World} {i : Nat} {N : Option Go.Tmp} {oi : Go.Oper} {v : Go.Value} (l' : Array Bool) {a' : Go.Act}
  (hc : Go.Proofs.YthlmmcmpllgflaaW.PrintLast.anyB md ops l l' i = Bool.true) (h : Go.Proofs.YthlmmcmpllgflaaW.PrintLast.wpAnyLast P md ops Q S ds fuel l' a' w) (hi : ops[i]? = Option.some oi := by exact rfl) (hN : oi.dst = N := by exact rfl) (hQ : ∀ (c : List Go.PanicEntry) (a : Go.Act) (w : Go.World), Q (Go.Exit.panic c) (a.put oi.dst v) w → Q (Go.Exit.panic c) a w := by exact fun _ _ _ h => h)
  (hy : Go.Yields P ops oi v a := by refine Or.inl ⟨by rfl, ?_⟩; intro w'; go_simp; with_reducible rfl) (ha : a.put N v = a' := by simp only [Act.put, List.setIfInBounds_toArray, List.set_cons_zero, List.set_cons_succ, i64_w, i32_w]; rfl) : Go.Proofs.YthlmmcmpllgflaaW.PrintLast.wpAnyLast P md ops Q S ds (fuel + 1) l a w := Go.Proofs.YthlmmcmpllgflaaW.PrintLast.pure_ l' hi hN hc hQ hy ha h
theorem zU {P : Go.Program} {ops : Array Go.Oper} {Q : Go.Exit → Go.Act → Go.World → Prop} {md : Go.Region.Mode} {S : Go.World → Prop} {ds : List Nat} {fuel : Nat} {l : Array Bool} {a : Go.Act} {w : Go.World} (N : Option Go.Tmp) {a' a0 : Go.Act} {v : Go.Value} (h : Go.Proofs.YthlmmcmpllgflaaW.PrintLast.wpAnyLast P md ops Q S ds fuel l a' w) (h0 : a = Go.Act.put a0 N v := by exact rfl) (ha : Go.Act.put a0 N v = a' := by simp only [Act.put, List.setIfInBounds_toArray, List.set_cons_zero, List.set_cons_succ, i64_w, i32_w]; rfl) : Go.Proofs.YthlmmcmpllgflaaW.PrintLast.wpAnyLast P md ops Q S ds fuel l a w := Go.Proofs.YthlmmcmpllgflaaW.PrintLast.norm_ (h0.trans ha) h
theorem zW {P : Go.Program} {ops : Array Go.Oper} {Q : Go.Exit → Go.Act → Go.World → Prop} {md : Go.Region.Mode} {S : Go.World → Prop} {ds : List Nat} {fuel : Nat} {l : Array Bool} {a : Go.Act} {w : Go.World} {a' : Go.Act} (h : Go.Proofs.YthlmmcmpllgflaaW.PrintLast.wpAnyLast P md ops Q S ds fuel l a' w) (ha : a = a' := by simp only [putAll, Act.put, List.setIfInBounds_toArray, List.set_cons_zero, List.set_cons_succ]; rfl) : Go.Proofs.YthlmmcmpllgflaaW.PrintLast.wpAnyLast P md ops Q S ds fuel l a w := Go.Proofs.YthlmmcmpllgflaaW.PrintLast.norm_ ha h
theorem zB {a p : Prop} (x : a) (h : a → p := by intro x_; (with_reducible repeat (first | refine blk_drewN ?_ _ | refine blk_drew ?_ | refine blk_alloc ?_ _)); exact x_) : p := h x
theorem zR {a p : Prop} (x : a) (h : a → p := by intro x_; (with_reducible repeat (first | apply Kd.R_alloc | apply Kd.R_drewN | apply Kd.R_drew)); exact x_) : p := h x
theorem zS {a p : Prop} (x : a) (h : a → p := by intro x_; (with_reducible repeat (first | apply Kd.S_alloc | apply Kd.S_drewN | apply Kd.S_drew)); exact x_) : p := h x
theorem zV {a p : Prop} (x : a) (h : a → p := by intro x_; (with_reducible repeat (first | apply Kd.V_alloc | apply Kd.V_drewN | apply Kd.V_drew)); exact x_) : p := h x
theorem zN {a p : Prop} (x : a) (h : a → p := by intro x_; (with_reducible repeat (first | apply Kd.N_alloc | apply Kd.N_drewN | apply Kd.N_drew)); exact x_) : p := h x
theorem zH0 {p : Prop} (h : p := by repeat (first | (with_reducible first | exact HB.out | apply below_alloc | apply pw_below_drewN | apply below_drew1) | exact HB.out)) : p := h
theorem zH1 {a0 p : Prop} (x0 : a0) (h : a0 → p := by intro x0_; repeat (first | (with_reducible first | exact HB.out | apply below_alloc | apply pw_below_drewN | apply below_drew1 | refine below_set ?_ x0_) | exact HB.out)) : p := h x0
theorem zH2 {a0 a1 p : Prop} (x0 : a0) (x1 : a1) (h : a0 → a1 → p := by intro x0_ x1_; repeat (first | (with_reducible first | exact HB.out | apply below_alloc | apply pw_below_drewN | apply below_drew1 | refine below_set ?_ x0_ | refine below_set ?_ x1_) | exact HB.out)) : p := h x0 x1
theorem zH3 {a0 a1 a2 p : Prop} (x0 : a0) (x1 : a1) (x2 : a2) (h : a0 → a1 → a2 → p := by intro x0_ x1_ x2_; repeat (first | (with_reducible first | exact HB.out | apply below_alloc | apply pw_below_drewN | apply below_drew1 | refine below_set ?_ x0_ | refine below_set ?_ x1_ | refine below_set ?_ x2_) | exact HB.out)) : p := h x0 x1 x2
theorem zC {a p : Prop} (x : a) (h : a → p := by intro x_; repeat (first | exact x_ | (with_reducible refine Kd.C_alloc ?_ _) | (with_reducible refine Kd.C_drewN ?_ _) | (with_reducible refine Kd.C_drew ?_))) : p := h x
theorem zY {α : Type} {u v : α} {p : Prop} (x : u = v) (h : u = v → p := by intro x_; first | (rw [x_]; with_reducible exact H) | (have H2_ := (Option.bind_some _ _).symm.trans H; rw [x_]; with_reducible exact H2_) | (have H2_ := (Option.bind_some _ _).symm.trans H; with_reducible exact H2_) | with_reducible exact H | (rw [x_]; exact H) | exact H) : p := h x
theorem z1 {p : Prop} (h : p := by first | (with_reducible assumption) | assumption) : p := h
theorem z2 {p : Prop} (h : p := by (try simp only [List.map_toArray, List.map_cons, List.map_nil]); first | done | rfl | (simp only [List.length_drop, List.length_take]; rfl)) : p := h
theorem z3 {p : Prop} (h : p := by first | rfl | (simp; done) | (simp [*]; done)) : p := h
theorem z4 {p : Prop} (h : p := by repeat (first | exact Drawn0.refl _ | apply Drawn0.step)) : p := h
theorem z5 {p : Prop} (h : p := by first | rfl | (simp [errW_none, errW_some] <;> rfl) | (simp [*, errW_none, errW_some] <;> rfl)) : p := h
theorem z6 {p : Prop} (h : p := by rw [hg]; exact (below_size zH0)) : p := h
theorem z7 {p : Prop} (h : p := by first | (simp only [putAll, Act.put, List.setIfInBounds_toArray, List.set_cons_zero, List.set_cons_succ]; done) | (simp only [putAll, Act.put, List.setIfInBounds_toArray, List.set_cons_zero, List.set_cons_succ]; rfl)) : p := h
theorem z8 {p : Prop} (h : p := by repeat (first | (with_reducible first | exact HB.out | apply below_alloc | apply pw_below_drewN | apply below_drew1 | refine below_set ?_ GE1251.out) | exact HB.out)) : p := h
theorem z9 {p : Prop} (h : p := by first | exact Kd.S_nil _ _ _ _ _ | exact Kd.N_nil _ _ _ _ _ | exact Kd.V_nil _ _ _ _ _ | exact Kd.Q_nil _ _ _ _ _ | exact Kd.R_nil _ _ _ _ _) : p := h
theorem z10 {p : Prop} (h : p := by repeat (first | (with_reducible first | exact HB.out | apply below_alloc | apply pw_below_drewN | apply below_drew1 | refine below_set ?_ GE1251.out | refine below_set ?_ GE1261.out) | exact HB.out)) : p := h
theorem z11 {p : Prop} (h : p := by (with_reducible repeat (first | refine blk_drewN ?_ _ | refine blk_drew ?_ | refine blk_alloc ?_ _)); exact BK1251.out) : p := h
theorem z12 {p : Prop} (h : p := by repeat (first | (with_reducible first | exact HK.out | apply Kept.alloc | apply Kept.drewN | apply Kept.drew) | exact HK.out)) : p := h
theorem z13 {p : Prop} (h : p := by (with_reducible repeat (first | apply Kd.V_alloc | apply Kd.V_drewN | apply Kd.V_drew)); exact Kd.V_mono HO2_0.out (fun _ hk => ⟨hk.1.1.1.1, ⟨hk.1.1.1.2, ⟨hk.1.1.2, hk.1.2⟩⟩⟩)) : p := h
theorem z14 {p : Prop} (h : p := by (with_reducible repeat (first | apply Kd.V_alloc | apply Kd.V_drewN | apply Kd.V_drew)); exact Kd.V_mono HO1.out (fun _ hk => ⟨hk.1.1.1.1, ⟨hk.1.1.1.2, ⟨hk.1.1.2, hk.1.2⟩⟩⟩)) : p := h
theorem z15 {p : Prop} (h : p := by (with_reducible repeat (first | apply Kd.R_alloc | apply Kd.R_drewN | apply Kd.R_drew)); exact (Kd.R_mono (Kd.R_far (p := ⟨gb1261, 2, none⟩) (Kd.R_far (p := ⟨gb1261, 1, none⟩) (Kd.R_far (p := ⟨gb1261, 0, none⟩) (Kd.R_types HO1260.out BK1261.out (by decide)) (fun _ hk => hk.2) (.slice Ao133 t1252.length co133)) (fun _ hk => hk.2) (.slice Ao136 t1255.length co136)) (fun _ hk => hk.2) (.slice Ao137 t1258.length co137)) (fun _ h_ => h_.1))) : p := h
theorem z16 {p : Prop} (h : p := by (with_reducible repeat (first | apply Kd.R_alloc | apply Kd.R_drewN | apply Kd.R_drew)); exact (Kd.R_mono (Kd.R_far (p := ⟨gb1261, 2, none⟩) (Kd.R_far (p := ⟨gb1261, 1, none⟩) (Kd.R_far (p := ⟨gb1261, 0, none⟩) (Kd.R_types HO1257.out BK1261.out (by decide)) (fun _ hk => hk.2) (.slice Ao133 t1252.length co133)) (fun _ hk => hk.2) (.slice Ao136 t1255.length co136)) (fun _ hk => hk.2) (.slice Ao137 t1258.length co137)) (fun _ h_ => h_.1))) : p := h
theorem z17 {p : Prop} (h : p := by (with_reducible repeat (first | apply Kd.R_alloc | apply Kd.R_drewN | apply Kd.R_drew)); exact (Kd.R_mono (Kd.R_far (p := ⟨gb1261, 2, none⟩) (Kd.R_far (p := ⟨gb1261, 1, none⟩) (Kd.R_far (p := ⟨gb1261, 0, none⟩) (Kd.R_types HO1254.out BK1261.out (by decide)) (fun _ hk => hk.2) (.slice Ao133 t1252.length co133)) (fun _ hk => hk.2) (.slice Ao136 t1255.length co136)) (fun _ hk => hk.2) (.slice Ao137 t1258.length co137)) (fun _ h_ => h_.1))) : p := h
theorem z18 {p : Prop} (h : p := by rw [hg]; exact Nat.ne_of_lt (blk_lt (g := gb949) (o := .cells #[.slice A0_0 l0_0.length c0_0, .slice A0_1 l0_1.length c0_1, .slice A0_2 l0_2.length c0_2] 26 (0, 0)) (zB BK949.out))) : p := h
theorem z19 {p : Prop} (h : p := by rw [hg]; exact Nat.ne_of_gt (blk_lt (g := gb949) (o := .cells #[.slice A0_0 l0_0.length c0_0, .slice A0_1 l0_1.length c0_1, .slice A0_2 l0_2.length c0_2] 26 (0, 0)) (zB BK949.out))) : p := h
theorem z20 {p : Prop} (h : p := by first | rfl | (simp [errW_none, errW_some] <;> rfl) | (simp only [← hji12]; first | rfl | (simp [errW_none, errW_some] <;> rfl)) | (simp [*, errW_none, errW_some] <;> rfl)) : p := h
theorem z21 {p : Prop} (h : p := by have := HK1.out; omega) : p := h
theorem z22 {p : Prop} (h : p := by repeat (first | (with_reducible first | exact HB.out | apply below_alloc | apply pw_below_drewN | apply below_drew1) | exact HB.out)) : p := h
theorem z23 {p : Prop} (h : p := by (with_reducible repeat (first | apply Kd.R_alloc | apply Kd.R_drewN | apply Kd.R_drew)); exact HO1260.out) : p := h
theorem z24 {p : Prop} (h : p := by (with_reducible repeat (first | apply Kd.R_alloc | apply Kd.R_drewN | apply Kd.R_drew)); exact HO1257.out) : p := h
theorem z25 {p : Prop} (h : p := by (with_reducible repeat (first | apply Kd.R_alloc | apply Kd.R_drewN | apply Kd.R_drew)); exact HO1254.out) : p := h
theorem z26 {p : Prop} (h : p := by repeat (first | (with_reducible exact HR963_0.out) | (with_reducible refine Kd.C_alloc ?_ _) | (with_reducible refine Kd.C_drewN ?_ _) | (with_reducible refine Kd.C_drew ?_) | exact HR963_0.out)) : p := h
theorem z27 {p : Prop} (h : p := by rw [hg]; exact Nat.ne_of_lt (blk_lt (g := gb1280) (o := .cells #[.slice A0_0 l0_0.length c0_0, .slice A0_1 l0_1.length c0_1, .slice A0_2 l0_2.length c0_2] 26 (0, 0)) (zB BK1280.out))) : p := h
theorem z28 {p : Prop} (h : p := by rw [hg]; exact Nat.ne_of_gt (blk_lt (g := gb1280) (o := .cells #[.slice A0_0 l0_0.length c0_0, .slice A0_1 l0_1.length c0_1, .slice A0_2 l0_2.length c0_2] 26 (0, 0)) (zB BK1280.out))) : p := h
theorem z29 {p : Prop} (h : p := by repeat (first | (with_reducible first | exact HK.out | apply Kept.alloc | apply Kept.drewN | apply Kept.drew | refine Kept.setCell ?_ (.inr GW1324.out) _) | exact HK.out)) : p := h
theorem z30 {p : Prop} (h : p := by rw [hg]; exact Nat.ne_of_lt (blk_lt (g := gb305) (o := .cells #[.slice none 0 0, .slice none 0 0, .slice none 0 0, .slice none 0 0] 49 (0, 0)) (zB BK305.out))) : p := h
theorem z31 {p : Prop} (h : p := by rw [hg]; exact Nat.ne_of_gt (blk_lt (g := gb305) (o := .cells #[.slice none 0 0, .slice none 0 0, .slice none 0 0, .slice none 0 0] 49 (0, 0)) (zB BK305.out))) : p := h
theorem z32 {p : Prop} (h : p := by have := HK1.out; have := HK2.out; omega) : p := h
theorem z33 {p : Prop} (h : p := by (with_reducible repeat (first | apply Kd.R_alloc | apply Kd.R_drewN | apply Kd.R_drew)); exact Kd.R_mono HO311.out (fun _ hk => hk.2)) : p := h
theorem z34 {p : Prop} (h : p := by (with_reducible repeat (first | apply Kd.R_alloc | apply Kd.R_drewN | apply Kd.R_drew)); exact Kd.R_mono HO308.out (fun _ hk => hk.2)) : p := h
theorem z35 {p : Prop} (h : p := by (with_reducible repeat (first | apply Kd.S_alloc | apply Kd.S_drewN | apply Kd.S_drew)); exact Kd.S_mono HO_6.out (fun _ hk => hk.2)) : p := h
theorem z36 {p : Prop} (h : p := by have := HK1.out; first | omega | exact Nat.le_refl _) : p := h
theorem z37 {p : Prop} (h : p := by first | omega | exact Nat.le_refl _) : p := h
theorem z38 {p : Prop} (h : p := by (with_reducible repeat (first | apply Kd.S_alloc | apply Kd.S_drewN | apply Kd.S_drew)); exact HO1264.out) : p := h
theorem z39 {p : Prop} (h : p := by rw [hg]; exact (below_size (zH1 GE1280.out))) : p := h
theorem z40 {p : Prop} (h : p := by rw [hg]; exact Nat.ne_of_lt (blk_lt (g := gb950) (o := .cells #[.slice A2_0 l2_0.length c2_0, .int .i64 a2_1, .bool a2_2] 78 (0, 0)) (zB BK950.out))) : p := h
theorem z41 {p : Prop} (h : p := by rw [hg]; exact Nat.ne_of_gt (blk_lt (g := gb950) (o := .cells #[.slice A2_0 l2_0.length c2_0, .int .i64 a2_1, .bool a2_2] 78 (0, 0)) (zB BK950.out))) : p := h
theorem z42 {p : Prop} (h : p := by rw [hg]; exact (below_size (zH1 GE305.out))) : p := h
theorem z43 {p : Prop} (h : p := by first | exact Kd.R_nil _ _ _ _ _ | exact Kd.N_nil _ _ _ _ _ | exact Kd.V_nil _ _ _ _ _ | exact Kd.Q_nil _ _ _ _ _ | exact Kd.S_nil _ _ _ _ _) : p := h
theorem z44 {p : Prop} (h : p := by rw [List.length_map]; omega) : p := h
theorem z45 {p : Prop} (h : p := by (with_reducible repeat (first | apply Kd.S_alloc | apply Kd.S_drewN | apply Kd.S_drew)); exact Kd.S_mono HO512.out (fun _ hk => hk.1.2)) : p := h
theorem z46 {p : Prop} (h : p := by (with_reducible repeat (first | apply Kd.S_alloc | apply Kd.S_drewN | apply Kd.S_drew)); exact Kd.S_mono HO_6.out (fun _ hk => hk.1.2)) : p := h
theorem z47 {p : Prop} (h : p := by rw [hg]; exact (below_size (zH2 GE949.out GE950.out))) : p := h
theorem z48 {p : Prop} (h : p := by (with_reducible repeat (first | refine blk_drewN ?_ _ | refine blk_drew ?_ | refine blk_alloc ?_ _)); exact BK1261.out) : p := h
theorem z49 {p : Prop} (h : p := by rw [hg]; exact (below_size (zH1 GE949.out))) : p := h
theorem z50 {p : Prop} (h : p := by simp only [putAll, Act.put, List.setIfInBounds_toArray, List.set_cons_zero, List.set_cons_succ]) : p := h
theorem z51 {p : Prop} (h : p := by first | exact .inr hk.1.1.1.1 | exact .inr hk.1.1.1) : p := h
theorem z52 {p : Prop} (h : p := by have := HK1.out; have := HJ9.out; first | omega | exact Nat.le_refl _) : p := h
end Go.Proofs.Ythlmmcmpllgflaa
end
namespace Go.Proofs.Ythlmmcmpllgflaa.P
open Go.RowKit Go.Proofs.YthlmmcmpllgflaaW.PrintWords Go.Proofs.YthlmmcmpllgflaaW.PrintLast Go.Proofs.YthlmmcmpllgflaaW.PrintMore
attribute [local go_sem] max2_int min2_int max_two min_two max_three min_three max_four min_four
set_option linter.unusedVariables false
set_option linter.unusedSimpArgs false
def errW : Option Int → Value
 | none => .nilIface
 | some c => .iface 0 (.int .i64 c)
theorem errW_none : errW none = .nilIface := rfl
theorem errW_some (c : Int) : errW (some c) = .iface 0 (.int .i64 c) := rfl
theorem info3 : (Try.prog.info? 3).map (fun i => (i.zero, i.size, i.bytes)) = some (some (.int .i64 0), 1, 8) := by kernel_rfl
theorem info24 : (Try.prog.info? 24).map (fun i => (i.zero, i.size, i.bytes)) = some (some (.slice none 0 0), 1, 24) := by kernel_rfl
def rd_L2 (xs : List (List Int)) (i : Int) : (List Int) := xs.getD i.toNat ([] : List Int)
theorem at_L2 {w : World} {A : Option Addr} {n : Nat} {xs : List (List Int)} (h : Kd.C (Kd.slice 3 (Kd.int .i64)) w A n xs) (i : Int) (h0 : 0 ≤ i) (h1 : i < n) : ∃ ad A0 c0, A = some ad ∧ w.cell? (ad.add i.toNat) = some (.slice A0 (rd_L2 xs i).length c0) ∧ (rd_L2 xs i).length ≤ c0 ∧ (Kd.int .i64).C w A0 (rd_L2 xs i).length (rd_L2 xs i) := by
 obtain ⟨ad, c, e, _, hK, hc0⟩ := Kd.C_get h ([] : List Int) i h0 h1
 have hc : ∀ j u, c[j]? = some u → w.cell? (ad.add (i.toNat * 1 + j)) = some u := hc0
 obtain ⟨A0, c0, rfl, l0, g0⟩ := hK
 exact ⟨ad, A0, c0, e, (by have hq := hc 0 _ rfl; rwa [Nat.mul_one, Nat.add_zero] at hq), l0, g0⟩
end Go.Proofs.Ythlmmcmpllgflaa.P
namespace Go.Proofs.YthlmmcmpllgflaaW.PrintWords
open Go.RowKit
theorem Ev.pos {α : Type} {c : Prop} [Decidable c] {A B : Nat → Option α} {r : α} (h : c) (k : Ev A r) : Ev (fun n => if c then A n else B n) r := by
  obtain ⟨K, k⟩ := k
  exact ⟨K, fun n hn => by dsimp only; rw [if_pos h]; exact k n hn⟩
theorem Ev.neg {α : Type} {c : Prop} [Decidable c] {A B : Nat → Option α} {r : α} (h : ¬ c) (k : Ev B r) : Ev (fun n => if c then A n else B n) r := by
  obtain ⟨K, k⟩ := k
  exact ⟨K, fun n hn => by dsimp only; rw [if_neg h]; exact k n hn⟩
theorem Ev.const {α : Type} {x : Option α} {r : α} (h : x = some r) : Ev (fun _ => x) r := ⟨0, fun _ _ => h⟩
theorem Ev.to {α : Type} {g : Nat → Option α} {r r' : α} (k : Ev g r) (h : r = r') : Ev g r' := h ▸ k
theorem wr {n : Int} (h : -9223372036854775808 ≤ n) (h2 : n ≤ 9223372036854775807) : wrap64 n = n := by unfold wrap64; omega
theorem wrS {i : Nat} (h : i < 4611686018427387904) : wrap64 ((i : Int) + 1) = ((i + 1 : Nat) : Int) := by unfold wrap64; omega
theorem wrP {i : Nat} (h : i < 4611686018427387904) : wrap64 (((i + 1 : Nat) : Int) - 1) = (i : Int) := by unfold wrap64; omega
theorem rd_nat (l : List Int) (i : Nat) : rd l (i : Int) = l.getD i 0 := by unfold rd; rw [Int.toNat_natCast]
theorem drop_cons {α : Type} (l : List α) (d : α) {i : Nat} (h : i < l.length) : l.drop i = l.getD i d :: l.drop (i + 1) := by
  rw [List.drop_eq_getElem_cons h]; simp [List.getD_eq_getElem?_getD, List.getElem?_eq_getElem h]
theorem Ev.andB {g F : Nat → Option Bool} {b r : Bool} (h : Ev g b) (k : b = true → Ev F r) : Ev (fun n => (g n).bind fun t => if t = true then F n else some false) (b && r) := by
  refine Ev.bind h ?_
  cases b with
  | true => exact Ev.pos rfl ((k rfl).to (by simp))
  | false => exact Ev.neg (by simp) ((Ev.now false).to (by simp))
theorem Ev.ifB {c : Prop} [Decidable c] {F : Nat → Option Bool} {r : Bool} (k : c → Ev F r) : Ev (fun n => if c then F n else some false) (decide c && r) := by
  by_cases h : c
  · exact Ev.pos h ((k h).to (by simp [h]))
  · exact Ev.neg h ((Ev.now false).to (by simp [h]))
end Go.Proofs.YthlmmcmpllgflaaW.PrintWords
namespace Go.Proofs.Ythlmmcmpllgflaa.P
open Go.RowKit Go.Proofs.YthlmmcmpllgflaaW.PrintWords Go.Proofs.YthlmmcmpllgflaaW.PrintLast Go.Proofs.YthlmmcmpllgflaaW.PrintMore
attribute [local go_sem] max2_int min2_int max_two min_two max_three min_three max_four min_four
set_option linter.unusedVariables false
set_option linter.unusedSimpArgs false
def cmp_isNaN_int.f (a0 : Int) : Option (Bool) := some (a0 != a0)
set_option maxHeartbeats 8000000 in
set_option maxRecDepth 100000 in
theorem cmp_isNaN_int.calls (a0 : Int) (r : Bool) (w : World) (h : cmp_isNaN_int.f a0 = some r) :
 Calls Try.prog 133 #[.int .i64 a0] w fun e w' => e = .returned (.bool r) ∧ Drawn0 w w' := by
 have H : (some (a0 != a0)) = some r := h
 clear h
 obtain rfl := Option.some.inj H
 go_enter Try.func133, Try.ntmps133
 go_wp2
 go_ret
 exact ⟨z3, z4⟩
def cmp_Less_int.f (a0 : Int) (a1 : Int) : Option (Bool) := (cmp_isNaN_int.f a0).bind fun t288 => (if t288 = true then ((cmp_isNaN_int.f a1).bind fun t289 => (if t289 = true then (some (decide (a0 < a1))) else (some true))) else (some (decide (a0 < a1))))
set_option maxHeartbeats 8000000 in
set_option maxRecDepth 100000 in
theorem cmp_Less_int.calls (a0 : Int) (a1 : Int) (r : Bool) (w : World) (h : cmp_Less_int.f a0 a1 = some r) :
 Calls Try.prog 130 #[.int .i64 a0, .int .i64 a1] w fun e w' => e = .returned (.bool r) ∧ Drawn0 w w' := by
 have H : ((cmp_isNaN_int.f a0).bind fun t288 => (if t288 = true then ((cmp_isNaN_int.f a1).bind fun t289 => (if t289 = true then (some (decide (a0 < a1))) else (some true))) else (some (decide (a0 < a1))))) = some r := h
 clear h
 replace H := Option.bind_eq_some_iff.mp H
 obtain ⟨t288, A30, H⟩ := H
 replace H : (if t288 = true then ((cmp_isNaN_int.f a1).bind fun t289 => (if t289 = true then (some (decide (a0 < a1))) else (some true))) else (some (decide (a0 < a1)))) = some r := H
 have A3 := Aside0.mk A30
 clear A30
 by_cases c4 : t288 = true
 · subst c4
   have H1 : ((cmp_isNaN_int.f a1).bind fun t289 => (if t289 = true then (some (decide (a0 < a1))) else (some true))) = some r := by rw [if_pos rfl] at H; exact H
   clear H
   have H := H1
   clear H1
   replace H := Option.bind_eq_some_iff.mp H
   obtain ⟨t289, A50, H⟩ := H
   replace H : (if t289 = true then (some (decide (a0 < a1))) else (some true)) = some r := H
   have A5 := Aside0.mk A50
   clear A50
   by_cases c6 : t289 = true
   · subst c6
     have H1 : (some (decide (a0 < a1))) = some r := by rw [if_pos rfl] at H; exact H
     clear H
     have H := H1
     clear H1
     obtain rfl := Option.some.inj H
     go_enter Try.func130, Try.ntmps130
     go_wp2_with (first | ((with_reducible refine gate_callee (f := 133) rfl ?_); refine goesL_ (some 6) rfl rfl Try.func133 (by kernel_rfl) rfl #[.int .i64 a0] rfl z2 ?_; (with_reducible refine (cmp_isNaN_int.calls a0 true _ A3.out).mono ?_); rintro e w' ⟨rfl, ⟨nd, rfl⟩⟩; refine ⟨_, rfl, ?_⟩) | (go_at_call 133; (with_reducible refine (cmp_isNaN_int.calls a1 true _ A5.out).mono ?_); rintro e w' ⟨rfl, ⟨nd, rfl⟩⟩))
     go_ret
     exact ⟨z3, z4⟩
   · replace c6 := Bool.eq_false_iff.mpr c6
     subst c6
     have H1 : (some true) = some r := by rw [if_neg (show ¬ (false = true) by decide)] at H; exact H
     clear H
     have H := H1
     clear H1
     obtain rfl := Option.some.inj H
     go_enter Try.func130, Try.ntmps130
     go_wp2_with (first | ((with_reducible refine gate_callee (f := 133) rfl ?_); refine goesL_ (some 6) rfl rfl Try.func133 (by kernel_rfl) rfl #[.int .i64 a0] rfl z2 ?_; (with_reducible refine (cmp_isNaN_int.calls a0 true _ A3.out).mono ?_); rintro e w' ⟨rfl, ⟨nd, rfl⟩⟩; refine ⟨_, rfl, ?_⟩) | (go_at_call 133; (with_reducible refine (cmp_isNaN_int.calls a1 false _ A5.out).mono ?_); rintro e w' ⟨rfl, ⟨nd, rfl⟩⟩))
     go_ret
     exact ⟨z3, z4⟩
 · replace c4 := Bool.eq_false_iff.mpr c4
   subst c4
   have H1 : (some (decide (a0 < a1))) = some r := by rw [if_neg (show ¬ (false = true) by decide)] at H; exact H
   clear H
   have H := H1
   clear H1
   obtain rfl := Option.some.inj H
   go_enter Try.func130, Try.ntmps130
   go_wp2_with (first | ((with_reducible refine gate_callee (f := 133) rfl ?_); refine goesL_ (some 6) rfl rfl Try.func133 (by kernel_rfl) rfl #[.int .i64 a0] rfl z2 ?_; (with_reducible refine (cmp_isNaN_int.calls a0 false _ A3.out).mono ?_); rintro e w' ⟨rfl, ⟨nd, rfl⟩⟩; refine ⟨_, rfl, ?_⟩))
   go_ret
   exact ⟨z3, z4⟩
def slices_IsSorted_int_int.l0 : Nat → List Int → Int → Option (Bool)
 | 0, _, _ => none
 | k + 1, x0, x3 => if x3 > 0 then (if 0 ≤ x3 then (if x3 < (x0.length : Int) then (if 0 ≤ (wrap64 (x3 - 1)) then (if (wrap64 (x3 - 1)) < (x0.length : Int) then ((cmp_Less_int.f (rd x0 x3) (rd x0 (wrap64 (x3 - 1)))).bind fun t292 => (if t292 = true then (some false) else (slices_IsSorted_int_int.l0 k x0 (wrap64 (x3 - 1))))) else (none)) else (none)) else (none)) else (none)) else (some true)
def slices_IsSorted_int_int.f (k : Nat) (l0 : List Int) : Option (Bool) := slices_IsSorted_int_int.l0 k l0 (wrap64 ((l0.length : Int) - 1))
set_option maxHeartbeats 8000000 in
set_option maxRecDepth 100000 in
theorem slices_IsSorted_int_int.calls (k : Nat) (A0 : Option Addr) (c0 : Nat) (l0 : List Int) (r : Bool) (w : World) (hr0 : Kd.C (Kd.int .i64) w A0 l0.length l0) (hc0 : l0.length ≤ c0) (h : slices_IsSorted_int_int.f k l0 = some r) :
 Calls Try.prog 105 #[.slice A0 l0.length c0] w fun e w' => e = .returned (.bool r) ∧ Drawn0 w w' := by
 have HR0 := Aside0.mk hr0
 have HC0 := Aside0.mk hc0
 clear hr0 hc0
 have H : (slices_IsSorted_int_int.l0 k l0 (wrap64 ((l0.length : Int) - 1))) = some r := h
 clear h
 have H' := Aside0.mk H
 clear H
 go_enter Try.func105, Try.ntmps105
 go_wp2
 repeat (go_quiet (fail); try go_wp2)
 go_loopg [3] k (fun kq v3 w' => ∃ (x3_1 : Int), v3 = .int .i64 x3_1 ∧ Aside0 (slices_IsSorted_int_int.l0 kq l0 x3_1 = some r) ∧ Aside0 (kq ≤ k) ∧ Drawn0 w w')
 case atStart => exact ⟨(wrap64 ((l0.length : Int) - 1)), z3, H', ⟨Nat.le_refl _⟩, z4⟩
 case round =>
  clear H'
  try clear c1
  obtain ⟨x3_1, rfl, HA, HK1, ⟨m1, rfl⟩⟩ := hrel
  cases gk with
  | zero => exact absurd HA.out (by simp [slices_IsSorted_int_int.l0])
  | succ k1 =>
   have H := HA.out
   clear HA
   simp only [slices_IsSorted_int_int.l0] at H
   by_cases c2 : x3_1 > 0
   · rw [if_pos c2] at H
     have c2b0 : decide (0 < x3_1) = true := decide_eq_true c2
     clear c2
     by_cases c3 : 0 ≤ x3_1
     · rw [if_pos c3] at H
       have c3b0 : decide (0 ≤ x3_1) = true := decide_eq_true c3
       clear c3
       by_cases c4 : x3_1 < (l0.length : Int)
       · rw [if_pos c4] at H
         have c4b0 : decide (x3_1 < (l0.length : Int)) = true := decide_eq_true c4
         clear c4
         obtain ⟨ji5, hji5⟩ : ∃ j_ : Int, (wrap64 (x3_1 - 1)) = j_ := ⟨_, rfl⟩
         replace H : (if 0 ≤ (ji5) then (if (ji5) < (l0.length : Int) then ((cmp_Less_int.f (rd l0 x3_1) (rd l0 (ji5))).bind fun t292 => (if t292 = true then (some false) else (slices_IsSorted_int_int.l0 k1 l0 ji5))) else (none)) else (none)) = some r := by first | (rw [hji5] at H; exact H) | (simp only [hji5] at H ⊢; exact H)
         have hji5w : (IntKind.i64.wrap (x3_1 - 1)) = ji5 := (i64_w _).trans hji5
         by_cases c6 : 0 ≤ (ji5)
         · rw [if_pos c6] at H
           have c6b0 : decide (0 ≤ (ji5)) = true := decide_eq_true c6
           clear c6
           by_cases c7 : (ji5) < (l0.length : Int)
           · rw [if_pos c7] at H
             have c7b0 : decide ((ji5) < (l0.length : Int)) = true := decide_eq_true c7
             clear c7
             replace H := Option.bind_eq_some_iff.mp H
             obtain ⟨t292, A80, H⟩ := H
             replace H : (if t292 = true then (some false) else (slices_IsSorted_int_int.l0 k1 l0 ji5)) = some r := H
             have A8 := Aside0.mk A80
             clear A80
             by_cases c9 : t292 = true
             · subst c9
               have H1 : (some false) = some r := by rw [if_pos rfl] at H; exact H
               clear H
               have H := H1
               clear H1
               obtain rfl := Option.some.inj H
               have p290 : 0 ≤ (x3_1 : Int) := of_decide_eq_true z1
               have q290 : x3_1 < (l0.length : Int) := of_decide_eq_true z1
               obtain ⟨ad290, e290, hx290_0⟩ := Kd.at_int HR0.out x3_1 p290 q290
               cases e290
               replace p290 := eq_true p290
               replace q290 := eq_true q290
               have p291 : 0 ≤ ((ji5) : Int) := of_decide_eq_true z1
               have q291 : (ji5) < (l0.length : Int) := of_decide_eq_true z1
               obtain ⟨ad291, e291, hx291_0⟩ := Kd.at_int HR0.out (ji5) p291 q291
               obtain rfl : ad290 = ad291 := (by injection e291)
               replace p291 := eq_true p291
               replace q291 := eq_true q291
               go_wp2_with (first | (go_at_call 130; (with_reducible refine (cmp_Less_int.calls (rd l0 x3_1) (rd l0 (ji5)) true _ A8.out).mono ?_); rintro e w' ⟨rfl, ⟨nd, rfl⟩⟩; (try first | exact ⟨rfl, _, World.drewN_drewN _ _ _⟩ | exact ⟨rfl, _, Eq.trans (World.drewN_drewN _ _ _) (congrArg (World.drewN _) (Nat.add_assoc _ _ _))⟩)))
               repeat (go_quiet (first | (go_at_call 130; (with_reducible refine (cmp_Less_int.calls (rd l0 x3_1) (rd l0 (ji5)) true _ A8.out).mono ?_); rintro e w' ⟨rfl, ⟨nd, rfl⟩⟩; (try first | exact ⟨rfl, _, World.drewN_drewN _ _ _⟩ | exact ⟨rfl, _, Eq.trans (World.drewN_drewN _ _ _) (congrArg (World.drewN _) (Nat.add_assoc _ _ _))⟩))); try go_wp2_with (first | (go_at_call 130; (with_reducible refine (cmp_Less_int.calls (rd l0 x3_1) (rd l0 (ji5)) true _ A8.out).mono ?_); rintro e w' ⟨rfl, ⟨nd, rfl⟩⟩; (try first | exact ⟨rfl, _, World.drewN_drewN _ _ _⟩ | exact ⟨rfl, _, Eq.trans (World.drewN_drewN _ _ _) (congrArg (World.drewN _) (Nat.add_assoc _ _ _))⟩))))
               go_ret
               exact ⟨(by first | rfl | (simp; done) | (simp only [← hji5] <;> (first | rfl | simp)) | (simp [*]; done)), z4⟩
             · replace c9 := Bool.eq_false_iff.mpr c9
               subst c9
               have H1 : (slices_IsSorted_int_int.l0 k1 l0 ji5) = some r := by rw [if_neg (show ¬ (false = true) by decide)] at H; exact H
               clear H
               have H := H1
               clear H1
               have H' := Aside0.mk H
               clear H
               have p290 : 0 ≤ (x3_1 : Int) := of_decide_eq_true z1
               have q290 : x3_1 < (l0.length : Int) := of_decide_eq_true z1
               obtain ⟨ad290, e290, hx290_0⟩ := Kd.at_int HR0.out x3_1 p290 q290
               cases e290
               replace p290 := eq_true p290
               replace q290 := eq_true q290
               have p291 : 0 ≤ ((ji5) : Int) := of_decide_eq_true z1
               have q291 : (ji5) < (l0.length : Int) := of_decide_eq_true z1
               obtain ⟨ad291, e291, hx291_0⟩ := Kd.at_int HR0.out (ji5) p291 q291
               obtain rfl : ad290 = ad291 := (by injection e291)
               replace p291 := eq_true p291
               replace q291 := eq_true q291
               go_wp2_with (first | (go_at_call 130; (with_reducible refine (cmp_Less_int.calls (rd l0 x3_1) (rd l0 (ji5)) false _ A8.out).mono ?_); rintro e w' ⟨rfl, ⟨nd, rfl⟩⟩; (try first | exact ⟨rfl, _, World.drewN_drewN _ _ _⟩ | exact ⟨rfl, _, Eq.trans (World.drewN_drewN _ _ _) (congrArg (World.drewN _) (Nat.add_assoc _ _ _))⟩)))
               repeat (go_quiet (first | (go_at_call 130; (with_reducible refine (cmp_Less_int.calls (rd l0 x3_1) (rd l0 (ji5)) false _ A8.out).mono ?_); rintro e w' ⟨rfl, ⟨nd, rfl⟩⟩; (try first | exact ⟨rfl, _, World.drewN_drewN _ _ _⟩ | exact ⟨rfl, _, Eq.trans (World.drewN_drewN _ _ _) (congrArg (World.drewN _) (Nat.add_assoc _ _ _))⟩))); try go_wp2_with (first | (go_at_call 130; (with_reducible refine (cmp_Less_int.calls (rd l0 x3_1) (rd l0 (ji5)) false _ A8.out).mono ?_); rintro e w' ⟨rfl, ⟨nd, rfl⟩⟩; (try first | exact ⟨rfl, _, World.drewN_drewN _ _ _⟩ | exact ⟨rfl, _, Eq.trans (World.drewN_drewN _ _ _) (congrArg (World.drewN _) (Nat.add_assoc _ _ _))⟩))))
               go_roundg k1
               case measure => have := HK1.out; omega
               case rel => exact ⟨(ji5), (by first | rfl | (simp; done) | (simp only [← hji5] <;> (first | rfl | simp)) | (simp [*]; done)), H', ⟨z21⟩, z4⟩
           · rw [if_neg c7] at H
             exact absurd H (by simp)
         · rw [if_neg c6] at H
           exact absurd H (by simp)
       · rw [if_neg c4] at H
         exact absurd H (by simp)
     · rw [if_neg c3] at H
       exact absurd H (by simp)
   · rw [if_neg c2] at H
     have c2b0 : decide (0 < x3_1) = false := decide_eq_false c2
     clear c2
     obtain rfl := Option.some.inj H
     go_wp2
     repeat (go_quiet (fail); try go_wp2)
     go_ret
     exact ⟨z3, z4⟩
def impl_copied.f (l0 : List Int) : Option (List Int) := (some (([] : List Int) : List Int)).bind fun y299 => (if y299.length + l0.length < 17592186044416 then (some (y299 ++ l0)) else (none))
set_option maxHeartbeats 8000000 in
set_option maxRecDepth 100000 in
theorem impl_copied.calls (A0 : Option Addr) (c0 : Nat) (l0 : List Int) (r : List Int) (w : World) (hr0 : Kd.C (Kd.int .i64) w A0 l0.length l0) (hc0 : l0.length ≤ c0) (h : impl_copied.f l0 = some r) :
 Calls Try.prog 110 #[.slice A0 l0.length c0] w fun e w' => ∃ v0_ : Value, e = .returned (v0_) ∧ Kd.R (Kd.int .i64) 3 w' w.heap.size (fun _ => True) v0_ r ∧ Below w.heap.size w w' := by
 have HR0 := Aside0.mk hr0
 have HC0 := Aside0.mk hc0
 clear hr0 hc0
 have HB := Aside0.mk (Below.refl w.heap.size w)
 have H : ((some (([] : List Int) : List Int)).bind fun y299 => (if y299.length + l0.length < 17592186044416 then (some (y299 ++ l0)) else (none))) = some r := h
 clear h
 obtain ⟨y299, hy299⟩ : ∃ y_ : List Int, y_ = (([] : List Int)) := ⟨_, rfl⟩
 replace H : (if y299.length + l0.length < 17592186044416 then (some (y299 ++ l0)) else (none)) = some r := zY hy299
 have Ny299 := Aside0.mk hy299
 clear hy299
 by_cases c2 : y299.length + l0.length < 17592186044416
 · rw [if_pos c2] at H
   have LMc2 := Aside0.mk c2
   clear c2
   obtain ⟨y302, hy302⟩ : ∃ y_ : List Int, y_ = (y299 ++ l0) := ⟨_, rfl⟩
   replace H : (some y302) = some r := zY hy302
   have Ny302 := Aside0.mk hy302
   clear hy302
   obtain rfl := Option.some.inj H
   go_enter Try.func110, Try.ntmps110
   go_wp2_with (first | ((with_reducible refine gate_dst (N := 3) rfl ?_); refine Kd.R_lit (Kd.int .i64) _ 3 ?hg (N := 3) ?hd (xs := ([] : List Int)) (inner := []) (ok := fun _ => True) (okp := fun _ => True) ?hr ?hp (fun _ hk => hk) trivial (Below.refl _ _) (Nat.le_refl _) (by simp) ?_; (case hd => rfl); (case hg => rfl); (case hr => first | (go_simp; done) | (go_simp; rfl)); (case hp => exact (Reps.none _ _)); intro v300 w3 ho4 hb hg_ hnew_; clear hg_ hnew_; (first | rw [← Ny299.out] at ho4 | (simp only [Int.reduceToNat] at ho4; rw [← Ny299.out] at ho4)); have HO301 := Aside0.mk (Kd.R_lower ho4 (below_size zH0)); replace HB := zs0 hb; clear hb ho4) | ((with_reducible refine gate_builtin (b := .append) (xs := #[.tmp 3, .tmp 4]) rfl ?_); at_builtin; refine Kd.R_append_rows (Kd.int .i64) (w0 := w) w.heap.size rfl (.tmp 3) (.tmp 4) 24 3 (.int .i64 0) 8 rfl Try.underlying24 info3 rfl (by decide) (by omega) v300 y299 l0 _ _ _ (fun _ => True) (fun _ => False) rfl rfl ?aO ?aR (fun _ _ h => h) (fun _ h => h.elim) ?aF ?aB ?aS ?aL ?_; (case aR => exact zC (Kd.C_below HR0.out HB.out)); (case aB => exact zH0); (case aF => exact (fun _ _ => trivial)); (case aO => exact (zR HO301.out)); (case aS => exact (below_size zH0)); (case aL => have := LMc2.out; omega); intro v303 w5 ho hb hg hat; rw [← Ny302.out] at ho; have HO304 := Aside0.mk (ho); replace HB := Aside0.mk (hb); clear HO301; clear ho hb hg hat))
   go_ret
   exact ⟨_, z5, (zR HO304.out), zH0⟩
 · rw [if_neg c2] at H
   exact absurd H (by simp)
def spec_l1In.f (a0 : Int) (a1 : Int) (a2 : Int) : Option (Bool) := if a0 ≥ a1 then (some (decide (a0 ≤ a2))) else (some false)
set_option maxHeartbeats 8000000 in
set_option maxRecDepth 100000 in
theorem spec_l1In.calls (a0 : Int) (a1 : Int) (a2 : Int) (r : Bool) (w : World) (h : spec_l1In.f a0 a1 a2 = some r) :
 Calls Try.prog 87 #[.int .i64 a0, .int .i64 a1, .int .i64 a2] w fun e w' => e = .returned (.bool r) ∧ Drawn0 w w' := by
 have H : (if a0 ≥ a1 then (some (decide (a0 ≤ a2))) else (some false)) = some r := h
 clear h
 by_cases c4 : a0 ≥ a1
 · rw [if_pos c4] at H
   have c4b0 : decide (a1 ≤ a0) = true := decide_eq_true c4
   clear c4
   obtain rfl := Option.some.inj H
   go_enter Try.func87, Try.ntmps87
   go_wp2
   go_ret
   exact ⟨z3, z4⟩
 · rw [if_neg c4] at H
   have c4b0 : decide (a1 ≤ a0) = false := decide_eq_false c4
   clear c4
   obtain rfl := Option.some.inj H
   go_enter Try.func87, Try.ntmps87
   go_wp2
   go_ret
   exact ⟨z3, z4⟩
def spec_l2Row.l0 : Nat → List Int → Int → Int → Int → Option (Bool)
 | 0, _, _, _, _ => none
 | k + 1, x0, x1, x2, x7 => if x7 < (x0.length : Int) then (if 0 ≤ x7 then ((spec_l1In.f (rd x0 x7) 0 x2).bind fun t388 => (if t388 = true then (spec_l2Row.l0 k x0 x1 x2 (wrap64 (x7 + 1))) else (some false))) else (none)) else (some ((x0.length : Int) == x1))
def spec_l2Row.f (k : Nat) (l0 : List Int) (a1 : Int) (a2 : Int) : Option (Bool) := spec_l2Row.l0 k l0 a1 a2 0
set_option maxHeartbeats 8000000 in
set_option maxRecDepth 100000 in
theorem spec_l2Row.calls (k : Nat) (A0 : Option Addr) (c0 : Nat) (l0 : List Int) (a1 : Int) (a2 : Int) (r : Bool) (w : World) (hr0 : Kd.C (Kd.int .i64) w A0 l0.length l0) (hc0 : l0.length ≤ c0) (h : spec_l2Row.f k l0 a1 a2 = some r) :
 Calls Try.prog 112 #[.slice A0 l0.length c0, .int .i64 a1, .int .i64 a2] w fun e w' => e = .returned (.bool r) ∧ Drawn0 w w' := by
 have HR0 := Aside0.mk hr0
 have HC0 := Aside0.mk hc0
 clear hr0 hc0
 have H : (spec_l2Row.l0 k l0 a1 a2 0) = some r := h
 clear h
 have H' := Aside0.mk H
 clear H
 go_enter Try.func112, Try.ntmps112
 go_wp2
 go_loopg [7] k (fun kq v7 w' => ∃ (x7_1 : Int), v7 = .int .i64 x7_1 ∧ Aside0 (spec_l2Row.l0 kq l0 a1 a2 x7_1 = some r) ∧ Aside0 (kq ≤ k) ∧ Drawn0 w w')
 case atStart => exact ⟨(0), z3, H', ⟨Nat.le_refl _⟩, z4⟩
 case round =>
  clear H'
  try clear c1
  try clear p2
  obtain ⟨x7_1, rfl, HA, HK1, ⟨m1, rfl⟩⟩ := hrel
  cases gk with
  | zero => exact absurd HA.out (by simp [spec_l2Row.l0])
  | succ k1 =>
   have H := HA.out
   clear HA
   simp only [spec_l2Row.l0] at H
   by_cases c4 : x7_1 < (l0.length : Int)
   · rw [if_pos c4] at H
     have c4b0 : decide (x7_1 < (l0.length : Int)) = true := decide_eq_true c4
     clear c4
     by_cases c5 : 0 ≤ x7_1
     · rw [if_pos c5] at H
       have c5b0 : decide (0 ≤ x7_1) = true := decide_eq_true c5
       clear c5
       replace H := Option.bind_eq_some_iff.mp H
       obtain ⟨t388, A60, H⟩ := H
       replace H : (if t388 = true then (spec_l2Row.l0 k1 l0 a1 a2 (wrap64 (x7_1 + 1))) else (some false)) = some r := H
       have A6 := Aside0.mk A60
       clear A60
       by_cases c7 : t388 = true
       · subst c7
         have H1 : (spec_l2Row.l0 k1 l0 a1 a2 (wrap64 (x7_1 + 1))) = some r := by rw [if_pos rfl] at H; exact H
         clear H
         have H := H1
         clear H1
         have H' := Aside0.mk H
         clear H
         have p387 : 0 ≤ (x7_1 : Int) := of_decide_eq_true z1
         have q387 : x7_1 < (l0.length : Int) := of_decide_eq_true z1
         obtain ⟨ad387, e387, hx387_0⟩ := Kd.at_int HR0.out x7_1 p387 q387
         cases e387
         replace p387 := eq_true p387
         replace q387 := eq_true q387
         go_wp2_with (first | ((with_reducible refine gate_callee (f := 87) rfl ?_); refine goesL_ (some 19) rfl rfl Try.func87 (by kernel_rfl) rfl #[.int .i64 (rd l0 x7_1), .int .i64 0, .int .i64 a2] rfl z2 ?_; (with_reducible refine (spec_l1In.calls (rd l0 x7_1) 0 a2 true _ A6.out).mono ?_); rintro e w' ⟨rfl, ⟨nd, rfl⟩⟩; refine ⟨_, rfl, ?_⟩))
         go_roundg k1
         case measure => have := HK1.out; omega
         case rel => exact ⟨(wrap64 (x7_1 + 1)), z3, H', ⟨z21⟩, z4⟩
       · replace c7 := Bool.eq_false_iff.mpr c7
         subst c7
         have H1 : (some false) = some r := by rw [if_neg (show ¬ (false = true) by decide)] at H; exact H
         clear H
         have H := H1
         clear H1
         obtain rfl := Option.some.inj H
         have p387 : 0 ≤ (x7_1 : Int) := of_decide_eq_true z1
         have q387 : x7_1 < (l0.length : Int) := of_decide_eq_true z1
         obtain ⟨ad387, e387, hx387_0⟩ := Kd.at_int HR0.out x7_1 p387 q387
         cases e387
         replace p387 := eq_true p387
         replace q387 := eq_true q387
         go_wp2_with (first | ((with_reducible refine gate_callee (f := 87) rfl ?_); refine goesL_ (some 19) rfl rfl Try.func87 (by kernel_rfl) rfl #[.int .i64 (rd l0 x7_1), .int .i64 0, .int .i64 a2] rfl z2 ?_; (with_reducible refine (spec_l1In.calls (rd l0 x7_1) 0 a2 false _ A6.out).mono ?_); rintro e w' ⟨rfl, ⟨nd, rfl⟩⟩; refine ⟨_, rfl, ?_⟩))
         go_ret
         exact ⟨z3, z4⟩
     · rw [if_neg c5] at H
       exact absurd H (by simp)
   · rw [if_neg c4] at H
     have c4b0 : decide (x7_1 < (l0.length : Int)) = false := decide_eq_false c4
     clear c4
     obtain rfl := Option.some.inj H
     go_wp2
     go_ret
     exact ⟨z3, z4⟩
def spec_l2Sum.l0 : Nat → List Int → Int → Int → Option (Int)
 | 0, _, _, _ => none
 | k + 1, x0, x3, x4 => if x4 < (x0.length : Int) then (if 0 ≤ x4 then (spec_l2Sum.l0 k x0 (wrap64 (x3 + (rd x0 x4))) (wrap64 (x4 + 1))) else (none)) else (some x3)
def spec_l2Sum.f (k : Nat) (l0 : List Int) : Option (Int) := spec_l2Sum.l0 k l0 0 0
set_option maxHeartbeats 8000000 in
set_option maxRecDepth 100000 in
theorem spec_l2Sum.calls (k : Nat) (A0 : Option Addr) (c0 : Nat) (l0 : List Int) (r : Int) (w : World) (hr0 : Kd.C (Kd.int .i64) w A0 l0.length l0) (hc0 : l0.length ≤ c0) (h : spec_l2Sum.f k l0 = some r) :
 Calls Try.prog 115 #[.slice A0 l0.length c0] w fun e w' => e = .returned (.int .i64 r) ∧ Drawn0 w w' := by
 have HR0 := Aside0.mk hr0
 have HC0 := Aside0.mk hc0
 clear hr0 hc0
 have H : (spec_l2Sum.l0 k l0 0 0) = some r := h
 clear h
 have H' := Aside0.mk H
 clear H
 go_enter Try.func115, Try.ntmps115
 go_wp2
 go_loopg [3, 4] k (fun kq v3 v4 w' => ∃ (x3_1 : Int) (x4_1 : Int), v3 = .int .i64 x3_1 ∧ v4 = .int .i64 x4_1 ∧ Aside0 (spec_l2Sum.l0 kq l0 x3_1 x4_1 = some r) ∧ Aside0 (kq ≤ k) ∧ Drawn0 w w')
 case atStart => exact ⟨(0), (0), z3, z3, H', ⟨Nat.le_refl _⟩, z4⟩
 case round =>
  clear H'
  try clear c1
  obtain ⟨x3_1, x4_1, rfl, rfl, HA, HK1, ⟨m1, rfl⟩⟩ := hrel
  cases gk with
  | zero => exact absurd HA.out (by simp [spec_l2Sum.l0])
  | succ k1 =>
   have H := HA.out
   clear HA
   simp only [spec_l2Sum.l0] at H
   by_cases c2 : x4_1 < (l0.length : Int)
   · rw [if_pos c2] at H
     have c2b0 : decide (x4_1 < (l0.length : Int)) = true := decide_eq_true c2
     clear c2
     by_cases c3 : 0 ≤ x4_1
     · rw [if_pos c3] at H
       have c3b0 : decide (0 ≤ x4_1) = true := decide_eq_true c3
       clear c3
       have H' := Aside0.mk H
       clear H
       have p410 : 0 ≤ (x4_1 : Int) := of_decide_eq_true z1
       have q410 : x4_1 < (l0.length : Int) := of_decide_eq_true z1
       obtain ⟨ad410, e410, hx410_0⟩ := Kd.at_int HR0.out x4_1 p410 q410
       cases e410
       replace p410 := eq_true p410
       replace q410 := eq_true q410
       go_wp2
       go_roundg k1
       case measure => have := HK1.out; omega
       case rel => exact ⟨(wrap64 (x3_1 + (rd l0 x4_1))), (wrap64 (x4_1 + 1)), z3, z3, H', ⟨z21⟩, z4⟩
     · rw [if_neg c3] at H
       exact absurd H (by simp)
   · rw [if_neg c2] at H
     have c2b0 : decide (x4_1 < (l0.length : Int)) = false := decide_eq_false c2
     clear c2
     obtain rfl := Option.some.inj H
     go_wp2
     go_ret
     exact ⟨z3, z4⟩
def laws_szIntS.f (l0 : List Int) (a1 : Int) : Option (Int) := if (wrap64 (a1 - (l0.length : Int))) < 0 then (some (-1)) else (some (wrap64 (a1 - (l0.length : Int))))
set_option maxHeartbeats 8000000 in
set_option maxRecDepth 100000 in
theorem laws_szIntS.calls (A0 : Option Addr) (c0 : Nat) (l0 : List Int) (a1 : Int) (r : Int) (w : World) (hr0 : Kd.C (Kd.int .i64) w A0 l0.length l0) (hc0 : l0.length ≤ c0) (h : laws_szIntS.f l0 a1 = some r) :
 Calls Try.prog 79 #[.slice A0 l0.length c0, .int .i64 a1] w fun e w' => e = .returned (.int .i64 r) ∧ Drawn0 w w' := by
 have HR0 := Aside0.mk hr0
 have HC0 := Aside0.mk hc0
 clear hr0 hc0
 have H : (if (wrap64 (a1 - (l0.length : Int))) < 0 then (some (-1)) else (some (wrap64 (a1 - (l0.length : Int))))) = some r := h
 clear h
 by_cases c3 : (wrap64 (a1 - (l0.length : Int))) < 0
 · rw [if_pos c3] at H
   have c3b0 : decide ((wrap64 (a1 - (l0.length : Int))) < 0) = true := decide_eq_true c3
   clear c3
   obtain rfl := Option.some.inj H
   go_enter Try.func79, Try.ntmps79
   go_wp2
   go_ret
   exact ⟨z3, z4⟩
 · rw [if_neg c3] at H
   have c3b0 : decide ((wrap64 (a1 - (l0.length : Int))) < 0) = false := decide_eq_false c3
   clear c3
   obtain rfl := Option.some.inj H
   go_enter Try.func79, Try.ntmps79
   go_wp2
   go_ret
   exact ⟨z3, z4⟩
def laws_szChain.f (l0_0 : List Int) (l0_1 : List Int) (l0_2 : List Int) (a1 : Int) : Option (Int) := (laws_szIntS.f l0_0 a1).bind fun t1258 => (if t1258 < 0 then (some (-1)) else ((laws_szIntS.f l0_1 t1258).bind fun t1259 => (if t1259 < 0 then (some (-1)) else ((laws_szIntS.f l0_2 t1259).bind fun t1260 => (if t1260 < 0 then (some (-1)) else (some t1260))))))
set_option maxHeartbeats 8000000 in
set_option maxRecDepth 100000 in
theorem laws_szChain.calls (A0_0 : Option Addr) (c0_0 : Nat) (l0_0 : List Int) (A0_1 : Option Addr) (c0_1 : Nat) (l0_1 : List Int) (A0_2 : Option Addr) (c0_2 : Nat) (l0_2 : List Int) (a1 : Int) (r : Int) (w : World) (hr0_0 : Kd.C (Kd.int .i64) w A0_0 l0_0.length l0_0) (hc0_0 : l0_0.length ≤ c0_0) (hr0_1 : Kd.C (Kd.int .i64) w A0_1 l0_1.length l0_1) (hc0_1 : l0_1.length ≤ c0_1) (hr0_2 : Kd.C (Kd.int .i64) w A0_2 l0_2.length l0_2) (hc0_2 : l0_2.length ≤ c0_2) (h : laws_szChain.f l0_0 l0_1 l0_2 a1 = some r) :
 Calls Try.prog 22 #[.agg #[.slice A0_0 l0_0.length c0_0, .slice A0_1 l0_1.length c0_1, .slice A0_2 l0_2.length c0_2], .int .i64 a1] w fun e w' => e = .returned (.int .i64 r) ∧ Below w.heap.size w w' := by
 have hu39 := Try.underlying39
 have HR0_0 := Aside0.mk hr0_0
 have HC0_0 := Aside0.mk hc0_0
 clear hr0_0 hc0_0
 have HR0_1 := Aside0.mk hr0_1
 have HC0_1 := Aside0.mk hc0_1
 clear hr0_1 hc0_1
 have HR0_2 := Aside0.mk hr0_2
 have HC0_2 := Aside0.mk hc0_2
 clear hr0_2 hc0_2
 have HB := Aside0.mk (Below.refl w.heap.size w)
 have H : ((laws_szIntS.f l0_0 a1).bind fun t1258 => (if t1258 < 0 then (some (-1)) else ((laws_szIntS.f l0_1 t1258).bind fun t1259 => (if t1259 < 0 then (some (-1)) else ((laws_szIntS.f l0_2 t1259).bind fun t1260 => (if t1260 < 0 then (some (-1)) else (some t1260))))))) = some r := h
 clear h
 replace H := Option.bind_eq_some_iff.mp H
 obtain ⟨t1258, A30, H⟩ := H
 replace H : (if t1258 < 0 then (some (-1)) else ((laws_szIntS.f l0_1 t1258).bind fun t1259 => (if t1259 < 0 then (some (-1)) else ((laws_szIntS.f l0_2 t1259).bind fun t1260 => (if t1260 < 0 then (some (-1)) else (some t1260)))))) = some r := H
 have A3 := Aside0.mk A30
 clear A30
 by_cases c4 : t1258 < 0
 · rw [if_pos c4] at H
   have c4b0 : decide (t1258 < 0) = true := decide_eq_true c4
   clear c4
   obtain rfl := Option.some.inj H
   go_enter Try.func22, Try.ntmps22
   go_wp2_with (first | ((with_reducible refine gate_dst (N := 2) rfl ?_); refine box_event ?hg (N := 2) ?hd (cs := #[.slice A0_0 l0_0.length c0_0, .slice A0_1 l0_1.length c0_1, .slice A0_2 l0_2.length c0_2]) (t := 39) ?hr ?_; (case hd => rfl); (case hg => rfl); (case hr => first | (go_simp; done) | (go_simp; rfl)); intro gb1257 hg w5 hbox hb; have BK1257 := Aside0.mk (hbox); have GW1257 := Aside0.mk ((z6 : w.heap.size ≤ gb1257)); have GE1257 := Aside0.mk ((z6 : w.heap.size ≤ gb1257)); replace HB := zs0 hb; clear hb hbox hg; obtain ⟨hcz6_0, hcz6_1, hcz6_2, hfz6_0, hfz6_1, hfz6_2⟩ := zc3 BK1257.out) | ((with_reducible refine gate_callee (f := 79) rfl ?_); refine goesL_ (some 8) rfl rfl Try.func79 (by kernel_rfl) rfl #[.slice A0_0 l0_0.length c0_0, .int .i64 a1] rfl z2 ?_; (with_reducible refine (laws_szIntS.calls _ _ l0_0 a1 t1258 _ ?side1 ?side2 A3.out).mono ?_); (case side1 => exact zC (Kd.C_below HR0_0.out HB.out)); (case side2 => exact HC0_0.out); rintro e w' ⟨rfl, ⟨nd, rfl⟩⟩; refine ⟨_, rfl, ?_⟩))
   go_ret
   exact ⟨z5, (zH1 GE1257.out)⟩
 · rw [if_neg c4] at H
   have c4b0 : decide (t1258 < 0) = false := decide_eq_false c4
   clear c4
   replace H := Option.bind_eq_some_iff.mp H
   obtain ⟨t1259, A70, H⟩ := H
   replace H : (if t1259 < 0 then (some (-1)) else ((laws_szIntS.f l0_2 t1259).bind fun t1260 => (if t1260 < 0 then (some (-1)) else (some t1260)))) = some r := H
   have A7 := Aside0.mk A70
   clear A70
   by_cases c8 : t1259 < 0
   · rw [if_pos c8] at H
     have c8b0 : decide (t1259 < 0) = true := decide_eq_true c8
     clear c8
     obtain rfl := Option.some.inj H
     go_enter Try.func22, Try.ntmps22
     go_wp2_with (first | ((with_reducible refine gate_dst (N := 2) rfl ?_); refine box_event ?hg (N := 2) ?hd (cs := #[.slice A0_0 l0_0.length c0_0, .slice A0_1 l0_1.length c0_1, .slice A0_2 l0_2.length c0_2]) (t := 39) ?hr ?_; (case hd => rfl); (case hg => rfl); (case hr => first | (go_simp; done) | (go_simp; rfl)); intro gb1257 hg w9 hbox hb; have BK1257 := Aside0.mk (hbox); have GW1257 := Aside0.mk ((z6 : w.heap.size ≤ gb1257)); have GE1257 := Aside0.mk ((z6 : w.heap.size ≤ gb1257)); replace HB := zs0 hb; clear hb hbox hg; obtain ⟨hcz10_0, hcz10_1, hcz10_2, hfz10_0, hfz10_1, hfz10_2⟩ := zc3 BK1257.out) | ((with_reducible refine gate_callee (f := 79) rfl ?_); refine goesL_ (some 8) rfl rfl Try.func79 (by kernel_rfl) rfl #[.slice A0_0 l0_0.length c0_0, .int .i64 a1] rfl z2 ?_; (with_reducible refine (laws_szIntS.calls _ _ l0_0 a1 t1258 _ ?side1 ?side2 A3.out).mono ?_); (case side1 => exact zC (Kd.C_below HR0_0.out HB.out)); (case side2 => exact HC0_0.out); rintro e w' ⟨rfl, ⟨nd, rfl⟩⟩; refine ⟨_, rfl, ?_⟩) | ((with_reducible refine gate_callee (f := 79) rfl ?_); refine goesL_ (some 14) rfl rfl Try.func79 (by kernel_rfl) rfl #[.slice A0_1 l0_1.length c0_1, .int .i64 t1258] rfl z2 ?_; (with_reducible refine (laws_szIntS.calls _ _ l0_1 t1258 t1259 _ ?side1 ?side2 A7.out).mono ?_); (case side1 => repeat (first | exact (Kd.C_below HR0_1.out (zH1 GE1257.out)) | (with_reducible refine Kd.C_alloc ?_ _) | (with_reducible refine Kd.C_drewN ?_ _) | (with_reducible refine Kd.C_drew ?_))); (case side2 => exact HC0_1.out); rintro e w' ⟨rfl, ⟨nd, rfl⟩⟩; refine ⟨_, rfl, ?_⟩))
     go_ret
     exact ⟨z5, (zH1 GE1257.out)⟩
   · rw [if_neg c8] at H
     have c8b0 : decide (t1259 < 0) = false := decide_eq_false c8
     clear c8
     replace H := Option.bind_eq_some_iff.mp H
     obtain ⟨t1260, A110, H⟩ := H
     replace H : (if t1260 < 0 then (some (-1)) else (some t1260)) = some r := H
     have A11 := Aside0.mk A110
     clear A110
     by_cases c12 : t1260 < 0
     · rw [if_pos c12] at H
       have c12b0 : decide (t1260 < 0) = true := decide_eq_true c12
       clear c12
       obtain rfl := Option.some.inj H
       go_enter Try.func22, Try.ntmps22
       go_wp2_with (first | ((with_reducible refine gate_dst (N := 2) rfl ?_); refine box_event ?hg (N := 2) ?hd (cs := #[.slice A0_0 l0_0.length c0_0, .slice A0_1 l0_1.length c0_1, .slice A0_2 l0_2.length c0_2]) (t := 39) ?hr ?_; (case hd => rfl); (case hg => rfl); (case hr => first | (go_simp; done) | (go_simp; rfl)); intro gb1257 hg w13 hbox hb; have BK1257 := Aside0.mk (hbox); have GW1257 := Aside0.mk ((z6 : w.heap.size ≤ gb1257)); have GE1257 := Aside0.mk ((z6 : w.heap.size ≤ gb1257)); replace HB := zs0 hb; clear hb hbox hg; obtain ⟨hcz14_0, hcz14_1, hcz14_2, hfz14_0, hfz14_1, hfz14_2⟩ := zc3 BK1257.out) | ((with_reducible refine gate_callee (f := 79) rfl ?_); refine goesL_ (some 8) rfl rfl Try.func79 (by kernel_rfl) rfl #[.slice A0_0 l0_0.length c0_0, .int .i64 a1] rfl z2 ?_; (with_reducible refine (laws_szIntS.calls _ _ l0_0 a1 t1258 _ ?side1 ?side2 A3.out).mono ?_); (case side1 => exact zC (Kd.C_below HR0_0.out HB.out)); (case side2 => exact HC0_0.out); rintro e w' ⟨rfl, ⟨nd, rfl⟩⟩; refine ⟨_, rfl, ?_⟩) | ((with_reducible refine gate_callee (f := 79) rfl ?_); refine goesL_ (some 14) rfl rfl Try.func79 (by kernel_rfl) rfl #[.slice A0_1 l0_1.length c0_1, .int .i64 t1258] rfl z2 ?_; (with_reducible refine (laws_szIntS.calls _ _ l0_1 t1258 t1259 _ ?side1 ?side2 A7.out).mono ?_); (case side1 => repeat (first | exact (Kd.C_below HR0_1.out (zH1 GE1257.out)) | (with_reducible refine Kd.C_alloc ?_ _) | (with_reducible refine Kd.C_drewN ?_ _) | (with_reducible refine Kd.C_drew ?_))); (case side2 => exact HC0_1.out); rintro e w' ⟨rfl, ⟨nd, rfl⟩⟩; refine ⟨_, rfl, ?_⟩) | ((with_reducible refine gate_callee (f := 79) rfl ?_); refine goesL_ (some 20) rfl rfl Try.func79 (by kernel_rfl) rfl #[.slice A0_2 l0_2.length c0_2, .int .i64 t1259] rfl z2 ?_; (with_reducible refine (laws_szIntS.calls _ _ l0_2 t1259 t1260 _ ?side1 ?side2 A11.out).mono ?_); (case side1 => repeat (first | exact (Kd.C_below HR0_2.out (zH1 GE1257.out)) | (with_reducible refine Kd.C_alloc ?_ _) | (with_reducible refine Kd.C_drewN ?_ _) | (with_reducible refine Kd.C_drew ?_))); (case side2 => exact HC0_2.out); rintro e w' ⟨rfl, ⟨nd, rfl⟩⟩; refine ⟨_, rfl, ?_⟩))
       go_ret
       exact ⟨z5, (zH1 GE1257.out)⟩
     · rw [if_neg c12] at H
       have c12b0 : decide (t1260 < 0) = false := decide_eq_false c12
       clear c12
       obtain rfl := Option.some.inj H
       go_enter Try.func22, Try.ntmps22
       go_wp2_with (first | ((with_reducible refine gate_dst (N := 2) rfl ?_); refine box_event ?hg (N := 2) ?hd (cs := #[.slice A0_0 l0_0.length c0_0, .slice A0_1 l0_1.length c0_1, .slice A0_2 l0_2.length c0_2]) (t := 39) ?hr ?_; (case hd => rfl); (case hg => rfl); (case hr => first | (go_simp; done) | (go_simp; rfl)); intro gb1257 hg w15 hbox hb; have BK1257 := Aside0.mk (hbox); have GW1257 := Aside0.mk ((z6 : w.heap.size ≤ gb1257)); have GE1257 := Aside0.mk ((z6 : w.heap.size ≤ gb1257)); replace HB := zs0 hb; clear hb hbox hg; obtain ⟨hcz16_0, hcz16_1, hcz16_2, hfz16_0, hfz16_1, hfz16_2⟩ := zc3 BK1257.out) | ((with_reducible refine gate_callee (f := 79) rfl ?_); refine goesL_ (some 8) rfl rfl Try.func79 (by kernel_rfl) rfl #[.slice A0_0 l0_0.length c0_0, .int .i64 a1] rfl z2 ?_; (with_reducible refine (laws_szIntS.calls _ _ l0_0 a1 t1258 _ ?side1 ?side2 A3.out).mono ?_); (case side1 => exact zC (Kd.C_below HR0_0.out HB.out)); (case side2 => exact HC0_0.out); rintro e w' ⟨rfl, ⟨nd, rfl⟩⟩; refine ⟨_, rfl, ?_⟩) | ((with_reducible refine gate_callee (f := 79) rfl ?_); refine goesL_ (some 14) rfl rfl Try.func79 (by kernel_rfl) rfl #[.slice A0_1 l0_1.length c0_1, .int .i64 t1258] rfl z2 ?_; (with_reducible refine (laws_szIntS.calls _ _ l0_1 t1258 t1259 _ ?side1 ?side2 A7.out).mono ?_); (case side1 => repeat (first | exact (Kd.C_below HR0_1.out (zH1 GE1257.out)) | (with_reducible refine Kd.C_alloc ?_ _) | (with_reducible refine Kd.C_drewN ?_ _) | (with_reducible refine Kd.C_drew ?_))); (case side2 => exact HC0_1.out); rintro e w' ⟨rfl, ⟨nd, rfl⟩⟩; refine ⟨_, rfl, ?_⟩) | ((with_reducible refine gate_callee (f := 79) rfl ?_); refine goesL_ (some 20) rfl rfl Try.func79 (by kernel_rfl) rfl #[.slice A0_2 l0_2.length c0_2, .int .i64 t1259] rfl z2 ?_; (with_reducible refine (laws_szIntS.calls _ _ l0_2 t1259 t1260 _ ?side1 ?side2 A11.out).mono ?_); (case side1 => repeat (first | exact (Kd.C_below HR0_2.out (zH1 GE1257.out)) | (with_reducible refine Kd.C_alloc ?_ _) | (with_reducible refine Kd.C_drewN ?_ _) | (with_reducible refine Kd.C_drew ?_))); (case side2 => exact HC0_2.out); rintro e w' ⟨rfl, ⟨nd, rfl⟩⟩; refine ⟨_, rfl, ?_⟩))
       go_ret
       exact ⟨z5, (zH1 GE1257.out)⟩
def laws_toIntS.l0 : Nat → List Int → List Int → Int → Option (List Int)
 | 0, _, _, _ => none
 | k + 1, x0, x3, x4 => if x4 < (x0.length : Int) then (if 0 ≤ x4 then (if x4 < (x3.length : Int) then (laws_toIntS.l0 k x0 (x3.set (x4 : Int).toNat (rd x0 x4)) (wrap64 (x4 + 1))) else (none)) else (none)) else (some x3)
def laws_toIntS.f (k : Nat) (l0 : List Int) : Option (List Int) := if 0 ≤ (l0.length : Int) then (if ((l0.length : Int) : Int).toNat ≤ 35184372088832 then (laws_toIntS.l0 k l0 (List.replicate ((l0.length : Int) : Int).toNat 0) 0) else (none)) else (none)
set_option maxHeartbeats 8000000 in
set_option maxRecDepth 100000 in
theorem laws_toIntS.calls (k : Nat) (A0 : Option Addr) (c0 : Nat) (l0 : List Int) (r : List Int) (w : World) (hr0 : Kd.C (Kd.int .i64) w A0 l0.length l0) (hc0 : l0.length ≤ c0) (h : laws_toIntS.f k l0 = some r) :
 Calls Try.prog 80 #[.slice A0 l0.length c0] w fun e w' => ∃ v0_ : Value, e = .returned (v0_) ∧ Kd.R (Kd.int .i64) 3 w' w.heap.size (fun _ => True) v0_ r ∧ Below w.heap.size w w' := by
 have HR0 := Aside0.mk hr0
 have HC0 := Aside0.mk hc0
 clear hr0 hc0
 have HB := Aside0.mk (Below.refl w.heap.size w)
 have H : (if 0 ≤ (l0.length : Int) then (if ((l0.length : Int) : Int).toNat ≤ 35184372088832 then (laws_toIntS.l0 k l0 (List.replicate ((l0.length : Int) : Int).toNat 0) 0) else (none)) else (none)) = some r := h
 clear h
 by_cases c2 : 0 ≤ (l0.length : Int)
 · rw [if_pos c2] at H
   have c2b0 := eq_true c2
   have c2b1 : decide (0 ≤ (l0.length : Int)) = true := decide_eq_true c2
   clear c2
   by_cases c3 : ((l0.length : Int) : Int).toNat ≤ 35184372088832
   · rw [if_pos c3] at H
     have c3b0 := eq_true c3
     have c3b1 : decide (((l0.length : Int) : Int).toNat ≤ 35184372088832) = true := decide_eq_true c3
     clear c3
     obtain ⟨y1261, hy1261⟩ : ∃ y_ : List Int, y_ = (List.replicate ((l0.length : Int) : Int).toNat 0) := ⟨_, rfl⟩
     replace H : (laws_toIntS.l0 k l0 y1261 0) = some r := zY hy1261
     have Ny1261 := Aside0.mk hy1261
     clear hy1261
     have H' := Aside0.mk H
     clear H
     go_enter Try.func80, Try.ntmps80
     go_wp2_with (first | ((with_reducible refine gate_dst (N := 7) rfl ?_); refine Kd.R_make (Kd.int .i64) _ 3 rfl (N := 7) rfl 24 _ _ rfl (l0.length : Int) rfl rfl Try.underlying24 (.int .i64 0) 8 info3 rfl (by decide) (by omega) 0 (ok := fun _ => True) (okp := fun _ => True) rfl (fun _ hk => hk) trivial (of_decide_eq_true z1) (Nat.le_trans (Nat.mul_le_mul_right _ (of_decide_eq_true z1 : (l0.length : Int).toNat ≤ 35184372088832)) (by omega)) (Below.refl _ _) (Nat.le_refl _) ?_; intro v1262 w4 ho5 hb hg_ hnew_; clear hg_ hnew_; (first | rw [← Ny1261.out] at ho5 | (simp only [Int.reduceToNat] at ho5; rw [← Ny1261.out] at ho5)); have HO1263 := Aside0.mk (Kd.R_lower ho5 (below_size zH0)); replace HB := zs0 hb; clear hb ho5))
     go_loopg [4] k (fun kq v4 w' => ∃ (x3_1 : List Int) (x4_1 : Int), v4 = .int .i64 x4_1 ∧ Aside0 (laws_toIntS.l0 kq l0 x3_1 x4_1 = some r) ∧ Aside0 (kq ≤ k) ∧ Aside0 (Kd.R (Kd.int .i64) 3 w' w.heap.size (fun _ => True) v1262 x3_1) ∧ Aside0 (Below w.heap.size w w'))
     case atStart => exact ⟨(y1261), (0), z3, H', ⟨Nat.le_refl _⟩, ⟨(zR HO1263.out)⟩, ⟨zH0⟩⟩
     case round =>
      clear H'
      try clear c2
      try clear c2b0
      try clear c2b1
      try clear p2
      try clear c3
      try clear c3b0
      try clear c3b1
      obtain ⟨x3_1, x4_1, rfl, HA, HK1, HO_3, HB⟩ := hrel
      cases gk with
      | zero => exact absurd HA.out (by simp [laws_toIntS.l0])
      | succ k1 =>
       have H := HA.out
       clear HA
       simp only [laws_toIntS.l0] at H
       by_cases c6 : x4_1 < (l0.length : Int)
       · rw [if_pos c6] at H
         have c6b0 : decide (x4_1 < (l0.length : Int)) = true := decide_eq_true c6
         clear c6
         by_cases c7 : 0 ≤ x4_1
         · rw [if_pos c7] at H
           have c7b0 : decide (0 ≤ x4_1) = true := decide_eq_true c7
           clear c7
           by_cases c8 : x4_1 < (x3_1.length : Int)
           · rw [if_pos c8] at H
             have c8b0 : decide (x4_1 < (x3_1.length : Int)) = true := decide_eq_true c8
             clear c8
             obtain ⟨y1265, hy1265⟩ : ∃ y_ : List Int, y_ = (x3_1.set (x4_1 : Int).toNat (rd l0 x4_1)) := ⟨_, rfl⟩
             replace H : (laws_toIntS.l0 k1 l0 y1265 (wrap64 (x4_1 + 1))) = some r := zY hy1265
             have Ny1265 := Aside0.mk hy1265
             clear hy1265
             have H' := Aside0.mk H
             clear H
             have p1264 : 0 ≤ (x4_1 : Int) := of_decide_eq_true z1
             have q1264 : x4_1 < (l0.length : Int) := of_decide_eq_true z1
             obtain ⟨ad1264, e1264, hx1264_0⟩ := Kd.at_int HR0.out x4_1 p1264 q1264
             cases e1264
             replace hx1264_0 := (HB.out.cell (World.block_lt_of_cell? w _ hx1264_0)).trans hx1264_0
             replace p1264 := eq_true p1264
             replace q1264 := eq_true q1264
             have p9 : 0 ≤ (x4_1 : Int) := of_decide_eq_true z1
             have q9 : (x4_1 : Int) < ((x3_1.length : Int) : Int) := of_decide_eq_true z1
             obtain ⟨go9, co9, eo9, gb9, gl9, cl9, HG9⟩ := Kd.R_form HO_3.out (by omega)
             (first | cases eo9 | (injection eo9 with ea_ en_ ec_; (first | subst ea_ | (injection ea_ with ea_; subst ea_)); subst ec_; clear en_))
             have GB9 := Aside0.mk gb9
             have GG9 := Aside0.mk HG9
             clear gb9 gl9 HG9
             obtain ⟨hx9_0, hf9_0⟩ := Kd.R_celln 0 HO_3.out (x4_1 : Int) p9 q9
             replace p9 := eq_true p9
             replace q9 := eq_true q9
             have HP10 := Kd.R_putg HO_3.out (x4_1 : Int) (rd l0 x4_1)
             go_wp2_with (first | ((with_reducible refine gate_store (t := 3) (p := 20) rfl ?_); refine store_event (t := 3) (p := 20) (v := ?vo_w11) (w1 := (wr.setCell ⟨go9, (x4_1 : Int).toNat, none⟩ (.int .i64 (rd l0 x4_1)))) ?hg ?ho ?hn ?hr ?_; (case ho => rfl); (case hg => rfl); (case hn => rfl); (case hr => first | (go_simp; done) | (go_simp; rfl)); intro w11 hw; have hg : wr.grownBy w11 (some go9) := (by rw [hw]; exact HP10.2); have hp_ : Kd.R (Kd.int .i64) 3 w11 w.heap.size (fun _ => True) (.slice (some ⟨go9, 0, none⟩) x3_1.length co9) y1265 := (by rw [hw, Ny1265.out]; exact HP10.1); clear HP10; replace HO_3 := Aside0.mk (hp_); replace HB := Aside0.mk ((by rw [hw]; exact below_set (HB.out) GB9.out : Below w.heap.size w w11)); clear hg hw hp_))
             go_roundg k1
             case measure => have := HK1.out; omega
             case rel => exact ⟨(y1265), (wrap64 (x4_1 + 1)), z3, H', ⟨z21⟩, ⟨(zR HO_3.out)⟩, ⟨zH0⟩⟩
           · rw [if_neg c8] at H
             exact absurd H (by simp)
         · rw [if_neg c7] at H
           exact absurd H (by simp)
       · rw [if_neg c6] at H
         have c6b0 : decide (x4_1 < (l0.length : Int)) = false := decide_eq_false c6
         clear c6
         obtain rfl := Option.some.inj H
         go_wp2
         go_ret
         exact ⟨_, z5, (zR HO_3.out), zH0⟩
   · rw [if_neg c3] at H
     exact absurd H (by simp)
 · rw [if_neg c2] at H
   exact absurd H (by simp)
def laws_toChain.f (k : Nat) (l0_0 : List Int) (l0_1 : List Int) (l0_2 : List Int) : Option (List Int × List Int × List Int) := (laws_toIntS.f k l0_0).bind fun t1269 => ((laws_toIntS.f k l0_1).bind fun t1272 => ((laws_toIntS.f k l0_2).bind fun t1275 => (some (t1269, t1272, t1275))))
set_option maxHeartbeats 8000000 in
set_option maxRecDepth 100000 in
theorem laws_toChain.calls (k : Nat) (A0_0 : Option Addr) (c0_0 : Nat) (l0_0 : List Int) (A0_1 : Option Addr) (c0_1 : Nat) (l0_1 : List Int) (A0_2 : Option Addr) (c0_2 : Nat) (l0_2 : List Int) (r1 : List Int) (r2 : List Int) (r3 : List Int) (w : World) (hr0_0 : Kd.C (Kd.int .i64) w A0_0 l0_0.length l0_0) (hc0_0 : l0_0.length ≤ c0_0) (hr0_1 : Kd.C (Kd.int .i64) w A0_1 l0_1.length l0_1) (hc0_1 : l0_1.length ≤ c0_1) (hr0_2 : Kd.C (Kd.int .i64) w A0_2 l0_2.length l0_2) (hc0_2 : l0_2.length ≤ c0_2) (h : laws_toChain.f k l0_0 l0_1 l0_2 = some (r1, r2, r3)) :
 Calls Try.prog 23 #[.agg #[.slice A0_0 l0_0.length c0_0, .slice A0_1 l0_1.length c0_1, .slice A0_2 l0_2.length c0_2]] w fun e w' => ∃ v0_ v1_ v2_ : Value, e = .returned (.agg #[v0_, v1_, v2_]) ∧ Kd.R (Kd.int .i64) 3 w' w.heap.size (fun k_ => some k_ ≠ (v1_ : Value).ownBlock ∧ some k_ ≠ (v2_ : Value).ownBlock) v0_ r1 ∧ Kd.R (Kd.int .i64) 3 w' w.heap.size (fun k_ => some k_ ≠ (v0_ : Value).ownBlock ∧ some k_ ≠ (v2_ : Value).ownBlock) v1_ r2 ∧ Kd.R (Kd.int .i64) 3 w' w.heap.size (fun k_ => some k_ ≠ (v0_ : Value).ownBlock ∧ some k_ ≠ (v1_ : Value).ownBlock) v2_ r3 ∧ Below w.heap.size w w' := by
 have hu39 := Try.underlying39
 have hu26 := Try.underlying26
 have HR0_0 := Aside0.mk hr0_0
 have HC0_0 := Aside0.mk hc0_0
 clear hr0_0 hc0_0
 have HR0_1 := Aside0.mk hr0_1
 have HC0_1 := Aside0.mk hc0_1
 clear hr0_1 hc0_1
 have HR0_2 := Aside0.mk hr0_2
 have HC0_2 := Aside0.mk hc0_2
 clear hr0_2 hc0_2
 have HB := Aside0.mk (Below.refl w.heap.size w)
 have H : ((laws_toIntS.f k l0_0).bind fun t1269 => ((laws_toIntS.f k l0_1).bind fun t1272 => ((laws_toIntS.f k l0_2).bind fun t1275 => (some (t1269, t1272, t1275))))) = some (r1, r2, r3) := h
 clear h
 replace H := Option.bind_eq_some_iff.mp H
 obtain ⟨t1269, A20, H⟩ := H
 replace H : ((laws_toIntS.f k l0_1).bind fun t1272 => ((laws_toIntS.f k l0_2).bind fun t1275 => (some (t1269, t1272, t1275)))) = some (r1, r2, r3) := H
 have A2 := Aside0.mk A20
 clear A20
 replace H := Option.bind_eq_some_iff.mp H
 obtain ⟨t1272, A30, H⟩ := H
 replace H : ((laws_toIntS.f k l0_2).bind fun t1275 => (some (t1269, t1272, t1275))) = some (r1, r2, r3) := H
 have A3 := Aside0.mk A30
 clear A30
 replace H := Option.bind_eq_some_iff.mp H
 obtain ⟨t1275, A40, H⟩ := H
 replace H : (some (t1269, t1272, t1275)) = some (r1, r2, r3) := H
 have A4 := Aside0.mk A40
 clear A40
 simp only [Option.some.injEq, Prod.mk.injEq] at H
 obtain ⟨rfl, rfl, rfl⟩ := H
 go_enter Try.func23, Try.ntmps23
 go_wp2_with (first | ((with_reducible refine gate_dst (N := 1) rfl ?_); refine box_event ?hg (N := 1) ?hd (cs := #[.slice A0_0 l0_0.length c0_0, .slice A0_1 l0_1.length c0_1, .slice A0_2 l0_2.length c0_2]) (t := 39) ?hr ?_; (case hd => rfl); (case hg => rfl); (case hr => first | (go_simp; done) | (go_simp; rfl)); intro gb1266 hg w5 hbox hb; have BK1266 := Aside0.mk (hbox); have GW1266 := Aside0.mk ((z6 : w.heap.size ≤ gb1266)); have GE1266 := Aside0.mk ((z6 : w.heap.size ≤ gb1266)); replace HB := zs0 hb; clear hb hbox hg) | ((with_reducible refine gate_dst (N := 2) rfl ?_); refine box_event ?hg (N := 2) ?hd (cs := #[.slice none 0 0, .slice none 0 0, .slice none 0 0]) (t := 26) ?hr ?_; (case hd => rfl); (case hg => rfl); (case hr => first | (go_simp; done) | (go_simp; rfl)); intro gb1267 hg w6 hbox hb; have BK1267 := Aside0.mk (hbox); have GW1267 := Aside0.mk ((by rw [hg]; exact (below_size (zH1 GE1266.out)) : w.heap.size ≤ gb1267)); have GE1267 := Aside0.mk ((by rw [hg]; exact (below_size (zH1 GE1266.out)) : w.heap.size ≤ gb1267)); have NB1266_1267 := Aside0.mk ((by rw [hg]; exact Nat.ne_of_lt (blk_lt (g := gb1266) (o := .cells #[.slice A0_0 l0_0.length c0_0, .slice A0_1 l0_1.length c0_1, .slice A0_2 l0_2.length c0_2] 39 (0, 0)) (zB BK1266.out)) : gb1266 ≠ gb1267)); have NB1267_1266 := Aside0.mk ((by rw [hg]; exact Nat.ne_of_gt (blk_lt (g := gb1266) (o := .cells #[.slice A0_0 l0_0.length c0_0, .slice A0_1 l0_1.length c0_1, .slice A0_2 l0_2.length c0_2] 39 (0, 0)) (zB BK1266.out)) : gb1267 ≠ gb1266)); replace BK1266 := zb BK1266 hb; replace HB := zs1 GE1266.out hb; clear hb hbox hg) | ((with_reducible refine gate_dst (N := 3) rfl ?_); refine box_event ?hg (N := 3) ?hd (cs := #[.slice none 0 0, .slice none 0 0, .slice none 0 0]) (t := 26) ?hr ?_; (case hd => rfl); (case hg => rfl); (case hr => first | (go_simp; done) | (go_simp; rfl)); intro gb1268 hg w7 hbox hb; have BK1268 := Aside0.mk (hbox); have GW1268 := Aside0.mk ((by rw [hg]; exact (below_size (zH2 GE1266.out GE1267.out)) : w.heap.size ≤ gb1268)); have GE1268 := Aside0.mk ((by rw [hg]; exact (below_size (zH2 GE1266.out GE1267.out)) : w.heap.size ≤ gb1268)); have NB1266_1268 := Aside0.mk ((by rw [hg]; exact Nat.ne_of_lt (blk_lt (g := gb1266) (o := .cells #[.slice A0_0 l0_0.length c0_0, .slice A0_1 l0_1.length c0_1, .slice A0_2 l0_2.length c0_2] 39 (0, 0)) (zB BK1266.out)) : gb1266 ≠ gb1268)); have NB1268_1266 := Aside0.mk ((by rw [hg]; exact Nat.ne_of_gt (blk_lt (g := gb1266) (o := .cells #[.slice A0_0 l0_0.length c0_0, .slice A0_1 l0_1.length c0_1, .slice A0_2 l0_2.length c0_2] 39 (0, 0)) (zB BK1266.out)) : gb1268 ≠ gb1266)); have NB1267_1268 := Aside0.mk ((by rw [hg]; exact Nat.ne_of_lt (blk_lt (g := gb1267) (o := .cells #[.slice none 0 0, .slice none 0 0, .slice none 0 0] 26 (0, 0)) (zB BK1267.out)) : gb1267 ≠ gb1268)); have NB1268_1267 := Aside0.mk ((by rw [hg]; exact Nat.ne_of_gt (blk_lt (g := gb1267) (o := .cells #[.slice none 0 0, .slice none 0 0, .slice none 0 0] 26 (0, 0)) (zB BK1267.out)) : gb1268 ≠ gb1267)); replace BK1266 := zb BK1266 hb; replace BK1267 := zb BK1267 hb; replace HB := zs2 GE1266.out GE1267.out hb; clear hb hbox hg; have hnb8 := NB1266_1267.out; have hnc8 := NB1267_1266.out; have hnb9 := NB1266_1268.out; have hnc9 := NB1268_1266.out; obtain ⟨hcz10_0, hcz10_1, hcz10_2, hfz10_0, hfz10_1, hfz10_2⟩ := zc3 BK1266.out) | ((with_reducible refine gate_callee (f := 80) rfl ?_); refine goesL_ (some 6) rfl rfl Try.func80 (by kernel_rfl) rfl #[.slice A0_0 l0_0.length c0_0] rfl z2 ?_; (with_reducible refine (laws_toIntS.calls k _ _ l0_0 t1269 _ ?side1 ?side2 A2.out).mono ?_); (case side1 => exact zC (Kd.C_below HR0_0.out HB.out)); (case side2 => exact HC0_0.out); rintro e w11 ⟨v1270, rfl, ho0, hb⟩; refine ⟨_, rfl, ?_⟩; have HO1271 := Aside0.mk (Kd.R_lower ho0 (below_size (zH3 GE1266.out GE1267.out GE1268.out))); replace BK1266 := zb BK1266 hb; replace BK1267 := zb BK1267 hb; replace BK1268 := zb BK1268 hb; replace HB := zs3 GE1266.out GE1267.out GE1268.out hb; (try clear hb); (try clear hb2); (try clear hk); (try clear hi); (try clear ho0); obtain ⟨Ao12, co12, eo12⟩ := Kd.R_slice HO1271.out; subst eo12; have hnb13 := NB1268_1267.out; have hnc13 := NB1267_1268.out; obtain ⟨hcz14_0, hcz14_1, hcz14_2, hfz14_0, hfz14_1, hfz14_2⟩ := zc3 BK1268.out; obtain ⟨hcz15_0, hcz15_1, hcz15_2, hfz15_0, hfz15_1, hfz15_2⟩ := zc3 BK1266.out) | ((with_reducible refine gate_callee (f := 80) rfl ?_); refine goesL_ (some 10) rfl rfl Try.func80 (by kernel_rfl) rfl #[.slice A0_1 l0_1.length c0_1] rfl z2 ?_; (with_reducible refine (laws_toIntS.calls k _ _ l0_1 t1272 _ ?side1 ?side2 A3.out).mono ?_); (case side1 => exact Kd.C_below HR0_1.out (zH3 GE1266.out GE1267.out GE1268.out)); (case side2 => exact HC0_1.out); rintro e w16 ⟨v1273, rfl, ho0, hb⟩; refine ⟨_, rfl, ?_⟩; have HO1274 := Aside0.mk (Kd.R_lower (Kd.R_new' ho0 (Kd.R_lt (by (with_reducible repeat (first | apply Kd.R_alloc | apply Kd.R_drewN | apply Kd.R_drew)); exact (Kd.R_mono (Kd.R_far (p := ⟨gb1268, 0, none⟩) (Kd.R_types HO1271.out BK1268.out (by decide)) (fun _ hk => hk.2) (.slice Ao12 t1269.length co12)) (fun _ h_ => h_.1))))) (below_size (zH3 GE1266.out GE1267.out GE1268.out))); replace HO1271 := Aside0.mk (Kd.R_elder' (by (with_reducible repeat (first | apply Kd.R_alloc | apply Kd.R_drewN | apply Kd.R_drew)); exact (Kd.R_mono (Kd.R_far (p := ⟨gb1268, 0, none⟩) (Kd.R_types HO1271.out BK1268.out (by decide)) (fun _ hk => hk.2) (.slice Ao12 t1269.length co12)) (fun _ h_ => h_.1))) (Kd.R_base ho0) hb); replace BK1266 := Aside0.mk (blk_below (g := gb1266) (o := .cells #[.slice A0_0 l0_0.length c0_0, .slice A0_1 l0_1.length c0_1, .slice A0_2 l0_2.length c0_2] 39 (0, 0)) (by (with_reducible repeat (first | refine blk_drewN ?_ _ | refine blk_drew ?_ | refine blk_alloc ?_ _)); refine blk_far ?_ NB1266_1268.out _; (with_reducible repeat (first | refine blk_drewN ?_ _ | refine blk_drew ?_ | refine blk_alloc ?_ _)); exact BK1266.out) hb); replace BK1267 := Aside0.mk (blk_below (g := gb1267) (o := .cells #[.slice none 0 0, .slice none 0 0, .slice none 0 0] 26 (0, 0)) (by (with_reducible repeat (first | refine blk_drewN ?_ _ | refine blk_drew ?_ | refine blk_alloc ?_ _)); refine blk_far ?_ NB1267_1268.out _; (with_reducible repeat (first | refine blk_drewN ?_ _ | refine blk_drew ?_ | refine blk_alloc ?_ _)); exact BK1267.out) hb); replace BK1268 := Aside0.mk (blk_below (g := gb1268) (o := .cells #[.slice Ao12 t1269.length co12, .slice none 0 0, .slice none 0 0] 26 (0, 0)) (by (with_reducible repeat (first | refine blk_drewN ?_ _ | refine blk_drew ?_ | refine blk_alloc ?_ _)); refine blk_put (cs := #[.slice none 0 0, .slice none 0 0, .slice none 0 0]) ?_ 0 _ rfl; (with_reducible repeat (first | refine blk_drewN ?_ _ | refine blk_drew ?_ | refine blk_alloc ?_ _)); exact BK1268.out) hb); replace HB := zs3 GE1266.out GE1267.out GE1268.out hb; (try clear hb); (try clear hb2); (try clear hk); (try clear hi); (try clear ho0); obtain ⟨Ao17, co17, eo17⟩ := Kd.R_slice HO1274.out; subst eo17; obtain ⟨hcz18_0, hcz18_1, hcz18_2, hfz18_0, hfz18_1, hfz18_2⟩ := zc3 BK1268.out; obtain ⟨hcz19_0, hcz19_1, hcz19_2, hfz19_0, hfz19_1, hfz19_2⟩ := zc3 BK1266.out) | ((with_reducible refine gate_callee (f := 80) rfl ?_); refine goesL_ (some 14) rfl rfl Try.func80 (by kernel_rfl) rfl #[.slice A0_2 l0_2.length c0_2] rfl z2 ?_; (with_reducible refine (laws_toIntS.calls k _ _ l0_2 t1275 _ ?side1 ?side2 A4.out).mono ?_); (case side1 => exact Kd.C_below HR0_2.out (zH3 GE1266.out GE1267.out GE1268.out)); (case side2 => exact HC0_2.out); rintro e w20 ⟨v1276, rfl, ho0, hb⟩; refine ⟨_, rfl, ?_⟩; have HO1277 := Aside0.mk (Kd.R_lower (Kd.R_new' (Kd.R_new' ho0 (Kd.R_lt (by (with_reducible repeat (first | apply Kd.R_alloc | apply Kd.R_drewN | apply Kd.R_drew)); exact (Kd.R_mono (Kd.R_far (p := ⟨gb1268, 1, none⟩) (Kd.R_types HO1271.out BK1268.out (by decide)) (fun _ hk => hk.2) (.slice Ao17 t1272.length co17)) (fun _ h_ => h_.1))))) (Kd.R_lt (by (with_reducible repeat (first | apply Kd.R_alloc | apply Kd.R_drewN | apply Kd.R_drew)); exact (Kd.R_mono (Kd.R_far (p := ⟨gb1268, 1, none⟩) (Kd.R_types HO1274.out BK1268.out (by decide)) (fun _ hk => hk.2) (.slice Ao17 t1272.length co17)) (fun _ h_ => h_.1))))) (below_size (zH3 GE1266.out GE1267.out GE1268.out))); replace HO1271 := Aside0.mk (Kd.R_elder' (by (with_reducible repeat (first | apply Kd.R_alloc | apply Kd.R_drewN | apply Kd.R_drew)); exact (Kd.R_mono (Kd.R_far (p := ⟨gb1268, 1, none⟩) (Kd.R_types HO1271.out BK1268.out (by decide)) (fun _ hk => hk.2) (.slice Ao17 t1272.length co17)) (fun _ h_ => h_.1))) (Kd.R_base ho0) hb); replace HO1274 := Aside0.mk (Kd.R_elder' (by (with_reducible repeat (first | apply Kd.R_alloc | apply Kd.R_drewN | apply Kd.R_drew)); exact (Kd.R_mono (Kd.R_far (p := ⟨gb1268, 1, none⟩) (Kd.R_types HO1274.out BK1268.out (by decide)) (fun _ hk => hk.2) (.slice Ao17 t1272.length co17)) (fun _ h_ => h_.1))) (Kd.R_base ho0) hb); replace BK1266 := Aside0.mk (blk_below (g := gb1266) (o := .cells #[.slice A0_0 l0_0.length c0_0, .slice A0_1 l0_1.length c0_1, .slice A0_2 l0_2.length c0_2] 39 (0, 0)) (by (with_reducible repeat (first | refine blk_drewN ?_ _ | refine blk_drew ?_ | refine blk_alloc ?_ _)); refine blk_far ?_ NB1266_1268.out _; (with_reducible repeat (first | refine blk_drewN ?_ _ | refine blk_drew ?_ | refine blk_alloc ?_ _)); exact BK1266.out) hb); replace BK1267 := Aside0.mk (blk_below (g := gb1267) (o := .cells #[.slice none 0 0, .slice none 0 0, .slice none 0 0] 26 (0, 0)) (by (with_reducible repeat (first | refine blk_drewN ?_ _ | refine blk_drew ?_ | refine blk_alloc ?_ _)); refine blk_far ?_ NB1267_1268.out _; (with_reducible repeat (first | refine blk_drewN ?_ _ | refine blk_drew ?_ | refine blk_alloc ?_ _)); exact BK1267.out) hb); replace BK1268 := Aside0.mk (blk_below (g := gb1268) (o := .cells #[.slice Ao12 t1269.length co12, .slice Ao17 t1272.length co17, .slice none 0 0] 26 (0, 0)) (by (with_reducible repeat (first | refine blk_drewN ?_ _ | refine blk_drew ?_ | refine blk_alloc ?_ _)); refine blk_put (cs := #[.slice Ao12 t1269.length co12, .slice none 0 0, .slice none 0 0]) ?_ 1 _ rfl; (with_reducible repeat (first | refine blk_drewN ?_ _ | refine blk_drew ?_ | refine blk_alloc ?_ _)); exact BK1268.out) hb); replace HB := zs3 GE1266.out GE1267.out GE1268.out hb; (try clear hb); (try clear hb2); (try clear hk); (try clear hi); (try clear ho0); obtain ⟨Ao21, co21, eo21⟩ := Kd.R_slice HO1277.out; subst eo21; obtain ⟨hcz22_0, hcz22_1, hcz22_2, hfz22_0, hfz22_1, hfz22_2⟩ := zc3 BK1268.out; obtain ⟨hcz23_0, hcz23_1, hcz23_2, hfz23_0, hfz23_1, hfz23_2⟩ := zc3 BK1267.out))
 refine bodyPost_ret (results_cell_row rfl _ _ gb1267 26 #[.slice Ao12 t1269.length co12, .slice Ao17 t1272.length co17, .slice Ao21 t1275.length co21] (0, 0) _ rfl (by (with_reducible repeat (first | refine blk_drewN ?_ _ | refine blk_drew ?_ | refine blk_alloc ?_ _)); refine blk_put (cs := #[.slice Ao12 t1269.length co12, .slice Ao17 t1272.length co17, .slice none 0 0]) ?_ 2 _ rfl; (with_reducible repeat (first | refine blk_drewN ?_ _ | refine blk_drew ?_ | refine blk_alloc ?_ _)); refine blk_put (cs := #[.slice Ao12 t1269.length co12, .slice none 0 0, .slice none 0 0]) ?_ 1 _ rfl; (with_reducible repeat (first | refine blk_drewN ?_ _ | refine blk_drew ?_ | refine blk_alloc ?_ _)); refine blk_put (cs := #[.slice none 0 0, .slice none 0 0, .slice none 0 0]) ?_ 0 _ rfl; (with_reducible repeat (first | refine blk_drewN ?_ _ | refine blk_drew ?_ | refine blk_alloc ?_ _)); refine blk_far ?_ NB1267_1268.out _; (with_reducible repeat (first | refine blk_drewN ?_ _ | refine blk_drew ?_ | refine blk_alloc ?_ _)); exact BK1267.out) Try.underlying26 rfl (by kernel_rfl)) rfl ?_
 exact ⟨_, _, _, z5, (by (with_reducible repeat (first | apply Kd.R_alloc | apply Kd.R_drewN | apply Kd.R_drew)); exact Kd.R_mono (Kd.R_far (p := ⟨gb1267, 2, none⟩) (Kd.R_far (p := ⟨gb1267, 1, none⟩) (Kd.R_far (p := ⟨gb1267, 0, none⟩) (Kd.R_far (p := ⟨gb1268, 2, none⟩) (Kd.R_types (Kd.R_types HO1271.out BK1268.out (by decide)) BK1267.out (by decide)) (fun _ hk => hk.1.2) (.slice Ao21 t1275.length co21)) (fun _ hk => hk.2) (.slice Ao12 t1269.length co12)) (fun _ hk => hk.2) (.slice Ao17 t1272.length co17)) (fun _ hk => hk.2) (.slice Ao21 t1275.length co21)) (fun _ hk => ⟨hk.1.1.1.2, hk.1.1.2⟩)), (by (with_reducible repeat (first | apply Kd.R_alloc | apply Kd.R_drewN | apply Kd.R_drew)); exact Kd.R_mono (Kd.R_far (p := ⟨gb1267, 2, none⟩) (Kd.R_far (p := ⟨gb1267, 1, none⟩) (Kd.R_far (p := ⟨gb1267, 0, none⟩) (Kd.R_far (p := ⟨gb1268, 2, none⟩) (Kd.R_types (Kd.R_types HO1274.out BK1268.out (by decide)) BK1267.out (by decide)) (fun _ hk => hk.1.2) (.slice Ao21 t1275.length co21)) (fun _ hk => hk.2) (.slice Ao12 t1269.length co12)) (fun _ hk => hk.2) (.slice Ao17 t1272.length co17)) (fun _ hk => hk.2) (.slice Ao21 t1275.length co21)) (fun _ hk => ⟨hk.1.1.1.2, hk.1.1.2⟩)), (by (with_reducible repeat (first | apply Kd.R_alloc | apply Kd.R_drewN | apply Kd.R_drew)); exact Kd.R_mono (Kd.R_far (p := ⟨gb1267, 2, none⟩) (Kd.R_far (p := ⟨gb1267, 1, none⟩) (Kd.R_far (p := ⟨gb1267, 0, none⟩) (Kd.R_far (p := ⟨gb1268, 2, none⟩) (Kd.R_types (Kd.R_types HO1277.out BK1268.out (by decide)) BK1267.out (by decide)) (fun _ hk => hk.1.2) (.slice Ao21 t1275.length co21)) (fun _ hk => hk.2) (.slice Ao12 t1269.length co12)) (fun _ hk => hk.2) (.slice Ao17 t1272.length co17)) (fun _ hk => hk.2) (.slice Ao21 t1275.length co21)) (fun _ hk => ⟨hk.1.1.1.2, hk.1.1.2⟩)), (zH3 GE1266.out GE1267.out GE1268.out)⟩
def laws_eqIntS.l0 : Nat → List Int → List Int → Int → Option (Bool)
 | 0, _, _, _ => none
 | k + 1, x0, x1, x5 => if x5 < (x0.length : Int) then (if 0 ≤ x5 then (if x5 < (x1.length : Int) then (if (rd x0 x5) = (rd x1 x5) then (laws_eqIntS.l0 k x0 x1 (wrap64 (x5 + 1))) else (some false)) else (none)) else (none)) else (some true)
def laws_eqIntS.f (k : Nat) (l0 : List Int) (l1 : List Int) : Option (Bool) := if (l0.length : Int) = (l1.length : Int) then (laws_eqIntS.l0 k l0 l1 0) else (some false)
set_option maxHeartbeats 8000000 in
set_option maxRecDepth 100000 in
theorem laws_eqIntS.calls (k : Nat) (A0 : Option Addr) (c0 : Nat) (l0 : List Int) (A1 : Option Addr) (c1 : Nat) (l1 : List Int) (r : Bool) (w : World) (hr0 : Kd.C (Kd.int .i64) w A0 l0.length l0) (hc0 : l0.length ≤ c0) (hr1 : Kd.C (Kd.int .i64) w A1 l1.length l1) (hc1 : l1.length ≤ c1) (h : laws_eqIntS.f k l0 l1 = some r) :
 Calls Try.prog 81 #[.slice A0 l0.length c0, .slice A1 l1.length c1] w fun e w' => e = .returned (.bool r) ∧ Drawn0 w w' := by
 have HR0 := Aside0.mk hr0
 have HC0 := Aside0.mk hc0
 clear hr0 hc0
 have HR1 := Aside0.mk hr1
 have HC1 := Aside0.mk hc1
 clear hr1 hc1
 have H : (if (l0.length : Int) = (l1.length : Int) then (laws_eqIntS.l0 k l0 l1 0) else (some false)) = some r := h
 clear h
 by_cases c3 : (l0.length : Int) = (l1.length : Int)
 · rw [if_pos c3] at H
   have c3b0 : ((l0.length : Int) == (l1.length : Int)) = true := beq_iff_eq.mpr c3
   have c3b1 : ((l0.length : Int) != (l1.length : Int)) = false := bne_eq_false_iff_eq.mpr c3
   have c3b2 : (l0.length == l1.length) = true := by first | simpa using c3 | (simp at c3 ⊢; omega)
   clear c3
   have H' := Aside0.mk H
   clear H
   go_enter Try.func81, Try.ntmps81
   go_wp2
   repeat (go_quiet (fail); try go_wp2)
   go_loopg [5] k (fun kq v5 w' => ∃ (x5_1 : Int), v5 = .int .i64 x5_1 ∧ Aside0 (laws_eqIntS.l0 kq l0 l1 x5_1 = some r) ∧ Aside0 (kq ≤ k) ∧ Drawn0 w w')
   case atStart => exact ⟨(0), z3, H', ⟨Nat.le_refl _⟩, z4⟩
   case round =>
    clear H'
    try clear c1
    try clear p2
    try clear c3
    try clear c3b0
    try clear c3b1
    try clear c3b2
    obtain ⟨x5_1, rfl, HA, HK1, ⟨m1, rfl⟩⟩ := hrel
    cases gk with
    | zero => exact absurd HA.out (by simp [laws_eqIntS.l0])
    | succ k1 =>
     have H := HA.out
     clear HA
     simp only [laws_eqIntS.l0] at H
     by_cases c4 : x5_1 < (l0.length : Int)
     · rw [if_pos c4] at H
       have c4b0 : decide (x5_1 < (l0.length : Int)) = true := decide_eq_true c4
       clear c4
       by_cases c5 : 0 ≤ x5_1
       · rw [if_pos c5] at H
         have c5b0 : decide (0 ≤ x5_1) = true := decide_eq_true c5
         clear c5
         by_cases c6 : x5_1 < (l1.length : Int)
         · rw [if_pos c6] at H
           have c6b0 : decide (x5_1 < (l1.length : Int)) = true := decide_eq_true c6
           clear c6
           by_cases c7 : (rd l0 x5_1) = (rd l1 x5_1)
           · rw [if_pos c7] at H
             have c7b0 : ((rd l0 x5_1) == (rd l1 x5_1)) = true := beq_iff_eq.mpr c7
             have c7b1 : ((rd l0 x5_1) != (rd l1 x5_1)) = false := bne_eq_false_iff_eq.mpr c7
             clear c7
             have H' := Aside0.mk H
             clear H
             have p1278 : 0 ≤ (x5_1 : Int) := of_decide_eq_true z1
             have q1278 : x5_1 < (l0.length : Int) := of_decide_eq_true z1
             obtain ⟨ad1278, e1278, hx1278_0⟩ := Kd.at_int HR0.out x5_1 p1278 q1278
             cases e1278
             replace p1278 := eq_true p1278
             replace q1278 := eq_true q1278
             have p1279 : 0 ≤ (x5_1 : Int) := of_decide_eq_true z1
             have q1279 : x5_1 < (l1.length : Int) := of_decide_eq_true z1
             obtain ⟨ad1279, e1279, hx1279_0⟩ := Kd.at_int HR1.out x5_1 p1279 q1279
             cases e1279
             replace p1279 := eq_true p1279
             replace q1279 := eq_true q1279
             go_wp2
             repeat (go_quiet (fail); try go_wp2)
             go_roundg k1
             case measure => have := HK1.out; omega
             case rel => exact ⟨(wrap64 (x5_1 + 1)), z3, H', ⟨z21⟩, z4⟩
           · rw [if_neg c7] at H
             have c7b0 : ((rd l0 x5_1) == (rd l1 x5_1)) = false := beq_eq_false_iff_ne.mpr c7
             have c7b1 : ((rd l0 x5_1) != (rd l1 x5_1)) = true := bne_iff_ne.mpr c7
             obtain rfl := Option.some.inj H
             have p1278 : 0 ≤ (x5_1 : Int) := of_decide_eq_true z1
             have q1278 : x5_1 < (l0.length : Int) := of_decide_eq_true z1
             obtain ⟨ad1278, e1278, hx1278_0⟩ := Kd.at_int HR0.out x5_1 p1278 q1278
             cases e1278
             replace p1278 := eq_true p1278
             replace q1278 := eq_true q1278
             have p1279 : 0 ≤ (x5_1 : Int) := of_decide_eq_true z1
             have q1279 : x5_1 < (l1.length : Int) := of_decide_eq_true z1
             obtain ⟨ad1279, e1279, hx1279_0⟩ := Kd.at_int HR1.out x5_1 p1279 q1279
             cases e1279
             replace p1279 := eq_true p1279
             replace q1279 := eq_true q1279
             go_wp2
             repeat (go_quiet (fail); try go_wp2)
             go_ret
             exact ⟨z3, z4⟩
         · rw [if_neg c6] at H
           exact absurd H (by simp)
       · rw [if_neg c5] at H
         exact absurd H (by simp)
     · rw [if_neg c4] at H
       have c4b0 : decide (x5_1 < (l0.length : Int)) = false := decide_eq_false c4
       clear c4
       obtain rfl := Option.some.inj H
       go_wp2
       repeat (go_quiet (fail); try go_wp2)
       go_ret
       exact ⟨z3, z4⟩
 · rw [if_neg c3] at H
   have c3b0 : ((l0.length : Int) == (l1.length : Int)) = false := beq_eq_false_iff_ne.mpr c3
   have c3b1 : ((l0.length : Int) != (l1.length : Int)) = true := bne_iff_ne.mpr c3
   have c3b2 : (l0.length == l1.length) = false := by first | simpa using c3 | (simp at c3 ⊢; omega)
   obtain rfl := Option.some.inj H
   go_enter Try.func81, Try.ntmps81
   go_wp2
   repeat (go_quiet (fail); try go_wp2)
   go_ret
   exact ⟨z3, z4⟩
def laws_eqChain.f (k : Nat) (l0_0 : List Int) (l0_1 : List Int) (l0_2 : List Int) (l1_0 : List Int) (l1_1 : List Int) (l1_2 : List Int) : Option (Bool) := (laws_eqIntS.f k l0_0 l1_0).bind fun t1282 => (if t1282 = true then ((laws_eqIntS.f k l0_1 l1_1).bind fun t1283 => (if t1283 = true then ((laws_eqIntS.f k l0_2 l1_2).bind fun t1284 => (if t1284 = true then (some true) else (some false))) else (some false))) else (some false))
set_option maxHeartbeats 8000000 in
set_option maxRecDepth 100000 in
theorem laws_eqChain.calls (k : Nat) (A0_0 : Option Addr) (c0_0 : Nat) (l0_0 : List Int) (A0_1 : Option Addr) (c0_1 : Nat) (l0_1 : List Int) (A0_2 : Option Addr) (c0_2 : Nat) (l0_2 : List Int) (A1_0 : Option Addr) (c1_0 : Nat) (l1_0 : List Int) (A1_1 : Option Addr) (c1_1 : Nat) (l1_1 : List Int) (A1_2 : Option Addr) (c1_2 : Nat) (l1_2 : List Int) (r : Bool) (w : World) (hr0_0 : Kd.C (Kd.int .i64) w A0_0 l0_0.length l0_0) (hc0_0 : l0_0.length ≤ c0_0) (hr0_1 : Kd.C (Kd.int .i64) w A0_1 l0_1.length l0_1) (hc0_1 : l0_1.length ≤ c0_1) (hr0_2 : Kd.C (Kd.int .i64) w A0_2 l0_2.length l0_2) (hc0_2 : l0_2.length ≤ c0_2) (hr1_0 : Kd.C (Kd.int .i64) w A1_0 l1_0.length l1_0) (hc1_0 : l1_0.length ≤ c1_0) (hr1_1 : Kd.C (Kd.int .i64) w A1_1 l1_1.length l1_1) (hc1_1 : l1_1.length ≤ c1_1) (hr1_2 : Kd.C (Kd.int .i64) w A1_2 l1_2.length l1_2) (hc1_2 : l1_2.length ≤ c1_2) (h : laws_eqChain.f k l0_0 l0_1 l0_2 l1_0 l1_1 l1_2 = some r) :
 Calls Try.prog 24 #[.agg #[.slice A0_0 l0_0.length c0_0, .slice A0_1 l0_1.length c0_1, .slice A0_2 l0_2.length c0_2], .agg #[.slice A1_0 l1_0.length c1_0, .slice A1_1 l1_1.length c1_1, .slice A1_2 l1_2.length c1_2]] w fun e w' => e = .returned (.bool r) ∧ Below w.heap.size w w' := by
 have hu26 := Try.underlying26
 have HR0_0 := Aside0.mk hr0_0
 have HC0_0 := Aside0.mk hc0_0
 clear hr0_0 hc0_0
 have HR0_1 := Aside0.mk hr0_1
 have HC0_1 := Aside0.mk hc0_1
 clear hr0_1 hc0_1
 have HR0_2 := Aside0.mk hr0_2
 have HC0_2 := Aside0.mk hc0_2
 clear hr0_2 hc0_2
 have HR1_0 := Aside0.mk hr1_0
 have HC1_0 := Aside0.mk hc1_0
 clear hr1_0 hc1_0
 have HR1_1 := Aside0.mk hr1_1
 have HC1_1 := Aside0.mk hc1_1
 clear hr1_1 hc1_1
 have HR1_2 := Aside0.mk hr1_2
 have HC1_2 := Aside0.mk hc1_2
 clear hr1_2 hc1_2
 have HB := Aside0.mk (Below.refl w.heap.size w)
 have H : ((laws_eqIntS.f k l0_0 l1_0).bind fun t1282 => (if t1282 = true then ((laws_eqIntS.f k l0_1 l1_1).bind fun t1283 => (if t1283 = true then ((laws_eqIntS.f k l0_2 l1_2).bind fun t1284 => (if t1284 = true then (some true) else (some false))) else (some false))) else (some false))) = some r := h
 clear h
 replace H := Option.bind_eq_some_iff.mp H
 obtain ⟨t1282, A30, H⟩ := H
 replace H : (if t1282 = true then ((laws_eqIntS.f k l0_1 l1_1).bind fun t1283 => (if t1283 = true then ((laws_eqIntS.f k l0_2 l1_2).bind fun t1284 => (if t1284 = true then (some true) else (some false))) else (some false))) else (some false)) = some r := H
 have A3 := Aside0.mk A30
 clear A30
 by_cases c4 : t1282 = true
 · subst c4
   have H1 : ((laws_eqIntS.f k l0_1 l1_1).bind fun t1283 => (if t1283 = true then ((laws_eqIntS.f k l0_2 l1_2).bind fun t1284 => (if t1284 = true then (some true) else (some false))) else (some false))) = some r := by rw [if_pos rfl] at H; exact H
   clear H
   have H := H1
   clear H1
   replace H := Option.bind_eq_some_iff.mp H
   obtain ⟨t1283, A50, H⟩ := H
   replace H : (if t1283 = true then ((laws_eqIntS.f k l0_2 l1_2).bind fun t1284 => (if t1284 = true then (some true) else (some false))) else (some false)) = some r := H
   have A5 := Aside0.mk A50
   clear A50
   by_cases c6 : t1283 = true
   · subst c6
     have H1 : ((laws_eqIntS.f k l0_2 l1_2).bind fun t1284 => (if t1284 = true then (some true) else (some false))) = some r := by rw [if_pos rfl] at H; exact H
     clear H
     have H := H1
     clear H1
     replace H := Option.bind_eq_some_iff.mp H
     obtain ⟨t1284, A70, H⟩ := H
     replace H : (if t1284 = true then (some true) else (some false)) = some r := H
     have A7 := Aside0.mk A70
     clear A70
     by_cases c8 : t1284 = true
     · subst c8
       have H1 : (some true) = some r := by rw [if_pos rfl] at H; exact H
       clear H
       have H := H1
       clear H1
       obtain rfl := Option.some.inj H
       go_enter Try.func24, Try.ntmps24
       go_wp2_with (first | ((with_reducible refine gate_dst (N := 2) rfl ?_); refine box_event ?hg (N := 2) ?hd (cs := #[.slice A0_0 l0_0.length c0_0, .slice A0_1 l0_1.length c0_1, .slice A0_2 l0_2.length c0_2]) (t := 26) ?hr ?_; (case hd => rfl); (case hg => rfl); (case hr => first | (go_simp; done) | (go_simp; rfl)); intro gb1280 hg w9 hbox hb; have BK1280 := Aside0.mk (hbox); have GW1280 := Aside0.mk ((z6 : w.heap.size ≤ gb1280)); have GE1280 := Aside0.mk ((z6 : w.heap.size ≤ gb1280)); replace HB := zs0 hb; clear hb hbox hg) | ((with_reducible refine gate_dst (N := 3) rfl ?_); refine box_event ?hg (N := 3) ?hd (cs := #[.slice A1_0 l1_0.length c1_0, .slice A1_1 l1_1.length c1_1, .slice A1_2 l1_2.length c1_2]) (t := 26) ?hr ?_; (case hd => rfl); (case hg => rfl); (case hr => first | (go_simp; done) | (go_simp; rfl)); intro gb1281 hg w10 hbox hb; have BK1281 := Aside0.mk (hbox); have GW1281 := Aside0.mk ((z39 : w.heap.size ≤ gb1281)); have GE1281 := Aside0.mk ((z39 : w.heap.size ≤ gb1281)); have NB1280_1281 := Aside0.mk ((z27 : gb1280 ≠ gb1281)); have NB1281_1280 := Aside0.mk ((z28 : gb1281 ≠ gb1280)); replace BK1280 := zb BK1280 hb; replace HB := zs1 GE1280.out hb; clear hb hbox hg; have hnb11 := NB1280_1281.out; have hnc11 := NB1281_1280.out; obtain ⟨hcz12_0, hcz12_1, hcz12_2, hfz12_0, hfz12_1, hfz12_2⟩ := zc3 BK1280.out; obtain ⟨hcz13_0, hcz13_1, hcz13_2, hfz13_0, hfz13_1, hfz13_2⟩ := zc3 BK1281.out) | ((with_reducible refine gate_callee (f := 81) rfl ?_); refine goesL_ (some 9) rfl rfl Try.func81 (by kernel_rfl) rfl #[.slice A0_0 l0_0.length c0_0, .slice A1_0 l1_0.length c1_0] rfl z2 ?_; (with_reducible refine (laws_eqIntS.calls k _ _ l0_0 _ _ l1_0 true _ ?side1 ?side2 ?side3 ?side4 A3.out).mono ?_); (case side1 => exact zC (Kd.C_below HR0_0.out HB.out)); (case side2 => exact HC0_0.out); (case side3 => exact zC (Kd.C_below HR1_0.out HB.out)); (case side4 => exact HC1_0.out); rintro e w' ⟨rfl, ⟨nd, rfl⟩⟩; refine ⟨_, rfl, ?_⟩) | ((with_reducible refine gate_callee (f := 81) rfl ?_); refine goesL_ (some 15) rfl rfl Try.func81 (by kernel_rfl) rfl #[.slice A0_1 l0_1.length c0_1, .slice A1_1 l1_1.length c1_1] rfl z2 ?_; (with_reducible refine (laws_eqIntS.calls k _ _ l0_1 _ _ l1_1 true _ ?side1 ?side2 ?side3 ?side4 A5.out).mono ?_); (case side1 => repeat (first | exact (Kd.C_below HR0_1.out (zH2 GE1280.out GE1281.out)) | (with_reducible refine Kd.C_alloc ?_ _) | (with_reducible refine Kd.C_drewN ?_ _) | (with_reducible refine Kd.C_drew ?_))); (case side2 => exact HC0_1.out); (case side3 => repeat (first | exact (Kd.C_below HR1_1.out (zH2 GE1280.out GE1281.out)) | (with_reducible refine Kd.C_alloc ?_ _) | (with_reducible refine Kd.C_drewN ?_ _) | (with_reducible refine Kd.C_drew ?_))); (case side4 => exact HC1_1.out); rintro e w' ⟨rfl, ⟨nd, rfl⟩⟩; refine ⟨_, rfl, ?_⟩) | ((with_reducible refine gate_callee (f := 81) rfl ?_); refine goesL_ (some 21) rfl rfl Try.func81 (by kernel_rfl) rfl #[.slice A0_2 l0_2.length c0_2, .slice A1_2 l1_2.length c1_2] rfl z2 ?_; (with_reducible refine (laws_eqIntS.calls k _ _ l0_2 _ _ l1_2 true _ ?side1 ?side2 ?side3 ?side4 A7.out).mono ?_); (case side1 => repeat (first | exact (Kd.C_below HR0_2.out (zH2 GE1280.out GE1281.out)) | (with_reducible refine Kd.C_alloc ?_ _) | (with_reducible refine Kd.C_drewN ?_ _) | (with_reducible refine Kd.C_drew ?_))); (case side2 => exact HC0_2.out); (case side3 => repeat (first | exact (Kd.C_below HR1_2.out (zH2 GE1280.out GE1281.out)) | (with_reducible refine Kd.C_alloc ?_ _) | (with_reducible refine Kd.C_drewN ?_ _) | (with_reducible refine Kd.C_drew ?_))); (case side4 => exact HC1_2.out); rintro e w' ⟨rfl, ⟨nd, rfl⟩⟩; refine ⟨_, rfl, ?_⟩))
       go_ret
       exact ⟨z5, (zH2 GE1280.out GE1281.out)⟩
     · replace c8 := Bool.eq_false_iff.mpr c8
       subst c8
       have H1 : (some false) = some r := by rw [if_neg (show ¬ (false = true) by decide)] at H; exact H
       clear H
       have H := H1
       clear H1
       obtain rfl := Option.some.inj H
       go_enter Try.func24, Try.ntmps24
       go_wp2_with (first | ((with_reducible refine gate_dst (N := 2) rfl ?_); refine box_event ?hg (N := 2) ?hd (cs := #[.slice A0_0 l0_0.length c0_0, .slice A0_1 l0_1.length c0_1, .slice A0_2 l0_2.length c0_2]) (t := 26) ?hr ?_; (case hd => rfl); (case hg => rfl); (case hr => first | (go_simp; done) | (go_simp; rfl)); intro gb1280 hg w14 hbox hb; have BK1280 := Aside0.mk (hbox); have GW1280 := Aside0.mk ((z6 : w.heap.size ≤ gb1280)); have GE1280 := Aside0.mk ((z6 : w.heap.size ≤ gb1280)); replace HB := zs0 hb; clear hb hbox hg) | ((with_reducible refine gate_dst (N := 3) rfl ?_); refine box_event ?hg (N := 3) ?hd (cs := #[.slice A1_0 l1_0.length c1_0, .slice A1_1 l1_1.length c1_1, .slice A1_2 l1_2.length c1_2]) (t := 26) ?hr ?_; (case hd => rfl); (case hg => rfl); (case hr => first | (go_simp; done) | (go_simp; rfl)); intro gb1281 hg w15 hbox hb; have BK1281 := Aside0.mk (hbox); have GW1281 := Aside0.mk ((z39 : w.heap.size ≤ gb1281)); have GE1281 := Aside0.mk ((z39 : w.heap.size ≤ gb1281)); have NB1280_1281 := Aside0.mk ((z27 : gb1280 ≠ gb1281)); have NB1281_1280 := Aside0.mk ((z28 : gb1281 ≠ gb1280)); replace BK1280 := zb BK1280 hb; replace HB := zs1 GE1280.out hb; clear hb hbox hg; have hnb16 := NB1280_1281.out; have hnc16 := NB1281_1280.out; obtain ⟨hcz17_0, hcz17_1, hcz17_2, hfz17_0, hfz17_1, hfz17_2⟩ := zc3 BK1280.out; obtain ⟨hcz18_0, hcz18_1, hcz18_2, hfz18_0, hfz18_1, hfz18_2⟩ := zc3 BK1281.out) | ((with_reducible refine gate_callee (f := 81) rfl ?_); refine goesL_ (some 9) rfl rfl Try.func81 (by kernel_rfl) rfl #[.slice A0_0 l0_0.length c0_0, .slice A1_0 l1_0.length c1_0] rfl z2 ?_; (with_reducible refine (laws_eqIntS.calls k _ _ l0_0 _ _ l1_0 true _ ?side1 ?side2 ?side3 ?side4 A3.out).mono ?_); (case side1 => exact zC (Kd.C_below HR0_0.out HB.out)); (case side2 => exact HC0_0.out); (case side3 => exact zC (Kd.C_below HR1_0.out HB.out)); (case side4 => exact HC1_0.out); rintro e w' ⟨rfl, ⟨nd, rfl⟩⟩; refine ⟨_, rfl, ?_⟩) | ((with_reducible refine gate_callee (f := 81) rfl ?_); refine goesL_ (some 15) rfl rfl Try.func81 (by kernel_rfl) rfl #[.slice A0_1 l0_1.length c0_1, .slice A1_1 l1_1.length c1_1] rfl z2 ?_; (with_reducible refine (laws_eqIntS.calls k _ _ l0_1 _ _ l1_1 true _ ?side1 ?side2 ?side3 ?side4 A5.out).mono ?_); (case side1 => repeat (first | exact (Kd.C_below HR0_1.out (zH2 GE1280.out GE1281.out)) | (with_reducible refine Kd.C_alloc ?_ _) | (with_reducible refine Kd.C_drewN ?_ _) | (with_reducible refine Kd.C_drew ?_))); (case side2 => exact HC0_1.out); (case side3 => repeat (first | exact (Kd.C_below HR1_1.out (zH2 GE1280.out GE1281.out)) | (with_reducible refine Kd.C_alloc ?_ _) | (with_reducible refine Kd.C_drewN ?_ _) | (with_reducible refine Kd.C_drew ?_))); (case side4 => exact HC1_1.out); rintro e w' ⟨rfl, ⟨nd, rfl⟩⟩; refine ⟨_, rfl, ?_⟩) | ((with_reducible refine gate_callee (f := 81) rfl ?_); refine goesL_ (some 21) rfl rfl Try.func81 (by kernel_rfl) rfl #[.slice A0_2 l0_2.length c0_2, .slice A1_2 l1_2.length c1_2] rfl z2 ?_; (with_reducible refine (laws_eqIntS.calls k _ _ l0_2 _ _ l1_2 false _ ?side1 ?side2 ?side3 ?side4 A7.out).mono ?_); (case side1 => repeat (first | exact (Kd.C_below HR0_2.out (zH2 GE1280.out GE1281.out)) | (with_reducible refine Kd.C_alloc ?_ _) | (with_reducible refine Kd.C_drewN ?_ _) | (with_reducible refine Kd.C_drew ?_))); (case side2 => exact HC0_2.out); (case side3 => repeat (first | exact (Kd.C_below HR1_2.out (zH2 GE1280.out GE1281.out)) | (with_reducible refine Kd.C_alloc ?_ _) | (with_reducible refine Kd.C_drewN ?_ _) | (with_reducible refine Kd.C_drew ?_))); (case side4 => exact HC1_2.out); rintro e w' ⟨rfl, ⟨nd, rfl⟩⟩; refine ⟨_, rfl, ?_⟩))
       go_ret
       exact ⟨z5, (zH2 GE1280.out GE1281.out)⟩
   · replace c6 := Bool.eq_false_iff.mpr c6
     subst c6
     have H1 : (some false) = some r := by rw [if_neg (show ¬ (false = true) by decide)] at H; exact H
     clear H
     have H := H1
     clear H1
     obtain rfl := Option.some.inj H
     go_enter Try.func24, Try.ntmps24
     go_wp2_with (first | ((with_reducible refine gate_dst (N := 2) rfl ?_); refine box_event ?hg (N := 2) ?hd (cs := #[.slice A0_0 l0_0.length c0_0, .slice A0_1 l0_1.length c0_1, .slice A0_2 l0_2.length c0_2]) (t := 26) ?hr ?_; (case hd => rfl); (case hg => rfl); (case hr => first | (go_simp; done) | (go_simp; rfl)); intro gb1280 hg w19 hbox hb; have BK1280 := Aside0.mk (hbox); have GW1280 := Aside0.mk ((z6 : w.heap.size ≤ gb1280)); have GE1280 := Aside0.mk ((z6 : w.heap.size ≤ gb1280)); replace HB := zs0 hb; clear hb hbox hg) | ((with_reducible refine gate_dst (N := 3) rfl ?_); refine box_event ?hg (N := 3) ?hd (cs := #[.slice A1_0 l1_0.length c1_0, .slice A1_1 l1_1.length c1_1, .slice A1_2 l1_2.length c1_2]) (t := 26) ?hr ?_; (case hd => rfl); (case hg => rfl); (case hr => first | (go_simp; done) | (go_simp; rfl)); intro gb1281 hg w20 hbox hb; have BK1281 := Aside0.mk (hbox); have GW1281 := Aside0.mk ((z39 : w.heap.size ≤ gb1281)); have GE1281 := Aside0.mk ((z39 : w.heap.size ≤ gb1281)); have NB1280_1281 := Aside0.mk ((z27 : gb1280 ≠ gb1281)); have NB1281_1280 := Aside0.mk ((z28 : gb1281 ≠ gb1280)); replace BK1280 := zb BK1280 hb; replace HB := zs1 GE1280.out hb; clear hb hbox hg; have hnb21 := NB1280_1281.out; have hnc21 := NB1281_1280.out; obtain ⟨hcz22_0, hcz22_1, hcz22_2, hfz22_0, hfz22_1, hfz22_2⟩ := zc3 BK1280.out; obtain ⟨hcz23_0, hcz23_1, hcz23_2, hfz23_0, hfz23_1, hfz23_2⟩ := zc3 BK1281.out) | ((with_reducible refine gate_callee (f := 81) rfl ?_); refine goesL_ (some 9) rfl rfl Try.func81 (by kernel_rfl) rfl #[.slice A0_0 l0_0.length c0_0, .slice A1_0 l1_0.length c1_0] rfl z2 ?_; (with_reducible refine (laws_eqIntS.calls k _ _ l0_0 _ _ l1_0 true _ ?side1 ?side2 ?side3 ?side4 A3.out).mono ?_); (case side1 => exact zC (Kd.C_below HR0_0.out HB.out)); (case side2 => exact HC0_0.out); (case side3 => exact zC (Kd.C_below HR1_0.out HB.out)); (case side4 => exact HC1_0.out); rintro e w' ⟨rfl, ⟨nd, rfl⟩⟩; refine ⟨_, rfl, ?_⟩) | ((with_reducible refine gate_callee (f := 81) rfl ?_); refine goesL_ (some 15) rfl rfl Try.func81 (by kernel_rfl) rfl #[.slice A0_1 l0_1.length c0_1, .slice A1_1 l1_1.length c1_1] rfl z2 ?_; (with_reducible refine (laws_eqIntS.calls k _ _ l0_1 _ _ l1_1 false _ ?side1 ?side2 ?side3 ?side4 A5.out).mono ?_); (case side1 => repeat (first | exact (Kd.C_below HR0_1.out (zH2 GE1280.out GE1281.out)) | (with_reducible refine Kd.C_alloc ?_ _) | (with_reducible refine Kd.C_drewN ?_ _) | (with_reducible refine Kd.C_drew ?_))); (case side2 => exact HC0_1.out); (case side3 => repeat (first | exact (Kd.C_below HR1_1.out (zH2 GE1280.out GE1281.out)) | (with_reducible refine Kd.C_alloc ?_ _) | (with_reducible refine Kd.C_drewN ?_ _) | (with_reducible refine Kd.C_drew ?_))); (case side4 => exact HC1_1.out); rintro e w' ⟨rfl, ⟨nd, rfl⟩⟩; refine ⟨_, rfl, ?_⟩))
     go_ret
     exact ⟨z5, (zH2 GE1280.out GE1281.out)⟩
 · replace c4 := Bool.eq_false_iff.mpr c4
   subst c4
   have H1 : (some false) = some r := by rw [if_neg (show ¬ (false = true) by decide)] at H; exact H
   clear H
   have H := H1
   clear H1
   obtain rfl := Option.some.inj H
   go_enter Try.func24, Try.ntmps24
   go_wp2_with (first | ((with_reducible refine gate_dst (N := 2) rfl ?_); refine box_event ?hg (N := 2) ?hd (cs := #[.slice A0_0 l0_0.length c0_0, .slice A0_1 l0_1.length c0_1, .slice A0_2 l0_2.length c0_2]) (t := 26) ?hr ?_; (case hd => rfl); (case hg => rfl); (case hr => first | (go_simp; done) | (go_simp; rfl)); intro gb1280 hg w24 hbox hb; have BK1280 := Aside0.mk (hbox); have GW1280 := Aside0.mk ((z6 : w.heap.size ≤ gb1280)); have GE1280 := Aside0.mk ((z6 : w.heap.size ≤ gb1280)); replace HB := zs0 hb; clear hb hbox hg) | ((with_reducible refine gate_dst (N := 3) rfl ?_); refine box_event ?hg (N := 3) ?hd (cs := #[.slice A1_0 l1_0.length c1_0, .slice A1_1 l1_1.length c1_1, .slice A1_2 l1_2.length c1_2]) (t := 26) ?hr ?_; (case hd => rfl); (case hg => rfl); (case hr => first | (go_simp; done) | (go_simp; rfl)); intro gb1281 hg w25 hbox hb; have BK1281 := Aside0.mk (hbox); have GW1281 := Aside0.mk ((z39 : w.heap.size ≤ gb1281)); have GE1281 := Aside0.mk ((z39 : w.heap.size ≤ gb1281)); have NB1280_1281 := Aside0.mk ((z27 : gb1280 ≠ gb1281)); have NB1281_1280 := Aside0.mk ((z28 : gb1281 ≠ gb1280)); replace BK1280 := zb BK1280 hb; replace HB := zs1 GE1280.out hb; clear hb hbox hg; have hnb26 := NB1280_1281.out; have hnc26 := NB1281_1280.out; obtain ⟨hcz27_0, hcz27_1, hcz27_2, hfz27_0, hfz27_1, hfz27_2⟩ := zc3 BK1280.out; obtain ⟨hcz28_0, hcz28_1, hcz28_2, hfz28_0, hfz28_1, hfz28_2⟩ := zc3 BK1281.out) | ((with_reducible refine gate_callee (f := 81) rfl ?_); refine goesL_ (some 9) rfl rfl Try.func81 (by kernel_rfl) rfl #[.slice A0_0 l0_0.length c0_0, .slice A1_0 l1_0.length c1_0] rfl z2 ?_; (with_reducible refine (laws_eqIntS.calls k _ _ l0_0 _ _ l1_0 false _ ?side1 ?side2 ?side3 ?side4 A3.out).mono ?_); (case side1 => exact zC (Kd.C_below HR0_0.out HB.out)); (case side2 => exact HC0_0.out); (case side3 => exact zC (Kd.C_below HR1_0.out HB.out)); (case side4 => exact HC1_0.out); rintro e w' ⟨rfl, ⟨nd, rfl⟩⟩; refine ⟨_, rfl, ?_⟩))
   go_ret
   exact ⟨z5, (zH2 GE1280.out GE1281.out)⟩
def impl_within.f (a0 : Int) (a1 : Int) (a2 : Int) : Option (Bool) := if a0 ≥ a1 then (some (decide (a0 ≤ a2))) else (some false)
set_option maxHeartbeats 8000000 in
set_option maxRecDepth 100000 in
theorem impl_within.calls (a0 : Int) (a1 : Int) (a2 : Int) (r : Bool) (w : World) (h : impl_within.f a0 a1 a2 = some r) :
 Calls Try.prog 85 #[.int .i64 a0, .int .i64 a1, .int .i64 a2] w fun e w' => e = .returned (.bool r) ∧ Drawn0 w w' := by
 have H : (if a0 ≥ a1 then (some (decide (a0 ≤ a2))) else (some false)) = some r := h
 clear h
 by_cases c4 : a0 ≥ a1
 · rw [if_pos c4] at H
   have c4b0 : decide (a1 ≤ a0) = true := decide_eq_true c4
   clear c4
   obtain rfl := Option.some.inj H
   go_enter Try.func85, Try.ntmps85
   go_wp2
   go_ret
   exact ⟨z3, z4⟩
 · rw [if_neg c4] at H
   have c4b0 : decide (a1 ≤ a0) = false := decide_eq_false c4
   clear c4
   obtain rfl := Option.some.inj H
   go_enter Try.func85, Try.ntmps85
   go_wp2
   go_ret
   exact ⟨z3, z4⟩
def impl_allWithin.l0 : Nat → Int → Int → List Int → Int → Int → Option (Bool)
 | 0, _, _, _, _, _ => none
 | k + 1, x1, x2, x9, x10, x11 => if x11 < x10 then (if 0 ≤ x11 then (if x11 < (x9.length : Int) then ((impl_within.f (rd x9 x11) x1 x2).bind fun t287 => (if t287 = true then (impl_allWithin.l0 k x1 x2 x9 x10 (wrap64 (x11 + 1))) else (some false))) else (none)) else (none)) else (some true)
def impl_allWithin.f (k : Nat) (l0 : List Int) (a1 : Int) (a2 : Int) : Option (Bool) := impl_allWithin.l0 k a1 a2 l0 (l0.length : Int) 0
set_option maxHeartbeats 8000000 in
set_option maxRecDepth 100000 in
theorem impl_allWithin.calls (k : Nat) (A0 : Option Addr) (c0 : Nat) (l0 : List Int) (a1 : Int) (a2 : Int) (r : Bool) (w : World) (hr0 : Kd.C (Kd.int .i64) w A0 l0.length l0) (hc0 : l0.length ≤ c0) (h : impl_allWithin.f k l0 a1 a2 = some r) :
 Calls Try.prog 69 #[.slice A0 l0.length c0, .int .i64 a1, .int .i64 a2] w fun e w' => e = .returned (.bool r) ∧ Drawn0 w w' := by
 have HR0 := Aside0.mk hr0
 have HC0 := Aside0.mk hc0
 clear hr0 hc0
 have H : (impl_allWithin.l0 k a1 a2 l0 (l0.length : Int) 0) = some r := h
 clear h
 have H' := Aside0.mk H
 clear H
 go_enter Try.func69, Try.ntmps69
 go_wp2
 go_loopg [11] k (fun kq v11 w' => ∃ (x11_1 : Int), v11 = .int .i64 x11_1 ∧ Aside0 (impl_allWithin.l0 kq a1 a2 l0 (l0.length : Int) x11_1 = some r) ∧ Aside0 (kq ≤ k) ∧ Drawn0 w w')
 case atStart => exact ⟨(0), z3, H', ⟨Nat.le_refl _⟩, z4⟩
 case round =>
  clear H'
  try clear p2
  obtain ⟨x11_1, rfl, HA, HK1, ⟨m1, rfl⟩⟩ := hrel
  cases gk with
  | zero => exact absurd HA.out (by simp [impl_allWithin.l0])
  | succ k1 =>
   have H := HA.out
   clear HA
   simp only [impl_allWithin.l0] at H
   by_cases c4 : x11_1 < (l0.length : Int)
   · rw [if_pos c4] at H
     have c4b0 : decide (x11_1 < (l0.length : Int)) = true := decide_eq_true c4
     clear c4
     by_cases c5 : 0 ≤ x11_1
     · rw [if_pos c5] at H
       have c5b0 : decide (0 ≤ x11_1) = true := decide_eq_true c5
       clear c5
       by_cases c6 : x11_1 < (l0.length : Int)
       · rw [if_pos c6] at H
         have c6b0 : decide (x11_1 < (l0.length : Int)) = true := decide_eq_true c6
         clear c6
         replace H := Option.bind_eq_some_iff.mp H
         obtain ⟨t287, A70, H⟩ := H
         replace H : (if t287 = true then (impl_allWithin.l0 k1 a1 a2 l0 (l0.length : Int) (wrap64 (x11_1 + 1))) else (some false)) = some r := H
         have A7 := Aside0.mk A70
         clear A70
         by_cases c8 : t287 = true
         · subst c8
           have H1 : (impl_allWithin.l0 k1 a1 a2 l0 (l0.length : Int) (wrap64 (x11_1 + 1))) = some r := by rw [if_pos rfl] at H; exact H
           clear H
           have H := H1
           clear H1
           have H' := Aside0.mk H
           clear H
           have p286 : 0 ≤ (x11_1 : Int) := of_decide_eq_true z1
           have q286 : x11_1 < (l0.length : Int) := of_decide_eq_true z1
           obtain ⟨ad286, e286, hx286_0⟩ := Kd.at_int HR0.out x11_1 p286 q286
           cases e286
           replace p286 := eq_true p286
           replace q286 := eq_true q286
           go_wp2_with (first | ((with_reducible refine gate_callee (f := 85) rfl ?_); refine goesL_ (some 18) rfl rfl Try.func85 (by kernel_rfl) rfl #[.int .i64 (rd l0 x11_1), .int .i64 a1, .int .i64 a2] rfl z2 ?_; (with_reducible refine (impl_within.calls (rd l0 x11_1) a1 a2 true _ A7.out).mono ?_); rintro e w' ⟨rfl, ⟨nd, rfl⟩⟩; refine ⟨_, rfl, ?_⟩))
           go_roundg k1
           case measure => have := HK1.out; omega
           case rel => exact ⟨(wrap64 (x11_1 + 1)), z3, H', ⟨z21⟩, z4⟩
         · replace c8 := Bool.eq_false_iff.mpr c8
           subst c8
           have H1 : (some false) = some r := by rw [if_neg (show ¬ (false = true) by decide)] at H; exact H
           clear H
           have H := H1
           clear H1
           obtain rfl := Option.some.inj H
           have p286 : 0 ≤ (x11_1 : Int) := of_decide_eq_true z1
           have q286 : x11_1 < (l0.length : Int) := of_decide_eq_true z1
           obtain ⟨ad286, e286, hx286_0⟩ := Kd.at_int HR0.out x11_1 p286 q286
           cases e286
           replace p286 := eq_true p286
           replace q286 := eq_true q286
           go_wp2_with (first | ((with_reducible refine gate_callee (f := 85) rfl ?_); refine goesL_ (some 18) rfl rfl Try.func85 (by kernel_rfl) rfl #[.int .i64 (rd l0 x11_1), .int .i64 a1, .int .i64 a2] rfl z2 ?_; (with_reducible refine (impl_within.calls (rd l0 x11_1) a1 a2 false _ A7.out).mono ?_); rintro e w' ⟨rfl, ⟨nd, rfl⟩⟩; refine ⟨_, rfl, ?_⟩))
           go_ret
           exact ⟨z3, z4⟩
       · rw [if_neg c6] at H
         exact absurd H (by simp)
     · rw [if_neg c5] at H
       exact absurd H (by simp)
   · rw [if_neg c4] at H
     have c4b0 : decide (x11_1 < (l0.length : Int)) = false := decide_eq_false c4
     clear c4
     obtain rfl := Option.some.inj H
     go_wp2
     go_ret
     exact ⟨z3, z4⟩
end Go.Proofs.Ythlmmcmpllgflaa.P
namespace Go.Proofs.Ythlmmcmpllgflaa.P
open Go.RowKit Go.Proofs.YthlmmcmpllgflaaW.PrintWords Go.Proofs.YthlmmcmpllgflaaW.PrintLast Go.Proofs.YthlmmcmpllgflaaW.PrintMore
def inB (lo hi x : Int) : Bool := decide (lo ≤ x ∧ x ≤ hi)
theorem within_eq (n lo hi : Int) : impl_within.f n lo hi = some (inB lo hi n) := by
  unfold impl_within.f inB
  by_cases h : n ≥ lo
  · rw [if_pos h]; congr 1; simp; omega
  · rw [if_neg h]; congr 1; symm; simp; omega
theorem l1In_eq (n lo hi : Int) : spec_l1In.f n lo hi = some (inB lo hi n) := within_eq n lo hi
theorem allWithin_l0 (l : List Int) (lo hi : Int) (hl : l.length < 4611686018427387904) : ∀ d i : Nat, i + d = l.length →
    Ev (fun k => impl_allWithin.l0 k lo hi l (l.length : Int) (i : Int)) ((l.drop i).all (inB lo hi))
  | 0, i, h => by
    refine Ev.step (fun k => impl_allWithin.l0.eq_2 ..) ?_
    refine Ev.neg (by omega) ((Ev.now true).to ?_)
    rw [List.drop_of_length_le (by omega)]; rfl
  | d + 1, i, h => by
    refine Ev.step (fun k => impl_allWithin.l0.eq_2 ..) ?_
    refine Ev.pos (by omega) (Ev.pos (by omega) (Ev.pos (by omega) (Ev.bind (Ev.const (within_eq _ _ _)) ?_)))
    rw [rd_nat, wrS (by omega), drop_cons l 0 (by omega), List.all_cons]
    cases hb : inB lo hi (l.getD i 0) with
    | true => exact Ev.pos rfl ((allWithin_l0 l lo hi hl d (i + 1) (by omega)).to (by simp))
    | false => exact Ev.neg (by simp) ((Ev.now false).to (by simp))
theorem allWithin_ev (l : List Int) (lo hi : Int) (hl : l.length < 4611686018427387904) : Ev (fun k => impl_allWithin.f k l lo hi) (l.all (inB lo hi)) :=
  (allWithin_l0 l lo hi hl l.length 0 (by omega)).to (by simp)
theorem l2Row_l0 (l : List Int) (n most : Int) (hl : l.length < 4611686018427387904) : ∀ d i : Nat, i + d = l.length →
    Ev (fun k => spec_l2Row.l0 k l n most (i : Int)) ((l.drop i).all (inB 0 most) && ((l.length : Int) == n))
  | 0, i, h => by
    refine Ev.step (fun k => spec_l2Row.l0.eq_2 ..) ?_
    refine Ev.neg (by omega) ((Ev.now _).to ?_)
    rw [List.drop_of_length_le (by omega)]; rfl
  | d + 1, i, h => by
    refine Ev.step (fun k => spec_l2Row.l0.eq_2 ..) ?_
    refine Ev.pos (by omega) (Ev.pos (by omega) (Ev.bind (Ev.const (l1In_eq _ _ _)) ?_))
    rw [rd_nat, wrS (by omega), drop_cons l 0 (by omega), List.all_cons]
    cases hb : inB 0 most (l.getD i 0) with
    | true => exact Ev.pos rfl ((l2Row_l0 l n most hl d (i + 1) (by omega)).to (by simp))
    | false => exact Ev.neg (by simp) ((Ev.now false).to (by simp))
theorem l2Row_ev (l : List Int) (n most : Int) (hl : l.length < 4611686018427387904) : Ev (fun k => spec_l2Row.f k l n most) (l.all (inB 0 most) && ((l.length : Int) == n)) :=
  (l2Row_l0 l n most hl l.length 0 (by omega)).to (by simp)
def lsum : List Int → Int
  | [] => 0
  | x :: l => x + lsum l
theorem lsum_append (a b : List Int) : lsum (a ++ b) = lsum a + lsum b := by
  induction a with
  | nil => simp [lsum]
  | cons x a ih => simp only [List.cons_append, lsum, ih]; omega
theorem lsum_bound (l : List Int) (M : Int) (h : ∀ x ∈ l, 0 ≤ x ∧ x ≤ M) : 0 ≤ lsum l ∧ lsum l ≤ M * (l.length : Int) := by
  induction l with
  | nil => simp [lsum]
  | cons x l ih =>
    have h1 := ih (fun y hy => h y (by simp [hy])); have h2 := h x (by simp)
    simp only [lsum, List.length_cons, Int.natCast_add, Int.mul_add]; simp; omega
theorem l2Sum_l0 (l : List Int) (hl : l.length ≤ 1000000) (hb : ∀ x ∈ l, -1000000 ≤ x ∧ x ≤ 1000000) : ∀ (d i : Nat) (s : Int), i + d = l.length → -1000000 * (i : Int) ≤ s → s ≤ 1000000 * (i : Int) →
    Ev (fun k => spec_l2Sum.l0 k l s (i : Int)) (s + lsum (l.drop i))
  | 0, i, s, h, _, _ => by
    refine Ev.step (fun k => spec_l2Sum.l0.eq_2 ..) ?_
    refine Ev.neg (by omega) ((Ev.now _).to ?_)
    rw [List.drop_of_length_le (by omega)]; simp [lsum]
  | d + 1, i, s, h, h0, h1 => by
    refine Ev.step (fun k => spec_l2Sum.l0.eq_2 ..) ?_
    refine Ev.pos (by omega) (Ev.pos (by omega) ?_)
    have hx := hb (l.getD i 0) (by rw [List.getD_eq_getElem?_getD, List.getElem?_eq_getElem (by omega)]; simp)
    rw [rd_nat, wrS (by omega), wr (by omega) (by omega)]
    refine (l2Sum_l0 l hl hb d (i + 1) _ (by omega) (by omega) (by omega)).to ?_
    rw [drop_cons l 0 (i := i) (by omega)]; simp only [lsum]; omega
theorem l2Sum_ev (l : List Int) (hl : l.length ≤ 1000000) (hb : ∀ x ∈ l, -1000000 ≤ x ∧ x ≤ 1000000) : Ev (fun k => spec_l2Sum.f k l) (lsum l) :=
  (l2Sum_l0 l hl hb l.length 0 0 (by omega) (by omega) (by omega)).to (by simp)
theorem copied_eq (l : List Int) (hl : l.length < 1000000000) : impl_copied.f l = some l := by
  unfold impl_copied.f; simp only [Option.bind_some]; rw [if_pos (by simp; omega)]; simp
theorem toIntS_l0 (l : List Int) (hl : l.length < 1000000000) : ∀ (d i : Nat) (x : List Int), i + d = l.length → x = l.take i ++ List.replicate d 0 →
    Ev (fun k => laws_toIntS.l0 k l x (i : Int)) l
  | 0, i, x, h, hx => by
    refine Ev.step (fun k => laws_toIntS.l0.eq_2 ..) ?_
    refine Ev.neg (by omega) ((Ev.now _).to ?_)
    rw [hx, List.take_of_length_le (by omega)]; simp
  | d + 1, i, x, h, hx => by
    refine Ev.step (fun k => laws_toIntS.l0.eq_2 ..) ?_
    have hxl : x.length = l.length := by rw [hx]; simp; omega
    refine Ev.pos (by omega) (Ev.pos (by omega) (Ev.pos (by omega) ?_))
    rw [rd_nat, wrS (by omega)]
    refine toIntS_l0 l hl d (i + 1) _ (by omega) ?_
    rw [Int.toNat_natCast, hx, List.set_append_right _ _ (by rw [List.length_take]; omega), List.length_take, Nat.min_eq_left (by omega), Nat.sub_self, List.replicate_succ, List.set_cons_zero, List.take_succ_eq_append_getElem (by omega), List.append_assoc, List.singleton_append]
    congr 2
    rw [List.getD_eq_getElem?_getD, List.getElem?_eq_getElem (by omega)]; rfl
theorem toIntS_ev (l : List Int) (hl : l.length < 1000000000) : Ev (fun k => laws_toIntS.f k l) l := by
  unfold laws_toIntS.f
  refine Ev.pos (by omega) (Ev.pos (by omega) ?_)
  exact toIntS_l0 l hl l.length 0 _ (by omega) (by simp)
theorem toChain_ev (a b c : List Int) (ha : a.length < 1000000000) (hb : b.length < 1000000000) (hc : c.length < 1000000000) : Ev (fun k => laws_toChain.f k a b c) (a, b, c) := by
  unfold laws_toChain.f
  exact Ev.bind (toIntS_ev a ha) (Ev.bind (toIntS_ev b hb) (Ev.bind (toIntS_ev c hc) (Ev.now _)))
theorem eqIntS_l0 (a b : List Int) (hl : a.length < 4611686018427387904) (hab : a.length = b.length) : ∀ d i : Nat, i + d = a.length →
    Ev (fun k => laws_eqIntS.l0 k a b (i : Int)) (decide (a.drop i = b.drop i))
  | 0, i, h => by
    refine Ev.step (fun k => laws_eqIntS.l0.eq_2 ..) ?_
    refine Ev.neg (by omega) ((Ev.now true).to ?_)
    rw [List.drop_of_length_le (by omega), List.drop_of_length_le (by omega)]; simp
  | d + 1, i, h => by
    refine Ev.step (fun k => laws_eqIntS.l0.eq_2 ..) ?_
    refine Ev.pos (by omega) (Ev.pos (by omega) (Ev.pos (by omega) ?_))
    rw [rd_nat, rd_nat, wrS (by omega), drop_cons a 0 (by omega), drop_cons b 0 (by omega)]
    by_cases hx : a.getD i 0 = b.getD i 0
    · exact Ev.pos hx ((eqIntS_l0 a b hl hab d (i + 1) (by omega)).to (by rw [hx]; simp))
    · exact Ev.neg hx ((Ev.now false).to (decide_eq_false (fun e => hx (List.cons.inj e).1)).symm)
theorem eqIntS_ev (a b : List Int) (hl : a.length < 4611686018427387904) : Ev (fun k => laws_eqIntS.f k a b) (decide (a = b)) := by
  unfold laws_eqIntS.f
  by_cases h : a.length = b.length
  · exact Ev.pos (by omega) ((eqIntS_l0 a b hl h a.length 0 (by omega)).to (by simp))
  · refine Ev.neg (by omega) ((Ev.now false).to ?_)
    symm; simp; intro e; exact h (by rw [e])
theorem eqChain_self (a b c : List Int) (ha : a.length < 1000000000) (hb : b.length < 1000000000) (hc : c.length < 1000000000) : Ev (fun k => laws_eqChain.f k a b c a b c) true := by
  unfold laws_eqChain.f
  exact Ev.bind ((eqIntS_ev a a (by omega)).to (by simp)) (Ev.pos rfl (Ev.bind ((eqIntS_ev b b (by omega)).to (by simp)) (Ev.pos rfl (Ev.bind ((eqIntS_ev c c (by omega)).to (by simp)) (Ev.pos rfl (Ev.now _))))))
theorem szChain_ev (a b c : List Int) (ha : a.length ≤ 9223372036854775807) (hb : b.length ≤ 9223372036854775807) (hc : c.length ≤ 9223372036854775807) :
    ∃ r, laws_szChain.f a b c 1048576 = some r ∧ (0 ≤ r → a.length ≤ 1048576 ∧ b.length ≤ 1048576 ∧ c.length ≤ 1048576) := by
  unfold laws_szChain.f laws_szIntS.f
  by_cases h1 : (1048576 : Int) - a.length < 0
  · rw [wr (by omega) (by omega), if_pos h1]; exact ⟨_, rfl, (by omega)⟩
  · rw [wr (by omega) (by omega), if_neg h1]; simp only [Option.bind_some]; rw [if_neg h1]
    by_cases h2 : (1048576 : Int) - a.length - b.length < 0
    · rw [wr (n := 1048576 - (a.length : Int) - b.length) (by omega) (by omega), if_pos h2]; exact ⟨_, rfl, (by omega)⟩
    · rw [wr (n := 1048576 - (a.length : Int) - b.length) (by omega) (by omega), if_neg h2]; simp only [Option.bind_some]; rw [if_neg h2]
      by_cases h3 : (1048576 : Int) - a.length - b.length - c.length < 0
      · rw [wr (n := 1048576 - (a.length : Int) - b.length - c.length) (by omega) (by omega), if_pos h3]; exact ⟨_, rfl, (by omega)⟩
      · rw [wr (n := 1048576 - (a.length : Int) - b.length - c.length) (by omega) (by omega), if_neg h3]; simp only [Option.bind_some]; rw [if_neg h3]; exact ⟨_, rfl, (by omega)⟩
def risB (l : List Int) : Bool := (List.range (l.length - 1)).all fun i => decide (l.getD i 0 ≤ l.getD (i + 1) 0)
theorem cmpLess_eq (a b : Int) : cmp_Less_int.f a b = some (decide (a < b)) := by
  unfold cmp_Less_int.f cmp_isNaN_int.f; simp
theorem IsSorted_l0 (l : List Int) (hl : l.length < 4611686018427387904) : ∀ i : Nat, (i = 0 ∨ i < l.length) →
    Ev (fun k => slices_IsSorted_int_int.l0 k l (i : Int)) ((List.range i).all fun i => decide (l.getD i 0 ≤ l.getD (i + 1) 0))
  | 0, _ => by
    refine Ev.step (fun k => slices_IsSorted_int_int.l0.eq_2 ..) ?_
    exact Ev.neg (by omega) ((Ev.now _).to (by simp))
  | i + 1, h => by
    refine Ev.step (fun k => slices_IsSorted_int_int.l0.eq_2 ..) ?_
    rw [wrP (by omega)]
    refine Ev.pos (by omega) (Ev.pos (by omega) (Ev.pos (by omega) (Ev.pos (by omega) (Ev.pos (by omega) (Ev.bind (Ev.const (cmpLess_eq _ _)) ?_)))))
    rw [rd_nat, rd_nat, List.range_succ, List.all_append]
    by_cases hx : l.getD (i + 1) 0 < l.getD i 0
    · refine Ev.pos (by simpa using hx) ((Ev.now false).to ?_)
      symm; simp only [List.all_cons, List.all_nil, Bool.and_true, Bool.and_eq_false_iff]; right; exact decide_eq_false (by omega)
    · refine Ev.neg (by simpa using hx) ((IsSorted_l0 l hl i (by omega)).to ?_)
      simp only [List.all_cons, List.all_nil, Bool.and_true]; rw [decide_eq_true (show l.getD i 0 ≤ l.getD (i + 1) 0 by omega), Bool.and_true]
theorem IsSorted_ev (l : List Int) (hl : l.length < 4611686018427387904) : Ev (fun k => slices_IsSorted_int_int.f k l) (risB l) := by
  unfold slices_IsSorted_int_int.f risB
  by_cases h0 : l.length = 0
  · rw [h0]
    refine Ev.step (fun k => slices_IsSorted_int_int.l0.eq_2 ..) ?_
    rw [wr (by omega) (by omega)]
    exact Ev.neg (by omega) ((Ev.now _).to (by simp))
  · have e : wrap64 ((l.length : Int) - 1) = ((l.length - 1 : Nat) : Int) := by rw [wr (by omega) (by omega)]; omega
    rw [e]; exact IsSorted_l0 l hl _ (by omega)
end Go.Proofs.Ythlmmcmpllgflaa.P
namespace ChainMath
def nxtF (O : Nat → Bool) : Nat → Nat → Nat
  | 0, t => t
  | f + 1, t => if O t then t else nxtF O f (t + 1)
def nxt (O : Nat → Bool) (n t : Nat) : Nat := nxtF O (n - t) t
theorem nxtF_spec (O : Nat → Bool) : ∀ f t, t ≤ nxtF O f t ∧ nxtF O f t ≤ t + f ∧ (nxtF O f t < t + f → O (nxtF O f t) = true) ∧ ∀ u, t ≤ u → u < nxtF O f t → O u = false
  | 0, t => by simp [nxtF]; omega
  | f + 1, t => by
    unfold nxtF
    split
    · rename_i h; exact ⟨Nat.le_refl _, (by omega), fun _ => h, fun u h1 h2 => by omega⟩
    · rename_i h
      obtain ⟨h1, h2, h3, h4⟩ := nxtF_spec O f (t + 1)
      refine ⟨(by omega), (by omega), fun hh => h3 (by omega), fun u hu1 hu2 => ?_⟩
      by_cases e : u = t
      · subst e; simpa using h
      · exact h4 u (by omega) hu2
theorem nxt_ge (O : Nat → Bool) (n t : Nat) : t ≤ nxt O n t := (nxtF_spec O _ t).1
theorem nxt_le (O : Nat → Bool) {n t : Nat} (h : t ≤ n) : nxt O n t ≤ n := by have := (nxtF_spec O (n - t) t).2.1; unfold nxt; omega
theorem nxt_in (O : Nat → Bool) {n t : Nat} (h : nxt O n t < n) : O (nxt O n t) = true := (nxtF_spec O (n - t) t).2.2.1 (by have := nxt_ge O n t; unfold nxt at *; omega)
theorem nxt_not (O : Nat → Bool) {n t u : Nat} (h1 : t ≤ u) (h2 : u < nxt O n t) : O u = false := (nxtF_spec O (n - t) t).2.2.2 u h1 h2
theorem nxt_min (O : Nat → Bool) {n t u : Nat} (h1 : t ≤ u) (h2 : O u = true) : nxt O n t ≤ u := by
  apply Classical.byContradiction; intro h
  have := nxt_not O (n := n) h1 (by omega)
  simp [this] at h2
theorem nxt_self (O : Nat → Bool) {n t : Nat} (h2 : O t = true) : nxt O n t = t := by
  have := nxt_min O (n := n) (Nat.le_refl t) h2; have := nxt_ge O n t; omega
theorem nxt_n (O : Nat → Bool) (n : Nat) : nxt O n n = n := by unfold nxt; simp [nxtF]
theorem nxt_step (O : Nat → Bool) {n t : Nat} (h2 : O t = false) (h : t < n) : nxt O n t = nxt O n (t + 1) := by
  unfold nxt; obtain ⟨m, hm⟩ : ∃ m, n - t = m + 1 := ⟨n - t - 1, (by omega)⟩
  rw [hm]; simp only [nxtF, h2]; rw [show n - (t+1) = m by omega]; simp
def cnt (O : Nat → Bool) : Nat → Nat
  | 0 => 0
  | t + 1 => cnt O t + (if O t then 1 else 0)
end ChainMath
namespace ChainMath
def sumN (f : Nat → Int) : Nat → Int
  | 0 => 0
  | n + 1 => sumN f n + f n
theorem sumN_congr {f g : Nat → Int} : ∀ n, (∀ i, i < n → f i = g i) → sumN f n = sumN g n
  | 0, _ => rfl
  | n + 1, h => by simp only [sumN]; rw [sumN_congr n (fun i hi => h i (by omega)), h n (by omega)]
theorem sumN_add (f g : Nat → Int) : ∀ n, sumN (fun i => f i + g i) n = sumN f n + sumN g n
  | 0 => by simp [sumN]
  | n + 1 => by simp only [sumN, sumN_add f g n]; omega
theorem sumN_mul (c : Int) (f : Nat → Int) : ∀ n, sumN (fun i => c * f i) n = c * sumN f n
  | 0 => by simp [sumN]
  | n + 1 => by simp only [sumN, sumN_mul c f n]; rw [Int.mul_add]
theorem sumN_zero : ∀ n, sumN (fun _ => 0) n = 0
  | 0 => rfl
  | n + 1 => by simp [sumN, sumN_zero n]
def chg (X : Nat → Int) (t : Nat) : Bool := decide (X (t + 1) ≠ X t)
def hcost (m n : Nat) (setup hold : Nat → Int) (X : Nat → Nat → Int) : Int :=
  sumN (fun s => setup s * (cnt (chg (X s)) n : Int) + hold s * sumN (fun t => X s (t + 1) - X (s + 1) (t + 1)) n) m
structure Feas (m n : Nat) (D : Nat → Int) (X : Nat → Nat → Int) : Prop where
  zero : ∀ s, s < m → X s 0 = 0
  full : ∀ s, s < m → X s n = D n
  last : ∀ t, t ≤ n → X m t = D t
  over : ∀ s t, s < m → t ≤ n → X (s + 1) t ≤ X s t
structure Nest (m n : Nat) (D : Nat → Int) (Q : Nat → Nat → Bool) : Prop where
  sub : ∀ s t, s + 1 < m → Q s t = true → Q (s + 1) t = true
  pos : ∀ s t, s < m → Q s t = true → chg D t = true
  start : ∀ s, s < m → D (nxt (Q s) n 0) = 0
end ChainMath
namespace ChainMath
def upd (best : Int) (c : Option Int) : Int := match c with
  | none => best
  | some c => if best < 0 ∨ c < best then c else best
def least (cand : Nat → Option Int) : List Nat → Int → Int
  | [], best => best
  | s :: l, best => least cand l (upd best (cand s))
section
variable (m n : Nat) (D setup hold : Nat → Int)
def gcand (G : Nat → Nat → Nat → Nat → Int) (s t a b split : Nat) : Option Int :=
  if s + 1 < m then
    (let c1 := if D split - D a > 0 then setup (s + 1) + G (s + 1) t a split else 0
     if D b - D split > 0 then (if t + 1 > split then none else some (c1 + hold s * (D b - D split) + G s (t + 1) split b)) else some c1)
  else if split > a + 1 ∨ (split > a ∧ a > t) ∨ (split = a ∧ a = t) then none
  else if D b - D split > 0 then (if t + 1 > split then none else some (0 + hold s * (D b - D split) + G s (t + 1) split b)) else some 0
def give : Nat → Nat → Nat → Nat → Nat → Int
  | 0, _, _, _, _ => 0
  | f + 1, s, t, a, b => if D b - D a = 0 then 0 else least (gcand m D setup hold (give f) s t a b) (List.range' a (b + 1 - a)) (-1)
end
section
variable {m n : Nat} {D setup hold : Nat → Int} (hD : ∀ s t, s ≤ t → t ≤ n → D s ≤ D t) (hs : ∀ s, s < m → 0 ≤ setup s) (hh : ∀ s, s < m → 0 ≤ hold s)
include hD hs hh
end
end ChainMath
namespace ChainMath
section
variable {m n : Nat} {D setup hold : Nat → Int} {Q : Nat → Nat → Bool}
def nx (m n : Nat) (Q : Nat → Nat → Bool) (s t : Nat) : Nat := if s < m then nxt (Q s) n t else t
def per (m n : Nat) (D setup hold : Nat → Int) (Q : Nat → Nat → Bool) (s t : Nat) : Int :=
  (if Q s t then setup s else 0) + hold s * (D (nx m n Q s (t + 1)) - D (nx m n Q (s + 1) (t + 1)))
variable (hsub : ∀ s t, s + 1 < m → Q s t = true → Q (s + 1) t = true)
include hsub
variable (hD : ∀ s t, s ≤ t → t ≤ n → D s ≤ D t) (hs : ∀ s, s < m → 0 ≤ setup s) (hh : ∀ s, s < m → 0 ≤ hold s)
include hD hs hh
end
end ChainMath
namespace ChainMath
section
variable {m n : Nat} {D setup hold : Nat → Int} {F : Nat}
variable (hD : ∀ s t, s ≤ t → t ≤ n → D s ≤ D t) (hs : ∀ s, s < m → 0 ≤ setup s) (hh : ∀ s, s < m → 0 ≤ hold s) (hm : 0 < m) (hF : n + m ≤ F)
include hD hs hh hm hF
end
theorem sum_setup (su : Int) (O : Nat → Bool) : ∀ n, sumN (fun t => if O t then su else 0) n = su * (cnt O n : Int)
  | 0 => by simp [sumN, cnt]
  | n + 1 => by
    simp only [sumN, sum_setup su O n, cnt]
    cases O n <;> simp [Int.mul_add]
end ChainMath
namespace ChainMath
def stepf (t : Nat) (S : Int) (τ : Nat) : Int := if τ ≤ t then 0 else S
def consume (D : Nat → Int) (a b τ : Nat) : Int := D (min (max τ a) b) - D a
theorem cnt_zero : ∀ n, cnt (chg fun _ => (0 : Int)) n = 0
  | 0 => rfl
  | n + 1 => by simp [cnt, cnt_zero n, chg]
section
variable (n : Nat) (setup hold : Nat → Int)
def hw (Y : Nat → Nat → Int) (s : Nat) : Int := hold s * sumN (fun τ => Y s (τ + 1) - Y (s + 1) (τ + 1)) n
def full : Nat → Nat → (Nat → Nat → Int) → Int
  | 0, _, _ => 0
  | k + 1, s, Y => setup s * (cnt (chg (Y s)) n : Int) + hw n hold Y s + full k (s + 1) Y
end
section
variable {m n : Nat} {D setup hold : Nat → Int}
theorem full_zero : ∀ k s, full n setup hold k s (fun _ _ => 0) = 0
  | 0, _ => rfl
  | k + 1, s => by
    simp only [full, full_zero k (s + 1), hw]
    have h1 : cnt (chg fun _ => (0 : Int)) n = 0 := cnt_zero n
    rw [h1]; simp [sumN_zero]
theorem hw_zero (s : Nat) : hw n hold (fun _ _ => 0) s = 0 := by unfold hw; simp [sumN_zero]
theorem consume_zero (hD : ∀ s t, s ≤ t → t ≤ n → D s ≤ D t) {a b τ : Nat} (hab : a ≤ b) (hb : b ≤ n) (h : ¬ D b - D a > 0) : consume D a b τ = 0 := by
  unfold consume
  have h1 := hD a (min (max τ a) b) (by omega) (by omega)
  have h2 := hD (min (max τ a) b) b (by omega) hb
  omega
structure Sub (m n : Nat) (D setup hold : Nat → Int) (s k t a b : Nat) (cost : Int) (Y : Nat → Nat → Int) : Prop where
  head : ∀ τ, τ ≤ n → Y s τ = stepf t (D b - D a) τ
  last : ∀ τ, τ ≤ n → Y m τ = consume D a b τ
  over : ∀ s' τ, s ≤ s' → s' < m → τ ≤ n → Y (s' + 1) τ ≤ Y s' τ
  zero : ∀ s', s ≤ s' → s' < m → Y s' 0 = 0
  ends : ∀ s', s ≤ s' → s' < m → Y s' n = D b - D a
  cost : hw n hold Y s + full n setup hold k (s + 1) Y ≤ cost
theorem Sub.none (hD : ∀ s t, s ≤ t → t ≤ n → D s ≤ D t) {s k t a b : Nat} (hab : a ≤ b) (hb : b ≤ n) (h : ¬ D b - D a > 0) : Sub m n D setup hold s k t a b 0 (fun _ _ => 0) := by
  have h1 := hD a b hab hb
  refine ⟨fun τ _ => ?_, fun τ _ => (consume_zero hD hab hb h).symm, fun _ _ _ _ _ => Int.le_refl _, fun _ _ _ => rfl, fun _ _ _ => by omega, (by rw [hw_zero, full_zero]; omega)⟩
  unfold stepf; split <;> omega
end
end ChainMath
namespace Go.Proofs.Ythlmmcmpllgflaa.P
open Go.RowKit Go.Proofs.YthlmmcmpllgflaaW.PrintWords Go.Proofs.YthlmmcmpllgflaaW.PrintLast Go.Proofs.YthlmmcmpllgflaaW.PrintMore
attribute [local go_sem] max2_int min2_int max_two min_two max_three min_three max_four min_four
set_option linter.unusedVariables false
set_option linter.unusedSimpArgs false
def impl_power.l0 : Nat → Int → Int → Int → Int → Option (Int)
 | 0, _, _, _, _ => none
 | k + 1, x0, x5, x6, x7 => if x7 < x6 then (impl_power.l0 k x0 (wrap64 (x5 * x0)) x6 (wrap64 (x7 + 1))) else (some x5)
def impl_power.f (k : Nat) (a0 : Int) (a1 : Int) : Option (Int) := impl_power.l0 k a0 1 a1 0
set_option maxHeartbeats 8000000 in
set_option maxRecDepth 100000 in
theorem impl_power.calls (k : Nat) (a0 : Int) (a1 : Int) (r : Int) (w : World) (h : impl_power.f k a0 a1 = some r) :
 Calls Try.prog 116 #[.int .i64 a0, .int .i64 a1] w fun e w' => e = .returned (.int .i64 r) ∧ Drawn0 w w' := by
 have H : (impl_power.l0 k a0 1 a1 0) = some r := h
 clear h
 have H' := Aside0.mk H
 clear H
 go_enter Try.func116, Try.ntmps116
 go_wp2
 go_loopg [5, 7] k (fun kq v5 v7 w' => ∃ (x5_1 : Int) (x7_1 : Int), v5 = .int .i64 x5_1 ∧ v7 = .int .i64 x7_1 ∧ Aside0 (impl_power.l0 kq a0 x5_1 a1 x7_1 = some r) ∧ Aside0 (kq ≤ k) ∧ Drawn0 w w')
 case atStart => exact ⟨(1), (0), z3, z3, H', ⟨Nat.le_refl _⟩, z4⟩
 case round =>
  clear H'
  try clear c1
  try clear p2
  obtain ⟨x5_1, x7_1, rfl, rfl, HA, HK1, ⟨m1, rfl⟩⟩ := hrel
  cases gk with
  | zero => exact absurd HA.out (by simp [impl_power.l0])
  | succ k1 =>
   have H := HA.out
   clear HA
   simp only [impl_power.l0] at H
   by_cases c3 : x7_1 < a1
   · rw [if_pos c3] at H
     have c3b0 : decide (x7_1 < a1) = true := decide_eq_true c3
     clear c3
     have H' := Aside0.mk H
     clear H
     go_wp2
     go_roundg k1
     case measure => have := HK1.out; omega
     case rel => exact ⟨(wrap64 (x5_1 * a0)), (wrap64 (x7_1 + 1)), z3, z3, H', ⟨z21⟩, z4⟩
   · rw [if_neg c3] at H
     have c3b0 : decide (x7_1 < a1) = false := decide_eq_false c3
     clear c3
     obtain rfl := Option.some.inj H
     go_wp2
     go_ret
     exact ⟨z3, z4⟩
end Go.Proofs.Ythlmmcmpllgflaa.P
