/- Walks of functions that FnHints reaches, shortened. -/
import Derived.Test.YtejhjenlodclpaaPFnHintsx0
import Derived.Test.YtejhjenlodclpaaPFnHintsx1
import Derived.Test.YtejhjenlodclpaaPFnHintsx2
namespace Go.Proofs.Ytejhjenlodclpaa.PFnHints
open Go.RowKit Go.Proofs.YtejhjenlodclpaaW.PrintWords Go.Proofs.YtejhjenlodclpaaW.PrintLast Go.Proofs.YtejhjenlodclpaaW.PrintMore
attribute [local go_sem] max2_int min2_int max_two min_two max_three min_three max_four min_four
set_option maxHeartbeats 8000000
set_option maxRecDepth 100000
set_option linter.unusedVariables false
set_option linter.unusedSimpArgs false

/-! ### impl_Mod: function 196 -/
def impl_Mod.f (a0 : Int) (a1 : Int) : Option (Int) := (impl_InRange.f a1 1 1000000000000).bind fun t116 => (if t116 = true then (if a1 = 0 then (none) else (if (Int.tmod a0 a1) < 0 then (some (wrap64 ((Int.tmod a0 a1) + a1))) else (some (Int.tmod a0 a1)))) else (some 0))
theorem lf3_0 {p : Prop} (h : p := by
  go_enter Try.func196, Try.ntmps196
  go_wp2_with (first | ((with_reducible refine gc (f := 106) rfl ?_); refine gL (some 7) Try.func106 #[.int .i64 a1, .int .i64 1, .int .i64 1000000000000] ?_; (with_reducible refine (impl_InRange.calls a1 1 1000000000000 true _ A3.o).mono ?_); rintro e w' ⟨rfl, ⟨nd, rfl⟩⟩; refine ⟨_, rfl, ?_⟩))
  go_ret
  exact ⟨o2, Q4⟩) : p := h
theorem impl_Mod.calls (a0 : Int) (a1 : Int) (r : Int) (w : World) (h : impl_Mod.f a0 a1 = some r) :
  Calls Try.prog 196 #[.int .i64 a0, .int .i64 a1] w fun e w' => e = .returned (.int .i64 r) ∧ Drawn0 w w' := by
 have H : ((impl_InRange.f a1 1 1000000000000).bind fun t116 => (if t116 = true then (if a1 = 0 then (none) else (if (Int.tmod a0 a1) < 0 then (some (wrap64 ((Int.tmod a0 a1) + a1))) else (some (Int.tmod a0 a1)))) else (some 0))) = some r := h
 clear h
 replace H := Option.bind_eq_some_iff.mp H
 obtain ⟨t116, A30, H⟩ := H
 try dsimp only at H
 have A3 := zK A30
 clear A30
 by_cases c4 : t116 = true
 rotate_left
 ·replace c4 := Bool.eq_false_iff.mpr c4
  subst c4
  have H1 : (some 0) = some r := by rw [if_neg (show ¬ (false = true) by decide)] at H; exact H
  clear H
  have H := H1
  clear H1
  obtain rfl := Option.some.inj H
  go_enter Try.func196, Try.ntmps196
  go_wp2_with (first | ((with_reducible refine gc (f := 106) rfl ?_); refine gL (some 7) Try.func106 #[.int .i64 a1, .int .i64 1, .int .i64 1000000000000] ?_; (with_reducible refine (impl_InRange.calls a1 1 1000000000000 false _ A3.o).mono ?_); rintro e w' ⟨rfl, ⟨nd, rfl⟩⟩; refine ⟨_, rfl, ?_⟩))
  go_ret
  exact ⟨o2, Q4⟩
 subst c4
 have H1 : (if a1 = 0 then (none) else (if (Int.tmod a0 a1) < 0 then (some (wrap64 ((Int.tmod a0 a1) + a1))) else (some (Int.tmod a0 a1)))) = some r := by rw [if_pos rfl] at H; exact H
 clear H
 have H := H1
 clear H1
 by_cases c5 : a1 = 0
 ·rw [if_pos c5] at H
  exact absurd H (by simp)
 rw [if_neg c5] at H
 have c5b0 : (a1 == 0) = false := beq_eq_false_iff_ne.mpr c5
 have c5b1 : (a1 != 0) = true := bne_iff_ne.mpr c5
 by_cases c6 : (Int.tmod a0 a1) < 0
 ·rw [if_pos c6] at H
  have c6b0 : decide ((Int.tmod a0 a1) < 0) = true := decide_eq_true c6
  clear c6
  obtain rfl := Option.some.inj H
  exact lf3_0
 rw [if_neg c6] at H
 have c6b0 : decide ((Int.tmod a0 a1) < 0) = false := decide_eq_false c6
 clear c6
 obtain rfl := Option.some.inj H
 exact lf3_0
/-! ### impl_fold: function 176 -/
def impl_fold.f (a0 : Int) (a1 : Int) : Option (Int) := (impl_Mod.f a1 2147483647).bind fun t117 => (some (Int.tmod (wrap64 ((wrap64 ((wrap64 (a0 * 1000003)) + t117)) + 13)) 2147483647))
theorem impl_fold.calls (a0 : Int) (a1 : Int) (r : Int) (w : World) (h : impl_fold.f a0 a1 = some r) :
  Calls Try.prog 176 #[.int .i64 a0, .int .i64 a1] w fun e w' => e = .returned (.int .i64 r) ∧ Drawn0 w w' := by
 have H : ((impl_Mod.f a1 2147483647).bind fun t117 => (some (Int.tmod (wrap64 ((wrap64 ((wrap64 (a0 * 1000003)) + t117)) + 13)) 2147483647))) = some r := h
 clear h
 replace H := Option.bind_eq_some_iff.mp H
 obtain ⟨t117, A30, H⟩ := H
 try dsimp only at H
 have A3 := zK A30
 clear A30
 obtain rfl := Option.some.inj H
 go_enter Try.func176, Try.ntmps176
 go_wp2_with (first | ((with_reducible refine gc (f := 196) rfl ?_); refine gL (some 8) Try.func196 #[.int .i64 a1, .int .i64 2147483647] ?_; (with_reducible refine (impl_Mod.calls a1 2147483647 t117 _ A3.o).mono ?_); rintro e w' ⟨rfl, ⟨nd, rfl⟩⟩; refine ⟨_, rfl, ?_⟩))
 go_ret
 exact ⟨o2, Q4⟩
/-! ### impl_Hash: function 143 -/
def impl_Hash.l0 : Nat → Int → List Int → Int → Int → Option (Int)
 | 0, _, _, _, _ => none
 | k + 1, x3, x6, x7, x8 => if x8 < x7 then (if 0 ≤ x8 then (if x8 < (x6.length : Int) then ((impl_fold.f x3 (rd x6 x8)).bind fun t119 => (impl_Hash.l0 k t119 x6 x7 (wrap64 (x8 + 1)))) else (none)) else (none)) else (some x3)
def impl_Hash.f (k : Nat) (l0 : List Int) : Option (Int) := impl_Hash.l0 k 11 l0 (l0.length : Int) 0
theorem impl_Hash.calls (k : Nat) (A0 : Option Addr) (c0 : Nat) (l0 : List Int) (r : Int) (w : World) (hr0 : Kd.C (Kd.int .i64) w A0 l0.length l0) (hc0 : l0.length ≤ c0) (h : impl_Hash.f k l0 = some r) :
  Calls Try.prog 143 #[.slice A0 l0.length c0] w fun e w' => e = .returned (.int .i64 r) ∧ Drawn0 w w' := by
 have HR0 := zK hr0
 have HC0 := zK hc0
 clear hr0 hc0
 have H : (impl_Hash.l0 k 11 l0 (l0.length : Int) 0) = some r := h
 clear h
 have H' := zK H
 clear H
 go_enter Try.func143, Try.ntmps143
 go_wp2
 go_loopg [3, 8] k (fun kq v3 v8 w' => ∃ (x3_1 : Int) (x8_1 : Int), v3 = .int .i64 x3_1 ∧ v8 = .int .i64 x8_1 ∧ Aside0 (impl_Hash.l0 kq x3_1 l0 (l0.length : Int) x8_1 = some r) ∧ Aside0 (kq ≤ k) ∧ Drawn0 w w')
 case atStart => exact ⟨(11), (0), M12, M12, H', ⟨Nat.le_refl _⟩, Q4⟩
 case round =>
  clear H'
  try clear c1
  obtain ⟨x3_1, x8_1, rfl, rfl, HA, HK1, ⟨m1, rfl⟩⟩ := hrel
  cases gk with
  | zero => exact absurd HA.o (by simp [impl_Hash.l0])
  | succ k1 =>
   have H := HA.o
   clear HA
   simp only [impl_Hash.l0] at H
   by_cases c2 : x8_1 < (l0.length : Int)
   rotate_left
   ·rw [if_neg c2] at H
    have c2b0 : decide (x8_1 < (l0.length : Int)) = false := decide_eq_false c2
    clear c2
    obtain rfl := Option.some.inj H
    go_wp2
    go_ret
    exact ⟨o2, Q4⟩
   rw [if_pos c2] at H
   have c2b0 : decide (x8_1 < (l0.length : Int)) = true := decide_eq_true c2
   clear c2
   by_cases c3 : 0 ≤ x8_1
   rotate_left
   ·rw [if_neg c3] at H
    exact absurd H (by simp)
   rw [if_pos c3] at H
   have c3b0 : decide (0 ≤ x8_1) = true := decide_eq_true c3
   clear c3
   by_cases c4 : x8_1 < (l0.length : Int)
   rotate_left
   ·rw [if_neg c4] at H
    exact absurd H (by simp)
   rw [if_pos c4] at H
   have c4b0 : decide (x8_1 < (l0.length : Int)) = true := decide_eq_true c4
   clear c4
   replace H := Option.bind_eq_some_iff.mp H
   obtain ⟨t119, A50, H⟩ := H
   try dsimp only at H
   have A5 := zK A50
   clear A50
   have H' := zK H
   clear H
   have p118 : 0 ≤ (x8_1 : Int) := oD M4
   have q118 : x8_1 < (l0.length : Int) := oD M4
   obtain ⟨ad118, e118, hx118_0⟩ := Kd.at_int HR0.o x8_1 p118 q118
   cases e118
   replace p118 := eq_true p118
   replace q118 := eq_true q118
   go_wp2_with (first | ((with_reducible refine gc (f := 176) rfl ?_); refine gL (some 14) Try.func176 #[.int .i64 x3_1, .int .i64 (rd l0 x8_1)] ?_; (with_reducible refine (impl_fold.calls x3_1 (rd l0 x8_1) t119 _ A5.o).mono ?_); rintro e w' ⟨rfl, ⟨nd, rfl⟩⟩; refine ⟨_, rfl, ?_⟩))
   go_roundg k1
   case measure => have := HK1.o; omega
   case rel => exact ⟨(t119), (wrap64 (x8_1 + 1)), M12, M12, H', ⟨o6⟩, Q4⟩
/-! ### impl_hint: function 94 -/
def impl_hint.f (k : Nat) (a0 : Int) (a1 : Int) (a2 : Int) (a3 : Int) : Option (Int) := (impl_Hash.f k (([a0, a1, a2, wrap64 (Int.tdiv a3 10)] : List Int))).bind fun t123 => (some t123)
theorem impl_hint.calls (k : Nat) (a0 : Int) (a1 : Int) (a2 : Int) (a3 : Int) (r : Int) (w : World) (h : impl_hint.f k a0 a1 a2 a3 = some r) :
  Calls Try.prog 94 #[.int .i64 a0, .int .i64 a1, .int .i64 a2, .int .i64 a3] w fun e w' => e = .returned (.int .i64 r) ∧ Below w.heap.size w w' := by
 have HB := zK (Below.refl w.heap.size w)
 have H : ((impl_Hash.f k (([a0, a1, a2, wrap64 (Int.tdiv a3 10)] : List Int))).bind fun t123 => (some t123)) = some r := h
 clear h
 obtain ⟨y120, hy120⟩ : ∃ y_ : List Int, y_ = (([a0, a1, a2, wrap64 (Int.tdiv a3 10)] : List Int)) := ⟨_, rfl⟩
 replace H : ((impl_Hash.f k y120).bind fun t123 => (some t123)) = some r := have he_ := hy120; rH
 have Ny120 := zK hy120
 clear hy120
 replace H := Option.bind_eq_some_iff.mp H
 obtain ⟨t123, A50, H⟩ := H
 replace H : (some t123) = some r := H
 have A5 := zK A50
 clear A50
 obtain rfl := Option.some.inj H
 go_enter Try.func94, Try.ntmps94
 go_wp2_with (first | ((with_reducible refine gd (N := 14) rfl ?_); refine Kd.R_lit (Kd.int .i64) _ 3 ?hg (N := 14) ?hd (xs := ([a0, a1, a2, wrap64 (Int.tdiv a3 10)] : List Int)) (inner := [.int .i64 a0, .int .i64 a1, .int .i64 a2, .int .i64 (wrap64 (Int.tdiv a3 10))]) (ok := fun _ => True) (okp := fun _ => True) ?hr ?hp (fun _ hk => hk) trivial (Below.refl _ _) (Nat.le_refl _) (by simp) ?_; (case hd => rfl); (case hg => rfl); (case hr => first | (go_simp; done) | (go_simp; rfl)); (case hp => exact (Reps.one (show Kd.M (Kd.int .i64) _ _ _ a0 [.int .i64 a0] from rfl) (Reps.one (show Kd.M (Kd.int .i64) _ _ _ a1 [.int .i64 a1] from rfl) (Reps.one (show Kd.M (Kd.int .i64) _ _ _ a2 [.int .i64 a2] from rfl) (Reps.one (show Kd.M (Kd.int .i64) _ _ _ (wrap64 (Int.tdiv a3 10)) [.int .i64 (wrap64 (Int.tdiv a3 10))] from rfl) (Reps.none _ _)))))); intro v121 w6 ho7 hb hg_ hnew_; clear hg_ hnew_; (first | rw [← Ny120.o] at ho7 | (simp only [Int.reduceToNat] at ho7; rw [← Ny120.o] at ho7)); have _ := zK (Kd.R_lower ho7 (bZ (qB HB.o))); have _ := zK (bT (qB HB.o) hb); clear HB; rename_i HO122 HB; clear hb ho7; obtain ⟨Ao8, co8, eo8⟩ := Kd.R_slice HO122.o; subst eo8) | ((with_reducible refine gc (f := 143) rfl ?_); refine gL (some 15) Try.func143 #[.slice Ao8 y120.length co8] ?_; (with_reducible refine (impl_Hash.calls k _ _ y120 t123 _ ?side1 ?side2 A5.o).mono ?_); (case side1 => exact Kd.qC (Kd.R_reads' HO122.o).2.2); (case side2 => exact (Kd.R_reads' HO122.o).2.1); rintro e w' ⟨rfl, ⟨nd, rfl⟩⟩; refine ⟨_, rfl, ?_⟩))
 go_ret
 exact ⟨o0, o8⟩
/-! ### impl_HintOf: function 77 -/
def impl_HintOf.f (k : Nat) (a0_0 : Int) (a0_1 : Int) (a0_2 : Int) (a0_3 : Int) (a0_4 : Int) (a1 : Int) : Option (Int) := (impl_hint.f k a1 a0_1 a0_2 a0_3).bind fun t125 => (some t125)
theorem impl_HintOf.calls (k : Nat) (a0_0 : Int) (a0_1 : Int) (a0_2 : Int) (a0_3 : Int) (a0_4 : Int) (a1 : Int) (r : Int) (w : World) (h : impl_HintOf.f k a0_0 a0_1 a0_2 a0_3 a0_4 a1 = some r) :
  Calls Try.prog 77 #[.agg #[.int .i64 a0_0, .int .i64 a0_1, .int .i64 a0_2, .int .i64 a0_3, .int .i64 a0_4], .int .i64 a1] w fun e w' => e = .returned (.int .i64 r) ∧ Below w.heap.size w w' := by
 have hu111 := Try.underlying111
 have HB := zK (Below.refl w.heap.size w)
 have H : ((impl_hint.f k a1 a0_1 a0_2 a0_3).bind fun t125 => (some t125)) = some r := h
 clear h
 replace H := Option.bind_eq_some_iff.mp H
 obtain ⟨t125, A30, H⟩ := H
 replace H : (some t125) = some r := H
 have A3 := zK A30
 clear A30
 obtain rfl := Option.some.inj H
 go_enter Try.func77, Try.ntmps77
 go_wp2_with (first | ((with_reducible refine gd (N := 2) rfl ?_); refine bE (N := 2) (cs := #[.int .i64 a0_0, .int .i64 a0_1, .int .i64 a0_2, .int .i64 a0_3, .int .i64 a0_4]) (t := 111) ?_; intro gb124 hg w4 hbox hb; have _ := zK (bT (qB HB.o) hb); have _ := zK (hbox); have _ := zK ((by rw [hg]; exact (bZ (qB HB.o)) : w.heap.size ≤ gb124)); have _ := zK ((by rw [hg]; exact (bZ (qB HB.o)) : w.heap.size ≤ gb124)); clear HB; rename_i HB BK124 GW124 GE124; clear hb hbox hg; obtain ⟨hcz5_0, hcz5_1, hcz5_2, hcz5_3, hcz5_4, hfz5_0, hfz5_1, hfz5_2, hfz5_3, hfz5_4⟩ := bx5 BK124.o) | ((with_reducible refine gc (f := 94) rfl ?_); refine gL (some 12) Try.func94 #[.int .i64 a1, .int .i64 a0_1, .int .i64 a0_2, .int .i64 a0_3] ?_; (with_reducible refine (impl_hint.calls k a1 a0_1 a0_2 a0_3 t125 _ A3.o).mono ?_); rintro e w6 ⟨rfl, hb⟩; refine ⟨_, rfl, ?_⟩; have _ := zK (bB (qK BK124.o) hb); have _ := zK (bT (qX HB.o) hb); clear BK124 HB; rename_i BK124 HB; clear hb))
 go_ret
 exact ⟨o0, o3⟩
/-! ### impl_united: function 86: slices.Concat of two slices, slices.Sort, slices.Compact, by the kit's shelf and a walk of slices.Concat -/
theorem grow0 (n : Nat) (hn : n < 17592186044416) (w : World) :
  Calls Try.prog 175 #[.slice none 0 0, .int .i64 (n : Int)] w fun e w' => ∃ v, e = .returned v ∧ Kd.R (Kd.int .i64) 3 w' w.heap.size (fun k_ => w.heap.size ≤ k_) v [] ∧ Below w.heap.size w w' := by
 rcases Nat.eq_zero_or_pos n with rfl | hp
 ·refine (Any8.slices_Grow_room Try.growInt none 0 0 0 w (Nat.le_refl _) (by omega) (by omega) (by omega)).mono ?_
  rintro e w' ⟨rfl, rfl⟩
  exact ⟨_, rfl, Kd.R_nil _ _ _ _ _, Below.refl _ _⟩
 ·obtain ⟨i0, hi, hz⟩ := Option.map_eq_some_iff.1 (show (Try.prog.info? 3).map (fun i => (i.zero, i.size, i.bytes)) = some (some (.int .i64 0), 1, 8) from by kernel_rfl)
  simp only [Prod.mk.injEq] at hz
  obtain ⟨hz0, hz1, hz2⟩ := hz
  refine (Any8.slices_Grow_grow Try.growInt i0 (.int .i64 0) hi hz0 (by rw [hz1]; omega) none 0 0 n [] w (Nat.le_refl _) (by omega) (by rw [hz2]; omega) (by omega) (by rw [hz1]; rfl) (fun _ => rfl) (fun a h => by cases h)).mono ?_
  rintro e w' ⟨rfl, rfl⟩
  have hm := grownCap_le_maxLen w (0 + n) 0 3 (by unfold maxLen; omega)
  have hge := grownCap_ge w (0 + n) 0 3
  refine ⟨_, rfl, ⟨fun k hk => ?_, [], ⟨by simp, .inr ⟨w.heap.size, _, ((([] : List Value).toArray ++ Builtin.zeroCells (Value.int .i64 0).cells (0 + n - 0)) ++ Builtin.zeroCells (Value.int .i64 0).cells (grownCap w (0 + n) 0 3 - (0 + n))), rfl, Nat.le_refl _, heap_alloc_new w.drew _, Nat.zero_le _, hm, ?_, by simp⟩⟩, Reps.none _ _⟩, ?_⟩
  ·have : w.heap.size = k := by simpa [Value.ownBlock] using hk
   omega
  ·have h1 : ∀ m, (Builtin.zeroCells (Value.int .i64 0).cells m).size = m := fun m => by simp [Builtin.zeroCells, Value.cells]
   rw [Array.size_append, Array.size_append, h1, h1]
   show 0 + (0 + n - 0) + (grownCap w (0 + n) 0 3 - (0 + n)) = grownCap w (0 + n) 0 3 * 1
   omega
  ·exact bA (below_drew (Below.refl _ _)) _
theorem concat2 (g : Nat) (A B : Option Addr) (c d : Nat) (la lb : List Int) (w : World)
  (hg : w.heap[g]? = some (.cells #[.slice A la.length c, .slice B lb.length d] 24 (0, 0)))
  (hA : Kd.C (Kd.int .i64) w A la.length la) (hBr : Kd.C (Kd.int .i64) w B lb.length lb) (hc : la.length ≤ c) (hd : lb.length ≤ d) (hl : la.length + lb.length < 17592186044416) :
  Calls Try.prog 136 #[.slice (some ⟨g, 0, none⟩) 2 2] w fun e w' => ∃ v, e = .returned v ∧ Kd.R (Kd.int .i64) 3 w' w.heap.size (fun k_ => w.heap.size ≤ k_) v (la ++ lb) ∧ Below w.heap.size w w' := by
 have h0 : w.cell? ⟨g, 0, none⟩ = some (.slice A la.length c) := (bc hg 0).trans rfl
 have h1 : w.cell? ⟨g, 1, none⟩ = some (.slice B lb.length d) := (bc hg 1).trans rfl
 have HA := zK hA
 have HBr := zK hBr
 have HG := zK hg
 clear hg hA hBr
 have e1 : wrap64 (0 + (la.length : Int)) = (la.length : Int) := by unfold wrap64; omega
 have e2 : wrap64 ((la.length : Int) + (lb.length : Int)) = ((la.length + lb.length : Nat) : Int) := by unfold wrap64; omega
 have hgr := grow0 (la.length + lb.length) hl w
 have f1 : (decide ((la.length : Int) < 0)) = false := decide_eq_false (by omega)
 go_enter Try.func136, Try.ntmps136
 go_wp2
 refine wp_loop_rounds 3 ?_
 rw [rounds_succ]
 go_wp2
 rw [rounds_succ]
 go_wp2
 rw [rounds_succ]
 go_wp2_with (go_at_call 175; refine hgr.mono ?_; rintro e w1 ⟨v1, rfl, hR, hb⟩; have k0 : w1.cell? ⟨g, 0, none⟩ = some (.slice A la.length c) := (bc (bB HG.o hb) 0).trans rfl; have k1 : w1.cell? ⟨g, 1, none⟩ = some (.slice B lb.length d) := (bc (bB HG.o hb) 1).trans rfl; have HR := zK hR; have HB1 := zK hb; clear hR hb hgr)
 refine wp_loop_rounds 3 ?_
 rw [rounds_succ]
 go_wp2_with (((with_reducible refine gate_builtin (b := .append) (xs := #[.tmp 31, .tmp 32]) rfl ?_); at_builtin; refine Kd.R_append_rows (Kd.int .i64) (w0 := w) w.heap.size rfl (.tmp 31) (.tmp 32) 24 3 (.int .i64 0) 8 rfl Try.underlying24 (by kernel_rfl) rfl (by decide) (by omega) v1 ([] : List Int) la _ _ _ (fun k_ => w.heap.size ≤ k_) (fun _ => False) rfl rfl ?aO ?aR (fun _ _ h => h) (fun _ h => h.elim) ?aF ?aB ?aS ?aL ?_; (case aR => exact Kd.C_below HA.o HB1.o); (case aB => exact HB1.o); (case aF => exact (fun k hk => by have := HB1.o.size; omega)); (case aO => exact HR.o); (case aS => exact HB1.o.size); (case aL => (try simp only [List.length_nil, List.length_append]); omega); intro v2 w2 ho hb hg hat; have HR2 := zK (show Kd.R (Kd.int .i64) 3 w2 w.heap.size (fun k_ => w.heap.size ≤ k_) v2 la from ho); have HB2 := zK hb; clear ho hb hg hat))
 have k2 : w2.cell? ⟨g, 1, none⟩ = some (.slice B lb.length d) := (bc (bB HG.o HB2.o) 1).trans rfl
 rw [rounds_succ]
 go_wp2_with (((with_reducible refine gate_builtin (b := .append) (xs := #[.tmp 31, .tmp 32]) rfl ?_); at_builtin; refine Kd.R_append_rows (Kd.int .i64) (w0 := w) w.heap.size rfl (.tmp 31) (.tmp 32) 24 3 (.int .i64 0) 8 rfl Try.underlying24 (by kernel_rfl) rfl (by decide) (by omega) v2 la lb _ _ _ (fun k_ => w.heap.size ≤ k_) (fun _ => False) rfl rfl ?aO ?aR (fun _ _ h => h) (fun _ h => h.elim) ?aF ?aB ?aS ?aL ?_; (case aR => exact Kd.C_below HBr.o HB2.o); (case aB => exact HB2.o); (case aF => exact (fun k hk => by have := HB2.o.size; omega)); (case aO => exact HR2.o); (case aS => exact HB2.o.size); (case aL => (try simp only [List.length_nil, List.length_append]); omega); intro v3 w3 ho hb hg hat; have HR3 := zK ho; have HB3 := zK hb; clear ho hb hg hat))
 rw [rounds_succ]
 go_wp2
 go_ret
 exact ⟨_, rfl, HR3.o, HB3.o⟩
def impl_united.f (l0 : List Int) (l1 : List Int) : Option (List Int) := if l0.length + l1.length < 17592186044416 then some (Lib.compact ((l0 ++ l1).mergeSort fun x y => decide (x ≤ y))) else none
theorem impl_united.calls (A0 : Option Addr) (c0 : Nat) (l0 : List Int) (A1 : Option Addr) (c1 : Nat) (l1 : List Int) (r : List Int) (w : World) (hr0 : Kd.C (Kd.int .i64) w A0 l0.length l0) (hc0 : l0.length ≤ c0) (hr1 : Kd.C (Kd.int .i64) w A1 l1.length l1) (hc1 : l1.length ≤ c1) (h : impl_united.f l0 l1 = some r) :
  Calls Try.prog 86 #[.slice A0 l0.length c0, .slice A1 l1.length c1] w fun e w' => ∃ v0_ : Value, e = .returned (v0_) ∧ Kd.R (Kd.int .i64) 3 w' w.heap.size (fun _ => True) v0_ r ∧ Below w.heap.size w w' := by
 unfold impl_united.f at h
 split at h
 rotate_left
 ·cases h
 rename_i hl
 have h := Option.some.inj h
 have HR0 := zK hr0
 have HR1 := zK hr1
 have H := zK h
 clear h hr0 hr1
 go_enter Try.func86, Try.ntmps86
 go_wp2_with (first
  | (go_at_call 136; refine (concat2 w.heap.size A0 A1 c0 c1 l0 l1 _ (heap_alloc_new w _) (Kd.CA HR0.o _) (Kd.CA HR1.o _) hc0 hc1 hl).mono ?_; rintro e w1 ⟨v1, rfl, hR, hb⟩; have HB := zK (show Below w.heap.size w w1 from bT (bA (Below.refl _ _) _) hb); have HU := zK (show Kd.R (Kd.int .i64) 3 w1 w.heap.size (fun _ => True) v1 (l0 ++ l1) from Kd.R_lower (Kd.R_mono hR (fun _ _ => trivial)) (by rw [World.size_alloc]; omega)); clear hR hb)
  | (go_at_call 105; refine (Go.Proofs.Ytejhjenlodclpaa.Slc.sort_row (w0 := w) Try.sortInt HB.o HU.o (by rw [List.length_append]; omega)).mono ?_; rintro e w2 ⟨rfl, hR, hb, _⟩; have HB2 := zK hb; have HU2 := zK (Kd.R_mono hR (fun _ _ => trivial) : Kd.R (Kd.int .i64) 3 w2 w.heap.size (fun _ => True) v1 ((l0 ++ l1).mergeSort fun x y => decide (x ≤ y))); clear hR hb)
  | (go_at_call 137; refine (Go.Proofs.Ytejhjenlodclpaa.Slc.compact_row (w0 := w) Try.compactInt HB2.o HU2.o).mono ?_; rintro e w3 ⟨v3, rfl, hR, hb⟩; have HB3 := zK hb; have HU3 := zK hR; clear hR hb))
 go_ret
 rw [← H.o]
 exact ⟨_, rfl, HU3.o, HB3.o⟩
/-! ### impl_HintsOf: function 15 -/
def impl_HintsOf.l0 : Nat → Int → List Int → List (S113) → Int → Int → Option (List Int)
 | 0, _, _, _, _, _ => none
 | k + 1, x1, x5, x13, x14, x15 => if x15 < x14 then (if 0 ≤ x15 then (if x15 < (x13.length : Int) then ((impl_HintOf.f k ((rd_T113 x13 x15).f0.f0) ((rd_T113 x13 x15).f0.f1) ((rd_T113 x13 x15).f0.f2) ((rd_T113 x13 x15).f0.f3) ((rd_T113 x13 x15).f0.f4) x1).bind fun t135 => (if x5.length < 17592186044416 then (impl_HintsOf.l0 k x1 (x5 ++ [t135]) x13 x14 (wrap64 (x15 + 1))) else (none))) else (none)) else (none)) else ((impl_united.f x5 ([] : List Int)).bind fun t139 => (some t139))
def impl_HintsOf.f (k : Nat) (l0 : List (S113)) (a1 : Int) : Option (List Int) := (impl_AreFinds.f k l0).bind fun t126 => (if t126 = true then (impl_HintsOf.l0 k a1 (([] : List Int)) l0 (l0.length : Int) 0) else (some (([] : List Int))))
theorem impl_HintsOf.calls (k : Nat) (A0 : Option Addr) (c0 : Nat) (l0 : List (S113)) (a1 : Int) (r : List Int) (w : World) (hr0 : Kd.C k113 w A0 l0.length l0) (hc0 : l0.length ≤ c0) (h : impl_HintsOf.f k l0 a1 = some r) :
  Calls Try.prog 15 #[.slice A0 l0.length c0, .int .i64 a1] w fun e w' => ∃ v0_ : Value, e = .returned (v0_) ∧ Kd.R (Kd.int .i64) 3 w' w.heap.size (fun _ => True) v0_ r ∧ Below w.heap.size w w' := by
 have hu113 := Try.underlying113
 have hu111 := Try.underlying111
 have HR0 := zK hr0
 have HC0 := zK hc0
 clear hr0 hc0
 have HB := zK (Below.refl w.heap.size w)
 have H : ((impl_AreFinds.f k l0).bind fun t126 => (if t126 = true then (impl_HintsOf.l0 k a1 (([] : List Int)) l0 (l0.length : Int) 0) else (some (([] : List Int))))) = some r := h
 clear h
 replace H := Option.bind_eq_some_iff.mp H
 obtain ⟨t126, A30, H⟩ := H
 try dsimp only at H
 have A3 := zK A30
 clear A30
 by_cases c4 : t126 = true
 rotate_left
 ·replace c4 := Bool.eq_false_iff.mpr c4
  subst c4
  have H1 : (some (([] : List Int))) = some r := by rw [if_neg (show ¬ (false = true) by decide)] at H; exact H
  clear H
  have H := H1
  clear H1
  obtain ⟨y127, hy127⟩ : ∃ y_ : List Int, y_ = (([] : List Int)) := ⟨_, rfl⟩
  replace H : (some y127) = some r := have he_ := hy127; rH
  have Ny127 := zK hy127
  clear hy127
  obtain rfl := Option.some.inj H
  go_enter Try.func15, Try.ntmps15
  go_wp2_with (first | ((with_reducible refine gc (f := 76) rfl ?_); refine gL (some 9) Try.func76 #[.slice A0 l0.length c0] ?_; (with_reducible refine (impl_AreFinds.calls k _ _ l0 false _ ?side1 ?side2 A3.o).mono ?_); (case side1 => exact Kd.qC HR0.o); (case side2 => exact HC0.o); rintro e w20 ⟨rfl, hb⟩; refine ⟨_, rfl, ?_⟩; have _ := zK (bT (qB HB.o) hb); clear HB; rename_i HB; clear hb) | ((with_reducible refine gd (N := 11) rfl ?_); refine Kd.R_lit (Kd.int .i64) _ 3 ?hg (N := 11) ?hd (xs := ([] : List Int)) (inner := []) (ok := fun _ => True) (okp := fun _ => True) ?hr ?hp (fun _ hk => hk) trivial (Below.refl _ _) (Nat.le_refl _) (by simp) ?_; (case hd => rfl); (case hg => rfl); (case hr => first | (go_simp; done) | (go_simp; rfl)); (case hp => exact (Reps.none _ _)); intro v128 w21 ho22 hb hg_ hnew_; clear hg_ hnew_; (first | rw [← Ny127.o] at ho22 | (simp only [Int.reduceToNat] at ho22; rw [← Ny127.o] at ho22)); have _ := zK (Kd.R_lower ho22 (bZ (qB HB.o))); have _ := zK (bT (qB HB.o) hb); clear HB; rename_i HO129 HB; clear hb ho22))
  go_ret
  exact ⟨_, o0, by exact Kd.qR HO129.o, o8⟩
 subst c4
 have H1 : (impl_HintsOf.l0 k a1 (([] : List Int)) l0 (l0.length : Int) 0) = some r := by rw [if_pos rfl] at H; exact H
 clear H
 have H := H1
 clear H1
 obtain ⟨y130, hy130⟩ : ∃ y_ : List Int, y_ = (([] : List Int)) := ⟨_, rfl⟩
 replace H : (impl_HintsOf.l0 k a1 y130 l0 (l0.length : Int) 0) = some r := have he_ := hy130; rH
 have Ny130 := zK hy130
 clear hy130
 have H' := zK H
 clear H
 go_enter Try.func15, Try.ntmps15
 go_wp2_with (first | ((with_reducible refine gc (f := 76) rfl ?_); refine gL (some 9) Try.func76 #[.slice A0 l0.length c0] ?_; (with_reducible refine (impl_AreFinds.calls k _ _ l0 true _ ?side1 ?side2 A3.o).mono ?_); (case side1 => exact Kd.qC HR0.o); (case side2 => exact HC0.o); rintro e w5 ⟨rfl, hb⟩; refine ⟨_, rfl, ?_⟩; have _ := zK (bT (qB HB.o) hb); clear HB; rename_i HB; clear hb) | ((with_reducible refine gd (N := 12) rfl ?_); refine Kd.R_lit (Kd.int .i64) _ 3 ?hg (N := 12) ?hd (xs := ([] : List Int)) (inner := []) (ok := fun _ => True) (okp := fun _ => True) ?hr ?hp (fun _ hk => hk) trivial (Below.refl _ _) (Nat.le_refl _) (by simp) ?_; (case hd => rfl); (case hg => rfl); (case hr => first | (go_simp; done) | (go_simp; rfl)); (case hp => exact (Reps.none _ _)); intro v131 w6 ho7 hb hg_ hnew_; clear hg_ hnew_; (first | rw [← Ny130.o] at ho7 | (simp only [Int.reduceToNat] at ho7; rw [← Ny130.o] at ho7)); have _ := zK (Kd.R_lower ho7 (bZ (qB HB.o))); have _ := zK (bT (qB HB.o) hb); clear HB; rename_i HO132 HB; clear hb ho7))
 go_loopg [5, 15] k (fun kq v5 v15 w' => ∃ (x5_1 : List Int) (x15_1 : Int), v15 = .int .i64 x15_1 ∧ Aside0 (impl_HintsOf.l0 kq a1 x5_1 l0 (l0.length : Int) x15_1 = some r) ∧ Aside0 (kq ≤ k) ∧ Aside0 (Kd.R (Kd.int .i64) 3 w' w.heap.size (fun _ => True) v5 x5_1) ∧ Aside0 (Below w.heap.size w w'))
 case atStart => exact ⟨(y130), (0), M12, H', ⟨Nat.le_refl _⟩, ⟨by exact Kd.qR HO132.o⟩, ⟨o8⟩⟩
 case round =>
  clear H'
  try clear c1
  try clear p2
  try clear c4
  try clear c7
  obtain ⟨x5_1, x15_1, rfl, HA, HK1, HO_5, HB⟩ := hrel
  cases gk with
  | zero => exact absurd HA.o (by simp [impl_HintsOf.l0])
  | succ k1 =>
   have H := HA.o
   clear HA
   simp only [impl_HintsOf.l0] at H
   by_cases c8 : x15_1 < (l0.length : Int)
   rotate_left
   ·rw [if_neg c8] at H
    have c8b0 : decide (x15_1 < (l0.length : Int)) = false := decide_eq_false c8
    clear c8
    replace H := Option.bind_eq_some_iff.mp H
    obtain ⟨t139, A170, H⟩ := H
    replace H : (some t139) = some r := H
    have A17 := zK A170
    clear A170
    obtain rfl := Option.some.inj H
    obtain ⟨Ao18, co18, eo18⟩ := Kd.R_slice HO_5.o
    subst eo18
    go_wp2_with (first | ((with_reducible refine gc (f := 86) rfl ?_); refine gL (some 28) Try.func86 #[.slice Ao18 x5_1.length co18, .slice none 0 0] ?_; (refine (impl_united.calls _ _ x5_1 _ _ ([] : List Int) t139 _ ?side1 ?side2 ?side3 ?side4 A17.o).mono ?_); (case side1 => exact Kd.qC (Kd.R_reads' HO_5.o).2.2); (case side2 => exact (Kd.R_reads' HO_5.o).2.1); (case side3 => exact Kd.C_nil _ _); (case side4 => exact Nat.le_refl _); rintro e w19 ⟨v140, rfl, ho0, hb⟩; refine ⟨_, rfl, ?_⟩; have _ := zK (Kd.R_elder' (Kd.qR HO_5.o) (Kd.R_base ho0) hb); have _ := zK (Kd.R_lower (Kd.R_new' ho0 (Kd.R_lt (Kd.qR HO_5.o))) (bZ (qB HB.o))); have _ := zK (bT (qB HB.o) hb); clear HO_5 HB; rename_i HO_5 HO141 HB; clear hb ho0))
    go_ret
    exact ⟨_, o0, by (with_reducible repeat (first | apply Kd.RA | apply Kd.RN | apply Kd.RD)); exact Kd.R_mono HO141.o (fun _ hk => trivial), o8⟩
   rw [if_pos c8] at H
   have c8b0 : decide (x15_1 < (l0.length : Int)) = true := decide_eq_true c8
   clear c8
   by_cases c9 : 0 ≤ x15_1
   rotate_left
   ·rw [if_neg c9] at H
    exact absurd H (by simp)
   rw [if_pos c9] at H
   have c9b0 : decide (0 ≤ x15_1) = true := decide_eq_true c9
   clear c9
   by_cases c10 : x15_1 < (l0.length : Int)
   rotate_left
   ·rw [if_neg c10] at H
    exact absurd H (by simp)
   rw [if_pos c10] at H
   have c10b0 : decide (x15_1 < (l0.length : Int)) = true := decide_eq_true c10
   clear c10
   replace H := Option.bind_eq_some_iff.mp H
   obtain ⟨t135, A110, H⟩ := H
   try dsimp only at H
   have A11 := zK A110
   clear A110
   by_cases c12 : x5_1.length < 17592186044416
   rotate_left
   ·rw [if_neg c12] at H
    exact absurd H (by simp)
   rw [if_pos c12] at H
   have LMc12 := zK c12
   clear c12
   obtain ⟨y136, hy136⟩ : ∃ y_ : List Int, y_ = (x5_1 ++ [t135]) := ⟨_, rfl⟩
   replace H : (impl_HintsOf.l0 k1 a1 y136 l0 (l0.length : Int) (wrap64 (x15_1 + 1))) = some r := have he_ := hy136; rH
   have Ny136 := zK hy136
   clear hy136
   have H' := zK H
   clear H
   have p133 : 0 ≤ (x15_1 : Int) := oD M4
   have q133 : x15_1 < (l0.length : Int) := oD M4
   obtain ⟨ad133, e133, hx133_0, hx133_1, hx133_2, hx133_3, hx133_4, hx133_5, hx133_6, hx133_7⟩ := at_T113 HR0.o x15_1 p133 q133
   cases e133
   replace hx133_0 := cB HB.o hx133_0
   replace hx133_1 := cB HB.o hx133_1
   replace hx133_2 := cB HB.o hx133_2
   replace hx133_3 := cB HB.o hx133_3
   replace hx133_4 := cB HB.o hx133_4
   replace hx133_5 := cB HB.o hx133_5
   replace hx133_6 := cB HB.o hx133_6
   replace hx133_7 := cB HB.o hx133_7
   replace p133 := eq_true p133
   replace q133 := eq_true q133
   go_wp2_with (first | ((with_reducible refine gd (N := 7) rfl ?_); refine bE (N := 7) (cs := #[.int .i64 0, .int .i64 0, .int .i64 0, .int .i64 0, .int .i64 0, .int .i64 0, .int .i64 0, .int .i64 0]) (t := 113) ?_; intro gb134 hg w13 hbox hb; have _ := zK (Kd.R_below (Kd.qR HO_5.o) hb); have _ := zK (bT (qB HB.o) hb); have _ := zK (hbox); have _ := zK ((by rw [hg]; exact (bZ (qB HB.o)) : w.heap.size ≤ gb134)); have _ := zK ((by rw [hg]; exact (bZ (qB HB.o)) : w.heap.size ≤ gb134)); clear HO_5 HB; rename_i HO_5 HB BK134 GW134 GE134; clear hb hbox hg; obtain ⟨hcz14_0, hcz14_1, hcz14_2, hcz14_3, hcz14_4, hcz14_5, hcz14_6, hcz14_7, hfz14_0, hfz14_1, hfz14_2, hfz14_3, hfz14_4, hfz14_5, hfz14_6, hfz14_7⟩ := bx8 BK134.o) | ((with_reducible refine gc (f := 77) rfl ?_); refine goesL_ (some 23) rfl rfl Try.func77 (by kernel_rfl) rfl #[.agg #[.int .i64 ((rd_T113 l0 x15_1).f0.f0), .int .i64 ((rd_T113 l0 x15_1).f0.f1), .int .i64 ((rd_T113 l0 x15_1).f0.f2), .int .i64 ((rd_T113 l0 x15_1).f0.f3), .int .i64 ((rd_T113 l0 x15_1).f0.f4)], .int .i64 a1] rfl M0 ?_; (with_reducible refine (impl_HintOf.calls k1 ((rd_T113 l0 x15_1).f0.f0) ((rd_T113 l0 x15_1).f0.f1) ((rd_T113 l0 x15_1).f0.f2) ((rd_T113 l0 x15_1).f0.f3) ((rd_T113 l0 x15_1).f0.f4) a1 t135 _ A11.o).mono ?_); rintro e w15 ⟨rfl, hb⟩; refine ⟨_, rfl, ?_⟩; have _ := zK (Kd.R_below (Kd.qF HO_5.o BK134.o) hb); have _ := zK (bB (g := gb134) (o := .cells #[.int .i64 ((rd_T113 l0 x15_1).f0.f0), .int .i64 ((rd_T113 l0 x15_1).f0.f1), .int .i64 ((rd_T113 l0 x15_1).f0.f2), .int .i64 ((rd_T113 l0 x15_1).f0.f3), .int .i64 ((rd_T113 l0 x15_1).f0.f4), .int .i64 ((rd_T113 l0 x15_1).f1), .int .i64 ((rd_T113 l0 x15_1).f2), .int .i64 ((rd_T113 l0 x15_1).f3)] 113 (0, 0)) (qP BK134.o) hb); have _ := zK (bT (qX HB.o) hb); clear HO_5 BK134 HB; rename_i HO_5 BK134 HB; clear hb) | ((with_reducible refine gate_builtin (b := .append) (xs := #[.tmp 19, .tmp 24]) rfl ?_); at_builtin; refine Kd.R_append (Kd.int .i64) (w0 := w) w.heap.size rfl (.tmp 19) (.tmp 24) 24 3 (.int .i64 0) 8 rfl Try.underlying24 info3 rfl (by decide) (by omega) u5 x5_1 t135 [.int .i64 t135] (fun _ => True) (fun _ => False) rfl rfl ?aP (fun _ hk => hk.elim) ?aF ?aO ?aB ?aS ?aL ?_; (case aP => exact rfl); (case aB => exact (qX HB.o)); (case aF => exact (fun _ _ => trivial)); (case aO => exact (Kd.qR HO_5.o)); (case aS => exact (bZ (qX HB.o))); (case aL => have := LMc12.o; omega); intro v137 w16 ho hb hg hat; rw [← Ny136.o] at ho; have _ := zK (blk_grown (qK BK134.o) hg (Kd.R_ne HO_5.o BK134.o (by decide))); have _ := zK (hb); have _ := zK (ho); clear BK134 HB HO_5; rename_i BK134 HB HO138; clear ho hb hg hat))
   go_roundg k1
   case measure => have := HK1.o; omega
   case rel => exact ⟨(y136), (wrap64 (x15_1 + 1)), M12, H', ⟨o6⟩, ⟨by exact Kd.qR HO138.o⟩, ⟨o3⟩⟩
/-! ### impl_isAscending: function 141 -/
def impl_isAscending.l0 : Nat → List Int → Int → Int → List Int → Int → Int → Option (Bool)
 | 0, _, _, _, _, _, _ => none
 | k + 1, x0, x1, x2, x9, x10, x11 => if x11 < x10 then (if 0 ≤ x11 then (if x11 < (x9.length : Int) then ((impl_InRange.f (rd x9 x11) x1 x2).bind fun t143 => (if t143 = true then (if x11 > 0 then (if 0 ≤ (wrap64 (x11 - 1)) then (if (wrap64 (x11 - 1)) < (x0.length : Int) then (if (rd x9 x11) ≤ (rd x0 (wrap64 (x11 - 1))) then (some false) else (impl_isAscending.l0 k x0 x1 x2 x9 x10 (wrap64 (x11 + 1)))) else (none)) else (none)) else (impl_isAscending.l0 k x0 x1 x2 x9 x10 (wrap64 (x11 + 1)))) else (some false))) else (none)) else (none)) else (some true)
def impl_isAscending.f (k : Nat) (l0 : List Int) (a1 : Int) (a2 : Int) : Option (Bool) := impl_isAscending.l0 k l0 a1 a2 l0 (l0.length : Int) 0
theorem impl_isAscending.calls (k : Nat) (A0 : Option Addr) (c0 : Nat) (l0 : List Int) (a1 : Int) (a2 : Int) (r : Bool) (w : World) (hr0 : Kd.C (Kd.int .i64) w A0 l0.length l0) (hc0 : l0.length ≤ c0) (h : impl_isAscending.f k l0 a1 a2 = some r) :
  Calls Try.prog 141 #[.slice A0 l0.length c0, .int .i64 a1, .int .i64 a2] w fun e w' => e = .returned (.bool r) ∧ Drawn0 w w' := by
 have HR0 := zK hr0
 have HC0 := zK hc0
 clear hr0 hc0
 have H : (impl_isAscending.l0 k l0 a1 a2 l0 (l0.length : Int) 0) = some r := h
 clear h
 have H' := zK H
 clear H
 go_enter Try.func141, Try.ntmps141
 go_wp2
 go_loopg [11] k (fun kq v11 w' => ∃ (x11_1 : Int), v11 = .int .i64 x11_1 ∧ Aside0 (impl_isAscending.l0 kq l0 a1 a2 l0 (l0.length : Int) x11_1 = some r) ∧ Aside0 (kq ≤ k) ∧ Drawn0 w w')
 case atStart => exact ⟨(0), M12, H', ⟨Nat.le_refl _⟩, Q4⟩
 case round =>
  clear H'
  try clear c1
  try clear p2
  obtain ⟨x11_1, rfl, HA, HK1, ⟨m1, rfl⟩⟩ := hrel
  cases gk with
  | zero => exact absurd HA.o (by simp [impl_isAscending.l0])
  | succ k1 =>
   have H := HA.o
   clear HA
   simp only [impl_isAscending.l0] at H
   by_cases c4 : x11_1 < (l0.length : Int)
   rotate_left
   ·rw [if_neg c4] at H
    have c4b0 : decide (x11_1 < (l0.length : Int)) = false := decide_eq_false c4
    clear c4
    obtain rfl := Option.some.inj H
    go_wp2
    go_ret
    exact ⟨o2, Q4⟩
   rw [if_pos c4] at H
   have c4b0 : decide (x11_1 < (l0.length : Int)) = true := decide_eq_true c4
   clear c4
   by_cases c5 : 0 ≤ x11_1
   rotate_left
   ·rw [if_neg c5] at H
    exact absurd H (by simp)
   rw [if_pos c5] at H
   have c5b0 : decide (0 ≤ x11_1) = true := decide_eq_true c5
   clear c5
   by_cases c6 : x11_1 < (l0.length : Int)
   rotate_left
   ·rw [if_neg c6] at H
    exact absurd H (by simp)
   rw [if_pos c6] at H
   have c6b0 : decide (x11_1 < (l0.length : Int)) = true := decide_eq_true c6
   clear c6
   replace H := Option.bind_eq_some_iff.mp H
   obtain ⟨t143, A70, H⟩ := H
   try dsimp only at H
   have A7 := zK A70
   clear A70
   by_cases c8 : t143 = true
   rotate_left
   ·replace c8 := Bool.eq_false_iff.mpr c8
    subst c8
    have H1 : (some false) = some r := by rw [if_neg (show ¬ (false = true) by decide)] at H; exact H
    clear H
    have H := H1
    clear H1
    obtain rfl := Option.some.inj H
    have p142 : 0 ≤ (x11_1 : Int) := oD M4
    have q142 : x11_1 < (l0.length : Int) := oD M4
    obtain ⟨ad142, e142, hx142_0⟩ := Kd.at_int HR0.o x11_1 p142 q142
    cases e142
    replace p142 := eq_true p142
    replace q142 := eq_true q142
    go_wp2_with (first | ((with_reducible refine gc (f := 106) rfl ?_); refine gL (some 19) Try.func106 #[.int .i64 (rd l0 x11_1), .int .i64 a1, .int .i64 a2] ?_; (with_reducible refine (impl_InRange.calls (rd l0 x11_1) a1 a2 false _ A7.o).mono ?_); rintro e w' ⟨rfl, ⟨nd, rfl⟩⟩; refine ⟨_, rfl, ?_⟩))
    go_ret
    exact ⟨o2, Q4⟩
   subst c8
   have H1 : (if x11_1 > 0 then (if 0 ≤ (wrap64 (x11_1 - 1)) then (if (wrap64 (x11_1 - 1)) < (l0.length : Int) then (if (rd l0 x11_1) ≤ (rd l0 (wrap64 (x11_1 - 1))) then (some false) else (impl_isAscending.l0 k1 l0 a1 a2 l0 (l0.length : Int) (wrap64 (x11_1 + 1)))) else (none)) else (none)) else (impl_isAscending.l0 k1 l0 a1 a2 l0 (l0.length : Int) (wrap64 (x11_1 + 1)))) = some r := by rw [if_pos rfl] at H; exact H
   clear H
   have H := H1
   clear H1
   by_cases c9 : x11_1 > 0
   rotate_left
   ·rw [if_neg c9] at H
    have c9b0 : decide (0 < x11_1) = false := decide_eq_false c9
    clear c9
    have H' := zK H
    clear H
    have p142 : 0 ≤ (x11_1 : Int) := oD M4
    have q142 : x11_1 < (l0.length : Int) := oD M4
    obtain ⟨ad142, e142, hx142_0⟩ := Kd.at_int HR0.o x11_1 p142 q142
    cases e142
    replace p142 := eq_true p142
    replace q142 := eq_true q142
    go_wp2_with (first | ((with_reducible refine gc (f := 106) rfl ?_); refine gL (some 19) Try.func106 #[.int .i64 (rd l0 x11_1), .int .i64 a1, .int .i64 a2] ?_; (with_reducible refine (impl_InRange.calls (rd l0 x11_1) a1 a2 true _ A7.o).mono ?_); rintro e w' ⟨rfl, ⟨nd, rfl⟩⟩; refine ⟨_, rfl, ?_⟩))
    go_roundg k1
    case measure => have := HK1.o; omega
    case rel => exact ⟨(wrap64 (x11_1 + 1)), M12, H', ⟨o6⟩, Q4⟩
   rw [if_pos c9] at H
   have c9b0 : decide (0 < x11_1) = true := decide_eq_true c9
   clear c9
   obtain ⟨ji10, hji10⟩ : ∃ j_ : Int, (wrap64 (x11_1 - 1)) = j_ := ⟨_, rfl⟩
   replace H : (if 0 ≤ (ji10) then (if (ji10) < (l0.length : Int) then (if (rd l0 x11_1) ≤ (rd l0 (ji10)) then (some false) else (impl_isAscending.l0 k1 l0 a1 a2 l0 (l0.length : Int) (wrap64 (x11_1 + 1)))) else (none)) else (none)) = some r := by first | (rw [hji10] at H; exact H) | (simp only [hji10] at H ⊢; exact H)
   (try rw [hji10] at A7)
   have hji10w : (IntKind.i64.wrap (x11_1 - 1)) = ji10 := (i64_w _).trans hji10
   by_cases c11 : 0 ≤ (ji10)
   rotate_left
   ·rw [if_neg c11] at H
    exact absurd H (by simp)
   rw [if_pos c11] at H
   have c11b0 : decide (0 ≤ (ji10)) = true := decide_eq_true c11
   clear c11
   by_cases c12 : (ji10) < (l0.length : Int)
   rotate_left
   ·rw [if_neg c12] at H
    exact absurd H (by simp)
   rw [if_pos c12] at H
   have c12b0 : decide ((ji10) < (l0.length : Int)) = true := decide_eq_true c12
   clear c12
   by_cases c13 : (rd l0 x11_1) ≤ (rd l0 (ji10))
   ·rw [if_pos c13] at H
    have c13b0 : decide ((rd l0 x11_1) ≤ (rd l0 (ji10))) = true := decide_eq_true c13
    clear c13
    obtain rfl := Option.some.inj H
    have p142 : 0 ≤ (x11_1 : Int) := oD M4
    have q142 : x11_1 < (l0.length : Int) := oD M4
    obtain ⟨ad142, e142, hx142_0⟩ := Kd.at_int HR0.o x11_1 p142 q142
    cases e142
    replace p142 := eq_true p142
    replace q142 := eq_true q142
    go_wp2_with (first | ((with_reducible refine gc (f := 106) rfl ?_); refine gL (some 19) Try.func106 #[.int .i64 (rd l0 x11_1), .int .i64 a1, .int .i64 a2] ?_; (with_reducible refine (impl_InRange.calls (rd l0 x11_1) a1 a2 true _ A7.o).mono ?_); rintro e w' ⟨rfl, ⟨nd, rfl⟩⟩; refine ⟨_, rfl, ?_⟩; have p144 : 0 ≤ ((ji10) : Int) := oD M4; have q144 : (ji10) < (l0.length : Int) := oD M4; obtain ⟨ad144, e144, hx144_0⟩ := Kd.at_int HR0.o (ji10) p144 q144; obtain rfl : ad142 = ad144 := (by injection e144); replace p144 := eq_true p144; replace q144 := eq_true q144))
    go_ret
    exact ⟨by first | rfl | (simp; done) | (simp only [← hji10] <;> (first | rfl | simp)) | (simp [*]; done), Q4⟩
   rw [if_neg c13] at H
   have c13b0 : decide ((rd l0 x11_1) ≤ (rd l0 (ji10))) = false := decide_eq_false c13
   clear c13
   have H' := zK H
   clear H
   have p142 : 0 ≤ (x11_1 : Int) := oD M4
   have q142 : x11_1 < (l0.length : Int) := oD M4
   obtain ⟨ad142, e142, hx142_0⟩ := Kd.at_int HR0.o x11_1 p142 q142
   cases e142
   replace p142 := eq_true p142
   replace q142 := eq_true q142
   go_wp2_with (first | ((with_reducible refine gc (f := 106) rfl ?_); refine gL (some 19) Try.func106 #[.int .i64 (rd l0 x11_1), .int .i64 a1, .int .i64 a2] ?_; (with_reducible refine (impl_InRange.calls (rd l0 x11_1) a1 a2 true _ A7.o).mono ?_); rintro e w' ⟨rfl, ⟨nd, rfl⟩⟩; refine ⟨_, rfl, ?_⟩; have p144 : 0 ≤ ((ji10) : Int) := oD M4; have q144 : (ji10) < (l0.length : Int) := oD M4; obtain ⟨ad144, e144, hx144_0⟩ := Kd.at_int HR0.o (ji10) p144 q144; obtain rfl : ad142 = ad144 := (by injection e144); replace p144 := eq_true p144; replace q144 := eq_true q144))
   go_roundg k1
   case measure => have := HK1.o; omega
   case rel => exact ⟨(wrap64 (x11_1 + 1)), M12, H', ⟨o6⟩, Q4⟩
/-! ### impl_IsSpan: function 142 -/
def impl_IsSpan.f (a0_0 : Int) (a0_1 : Int) : Option (Bool) := (impl_InRange.f a0_0 0 100000).bind fun t146 => (if t146 = true then ((impl_InRange.f a0_1 0 100000).bind fun t147 => (if t147 = true then (some (decide (a0_0 ≤ a0_1))) else (some false))) else (some false))
theorem lf3_1 {p : Prop} (h : p := by
  go_enter Try.func142, Try.ntmps142
  go_wp2_with (first | ((with_reducible refine gd (N := 1) rfl ?_); refine bE (N := 1) (cs := #[.int .i64 a0_0, .int .i64 a0_1]) (t := 39) ?_; intro gb145 hg wz0 hbox hb; have _ := zK (bT (qB HB.o) hb); have _ := zK (hbox); have _ := zK ((by rw [hg]; exact (bZ (qB HB.o)) : w.heap.size ≤ gb145)); have _ := zK ((by rw [hg]; exact (bZ (qB HB.o)) : w.heap.size ≤ gb145)); clear HB; rename_i HB BK145 GW145 GE145; clear hb hbox hg; obtain ⟨hczz0_0, hczz0_1, hfzz0_0, hfzz0_1⟩ := bx2 BK145.o) | ((with_reducible refine gc (f := 106) rfl ?_); refine gL (some 5) Try.func106 #[.int .i64 a0_0, .int .i64 0, .int .i64 100000] ?_; (with_reducible refine (impl_InRange.calls a0_0 0 100000 true _ A2.o).mono ?_); rintro e w' ⟨rfl, ⟨nd, rfl⟩⟩; refine ⟨_, rfl, ?_⟩) | (go_at_call 106; (with_reducible refine (impl_InRange.calls a0_1 0 100000 false _ A4.o).mono ?_); rintro e w' ⟨rfl, ⟨nd, rfl⟩⟩) | (go_at_call 106; (with_reducible refine (impl_InRange.calls a0_1 0 100000 true _ A4.o).mono ?_); rintro e w' ⟨rfl, ⟨nd, rfl⟩⟩))
  go_ret
  exact ⟨o0, o3⟩) : p := h
theorem impl_IsSpan.calls (a0_0 : Int) (a0_1 : Int) (r : Bool) (w : World) (h : impl_IsSpan.f a0_0 a0_1 = some r) :
  Calls Try.prog 142 #[.agg #[.int .i64 a0_0, .int .i64 a0_1]] w fun e w' => e = .returned (.bool r) ∧ Below w.heap.size w w' := by
 have hu39 := Try.underlying39
 have HB := zK (Below.refl w.heap.size w)
 have H : ((impl_InRange.f a0_0 0 100000).bind fun t146 => (if t146 = true then ((impl_InRange.f a0_1 0 100000).bind fun t147 => (if t147 = true then (some (decide (a0_0 ≤ a0_1))) else (some false))) else (some false))) = some r := h
 clear h
 replace H := Option.bind_eq_some_iff.mp H
 obtain ⟨t146, A20, H⟩ := H
 try dsimp only at H
 have A2 := zK A20
 clear A20
 by_cases c3 : t146 = true
 rotate_left
 ·replace c3 := Bool.eq_false_iff.mpr c3
  subst c3
  have H1 : (some false) = some r := by rw [if_neg (show ¬ (false = true) by decide)] at H; exact H
  clear H
  have H := H1
  clear H1
  obtain rfl := Option.some.inj H
  go_enter Try.func142, Try.ntmps142
  go_wp2_with (first | ((with_reducible refine gd (N := 1) rfl ?_); refine bE (N := 1) (cs := #[.int .i64 a0_0, .int .i64 a0_1]) (t := 39) ?_; intro gb145 hg w10 hbox hb; have _ := zK (bT (qB HB.o) hb); have _ := zK (hbox); have _ := zK ((by rw [hg]; exact (bZ (qB HB.o)) : w.heap.size ≤ gb145)); have _ := zK ((by rw [hg]; exact (bZ (qB HB.o)) : w.heap.size ≤ gb145)); clear HB; rename_i HB BK145 GW145 GE145; clear hb hbox hg; obtain ⟨hcz11_0, hcz11_1, hfz11_0, hfz11_1⟩ := bx2 BK145.o) | ((with_reducible refine gc (f := 106) rfl ?_); refine gL (some 5) Try.func106 #[.int .i64 a0_0, .int .i64 0, .int .i64 100000] ?_; (with_reducible refine (impl_InRange.calls a0_0 0 100000 false _ A2.o).mono ?_); rintro e w' ⟨rfl, ⟨nd, rfl⟩⟩; refine ⟨_, rfl, ?_⟩))
  go_ret
  exact ⟨o0, o3⟩

 subst c3
 have H1 : ((impl_InRange.f a0_1 0 100000).bind fun t147 => (if t147 = true then (some (decide (a0_0 ≤ a0_1))) else (some false))) = some r := by rw [if_pos rfl] at H; exact H
 clear H
 have H := H1
 clear H1
 replace H := Option.bind_eq_some_iff.mp H
 obtain ⟨t147, A40, H⟩ := H
 try dsimp only at H
 have A4 := zK A40
 clear A40
 by_cases c5 : t147 = true
 ·subst c5
  have H1 : (some (decide (a0_0 ≤ a0_1))) = some r := by rw [if_pos rfl] at H; exact H
  clear H
  have H := H1
  clear H1
  obtain rfl := Option.some.inj H
  exact lf3_1
 replace c5 := Bool.eq_false_iff.mpr c5
 subst c5
 have H1 : (some false) = some r := by rw [if_neg (show ¬ (false = true) by decide)] at H; exact H
 clear H
 have H := H1
 clear H1
 obtain rfl := Option.some.inj H
 exact lf3_1
end Go.Proofs.Ytejhjenlodclpaa.PFnHints
