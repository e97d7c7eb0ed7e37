/- Walks of functions that FnParcels reaches: written by a tool of the kit for this claim, then shortened by a program of ours. -/
import Derived.Test.YtejhjenlodclpaaPFnParcelsx0
import Derived.Test.YtejhjenlodclpaaPFnParcelsx1
import Derived.Test.YtejhjenlodclpaaPFnParcelsx2
/- narrow -/
namespace Go.Proofs.Ytejhjenlodclpaa.PFnParcels
open Go.RowKit Go.Proofs.YtejhjenlodclpaaW.PrintWords Go.Proofs.YtejhjenlodclpaaW.PrintLast Go.Proofs.YtejhjenlodclpaaW.PrintMore
attribute [local go_sem] max2_int min2_int max_two min_two max_three min_three max_four min_four   -- for this text's walks alone
set_option linter.unusedVariables false
set_option linter.unusedSimpArgs false

abbrev b3A0 : Array Bool := #[bo, bo, bo, bo, bo, bo, bo]
abbrev b3A1 : Array Bool := #[bo, bi, bo, bo, bo, bo, bo]
abbrev b3A2 : Array Bool := #[bo, bi, bo, bi, bo, bo, bo]
abbrev b3A3 : Array Bool := #[bi, bi, bi, bi, bi, bo, bo]
abbrev b3A4 : Array Bool := #[bi, bi, bo, bi, bo, bo, bo]
abbrev b3A5 : Array Bool := #[bo, bi, bo, bi, bi, bo, bo]
abbrev b3A6 : Array Bool := #[bi, bi, bi, bi, bo, bo, bo]
abbrev b3A7 : Array Bool := #[bi, bi, bo, bi, bi, bo, bo]
abbrev b3A8 : Array Bool := #[bi, bi, bi, bi, bi, bi, bo]
abbrev b3A9 : Array Bool := #[bi, bi, bi, bi, bi, bi, bi]
/-! ### spec_AddHand: function 111 -/
def spec_AddHand.j0 : Nat → List (S138) → Int → Int → Int → Int → Int → Int → Option ((List (S138)) × Bool)
 | 0, _, _, _, _, _, _, _ => none
 | k + 1, x0, x6, x138000, x138001, x138002, x138003, x138004 => (spec_HandSeal.f k x6 x138000 x138001 x138002 x138003 x138004).bind fun t139 => ((some (([] : List (S138)) : List (S138))).bind fun y140 => (if y140.length + x0.length < 3518437208883 then ((some (y140 ++ x0 : List (S138))).bind fun y143 => ((some (([(⟨x138000, x138001, x138002, x138003, t139⟩ : S138)] : List (S138)) : List (S138))).bind fun y146 => (if y143.length + y146.length < 3518437208883 then ((some (y143 ++ y146 : List (S138))).bind fun y149 => ((spec_IsChain.f k y149).bind fun t152 => (if t152 = true then (some (y149, true)) else ((some (([] : List (S138)) : List (S138))).bind fun y153 => (if y153.length + x0.length < 3518437208883 then (some ((y153 ++ x0), false)) else (none)))))) else (none)))) else (none)))
def spec_AddHand.f (k : Nat) (l0 : List (S138)) (a1_0 : Int) (a1_1 : Int) (a1_2 : Int) (a1_3 : Int) (a1_4 : Int) : Option ((List (S138)) × Bool) := if (l0.length : Int) > 0 then (if 0 ≤ (wrap64 ((l0.length : Int) - 1)) then (if (wrap64 ((l0.length : Int) - 1)) < (l0.length : Int) then (spec_AddHand.j0 k l0 ((rd_T138 l0 (wrap64 ((l0.length : Int) - 1))).f4) a1_0 a1_1 a1_2 a1_3 a1_4) else (none)) else (none)) else (spec_AddHand.j0 k l0 0 a1_0 a1_1 a1_2 a1_3 a1_4)
set_option maxHeartbeats 8000000 in
set_option maxRecDepth 100000 in
theorem spec_AddHand.calls (k : Nat) (A0 : Option Addr) (c0 : Nat) (l0 : List (S138)) (a1_0 : Int) (a1_1 : Int) (a1_2 : Int) (a1_3 : Int) (a1_4 : Int) (r1 : List (S138)) (r2 : Bool) (w : World) (hr0 : Kd.C k138 w A0 l0.length l0) (hc0 : l0.length ≤ c0) (h : spec_AddHand.f k l0 a1_0 a1_1 a1_2 a1_3 a1_4 = some (r1, r2)) :
  Calls Try.prog 111 #[.slice A0 l0.length c0, .agg #[.int .i64 a1_0, .int .i64 a1_1, .int .i64 a1_2, .int .i64 a1_3, .int .i64 a1_4]] w fun e w' => ∃ v0_ : Value, e = .returned (.tuple #[v0_, .bool r2]) ∧ Kd.R k138 138 w' w.heap.size (fun _ => True) v0_ r1 ∧ Below w.heap.size w w' := by
 have hu138 := Try.underlying138
 have HR0 := zK hr0
 have HC0 := zK hc0
 clear hr0 hc0
 have HB := zK (Below.refl w.heap.size w)
 have H : (if (l0.length : Int) > 0 then (if 0 ≤ (wrap64 ((l0.length : Int) - 1)) then (if (wrap64 ((l0.length : Int) - 1)) < (l0.length : Int) then (spec_AddHand.j0 k l0 ((rd_T138 l0 (wrap64 ((l0.length : Int) - 1))).f4) a1_0 a1_1 a1_2 a1_3 a1_4) else (none)) else (none)) else (spec_AddHand.j0 k l0 0 a1_0 a1_1 a1_2 a1_3 a1_4)) = some (r1, r2) := h
 clear h
 have HC3 := zK H
 clear H
 go_enter Try.func111, Try.ntmps111
 go_upto_if 10 with (first | ((with_reducible refine gate_dst (N := 3) rfl ?_); refine box_event ?hg (N := 3) ?hd (cs := #[.int .i64 a1_0, .int .i64 a1_1, .int .i64 a1_2, .int .i64 a1_3, .int .i64 a1_4]) (t := 138) ?hr ?_; (case hd => rfl); (case hg => rfl); (case hr => first | (go_simp; done) | (go_simp; rfl)); intro gb137 hg w4 hbox hb; have n0_ := zK (bT (by repeat (first | (with_reducible first | exact HB.out | apply bA | apply bN | apply b1) | exact HB.out)) hb); have n1_ := zK (hbox); have n2_ := zK ((by rw [hg]; exact (bZ (by repeat (first | (with_reducible first | exact HB.out | apply bA | apply bN | apply b1) | exact HB.out))) : w.heap.size ≤ gb137)); have n3_ := zK ((by rw [hg]; exact (bZ (by repeat (first | (with_reducible first | exact HB.out | apply bA | apply bN | apply b1) | exact HB.out))) : w.heap.size ≤ gb137)); clear HB; have HB := n0_; have BK137 := n1_; have GW137 := n2_; have GE137 := n3_; clear n0_ n1_ n2_ n3_; clear hb hbox hg))
 (try simp only [Act.put, sA, sZ, sS])
 go_cut [6] (fun v6 wc => ∃ (kq : Nat) (x6_2 : Int), v6 = .int .i64 x6_2 ∧ Aside0 (spec_AddHand.j0 kq l0 x6_2 a1_0 a1_1 a1_2 a1_3 a1_4 = some (r1, r2)) ∧ Aside0 (kq ≤ k) ∧ Aside0 (wc.heap[gb137]? = some (.cells #[.int .i64 a1_0, .int .i64 a1_1, .int .i64 a1_2, .int .i64 a1_3, .int .i64 a1_4] 138 (0, 0))) ∧ Aside0 (Below w.heap.size w wc))
 case first =>
  have H := HC3.out
  clear HC3
  by_cases c5 : (l0.length : Int) > 0
  rotate_left
  ·rw [if_neg c5] at H
   have c5b0 : decide (0 < (l0.length : Int)) = false := decide_eq_false c5
   have c5b1 : decide (0 < l0.length) = false := decide_eq_false (by omega)
   clear c5
   (first | rw [c5b0] | rw [c5b1] | (simp only [i64_w, i32_w]; rw [c5b0]) | skip)
   have H' := zK H
   clear H
   go_wp2
   go_meet
   case rel => exact ⟨_, (0), (by first | rfl | (simp; done) | (simp [*]; done)), H', ⟨by first | omega | exact Nat.le_refl _⟩, ⟨by (with_reducible repeat (first | refine kN ?_ _ | refine kD ?_ | refine kA ?_ _)); exact BK137.out⟩, ⟨by repeat (first | (with_reducible first | exact HB.out | apply bA | apply bN | apply b1 | refine bS ?_ GE137.out) | exact HB.out)⟩⟩
  rw [if_pos c5] at H
  have c5b0 : decide (0 < (l0.length : Int)) = true := decide_eq_true c5
  have c5b1 : decide (0 < l0.length) = true := decide_eq_true (by omega)
  clear c5
  (first | rw [c5b0] | rw [c5b1] | (simp only [i64_w, i32_w]; rw [c5b0]) | skip)
  obtain ⟨ji6, hji6⟩ : ∃ j_ : Int, (wrap64 ((l0.length : Int) - 1)) = j_ := ⟨_, rfl⟩
  replace H : (if 0 ≤ (ji6) then (if (ji6) < (l0.length : Int) then (spec_AddHand.j0 k l0 ((rd_T138 l0 (ji6)).f4) a1_0 a1_1 a1_2 a1_3 a1_4) else (none)) else (none)) = some (r1, r2) := by first | (rw [hji6] at H; exact H) | (simp only [hji6] at H ⊢; exact H)
  have hji6w : (IntKind.i64.wrap ((l0.length : Int) - 1)) = ji6 := (i64_w _).trans hji6
  by_cases c7 : 0 ≤ (ji6)
  rotate_left
  ·rw [if_neg c7] at H
   exact absurd H (by simp)
  rw [if_pos c7] at H
  have c7b0 : decide (0 ≤ (ji6)) = true := decide_eq_true c7
  clear c7
  by_cases c8 : (ji6) < (l0.length : Int)
  rotate_left
  ·rw [if_neg c8] at H
   exact absurd H (by simp)
  rw [if_pos c8] at H
  have c8b0 : decide ((ji6) < (l0.length : Int)) = true := decide_eq_true c8
  clear c8
  have H' := zK H
  clear H
  have p138 : 0 ≤ ((ji6) : Int) := oD (by first | (with_reducible assumption) | assumption)
  have q138 : (ji6) < (l0.length : Int) := oD (by first | (with_reducible assumption) | assumption)
  obtain ⟨ad138, e138, hx138_0, hx138_1, hx138_2, hx138_3, hx138_4⟩ := at_T138 HR0.out (ji6) p138 q138
  cases e138
  replace hx138_0 := (HB.out.cell (bL w hx138_0)).trans hx138_0
  replace hx138_1 := (HB.out.cell (bL w hx138_1)).trans hx138_1
  replace hx138_2 := (HB.out.cell (bL w hx138_2)).trans hx138_2
  replace hx138_3 := (HB.out.cell (bL w hx138_3)).trans hx138_3
  replace hx138_4 := (HB.out.cell (bL w hx138_4)).trans hx138_4
  replace p138 := eq_true p138
  replace q138 := eq_true q138
  go_wp2
  go_meet
  case rel => exact ⟨_, ((rd_T138 l0 (ji6)).f4), (by first | rfl | (simp; done) | (simp only [← hji6] <;> (first | rfl | simp)) | (simp [*]; done)), H', ⟨by first | omega | exact Nat.le_refl _⟩, ⟨by (with_reducible repeat (first | refine kN ?_ _ | refine kD ?_ | refine kA ?_ _)); exact BK137.out⟩, ⟨by repeat (first | (with_reducible first | exact HB.out | apply bA | apply bN | apply b1 | refine bS ?_ GE137.out) | exact HB.out)⟩⟩
 case rest =>
  clear HC3
  try clear c1
  try clear p1
  try clear q1
  try clear hx1
  try clear p2
  try clear c5
  try clear c5b0
  try clear c5b1
  try clear p6
  try clear c7
  try clear c7b0
  try clear c8
  try clear c8b0
  try clear hx138_0
  try clear hx138_1
  try clear hx138_2
  try clear hx138_3
  try clear hx138_4
  try clear p138
  try clear q138
  obtain ⟨kq, x6_2, rfl, HA, HJ2, BK137, HB⟩ := hcut
  cases kq with
  | zero => exact absurd HA.out (by simp [spec_AddHand.j0])
  | succ kj2 =>
   have H := HA.out
   clear HA
   simp only [spec_AddHand.j0] at H
   replace H := Option.bind_eq_some_iff.mp H
   obtain ⟨t139, A90, H⟩ := H
   replace H : ((some (([] : List (S138)) : List (S138))).bind fun y140 => (if y140.length + l0.length < 3518437208883 then ((some (y140 ++ l0 : List (S138))).bind fun y143 => ((some (([(⟨a1_0, a1_1, a1_2, a1_3, t139⟩ : S138)] : List (S138)) : List (S138))).bind fun y146 => (if y143.length + y146.length < 3518437208883 then ((some (y143 ++ y146 : List (S138))).bind fun y149 => ((spec_IsChain.f kj2 y149).bind fun t152 => (if t152 = true then (some (y149, true)) else ((some (([] : List (S138)) : List (S138))).bind fun y153 => (if y153.length + l0.length < 3518437208883 then (some ((y153 ++ l0), false)) else (none)))))) else (none)))) else (none))) = some (r1, r2) := H
   have A9 := zK A90
   clear A90
   obtain ⟨y140, hy140⟩ : ∃ y_ : List (S138), y_ = (([] : List (S138))) := ⟨_, rfl⟩
   replace H : (if y140.length + l0.length < 3518437208883 then ((some (y140 ++ l0 : List (S138))).bind fun y143 => ((some (([(⟨a1_0, a1_1, a1_2, a1_3, t139⟩ : S138)] : List (S138)) : List (S138))).bind fun y146 => (if y143.length + y146.length < 3518437208883 then ((some (y143 ++ y146 : List (S138))).bind fun y149 => ((spec_IsChain.f kj2 y149).bind fun t152 => (if t152 = true then (some (y149, true)) else ((some (([] : List (S138)) : List (S138))).bind fun y153 => (if y153.length + l0.length < 3518437208883 then (some ((y153 ++ l0), false)) else (none)))))) else (none)))) else (none)) = some (r1, r2) := by first | (rw [hy140]; with_reducible exact H) | (have H2_ := (Option.bind_some _ _).symm.trans H; rw [hy140]; with_reducible exact H2_) | (have H2_ := (Option.bind_some _ _).symm.trans H; with_reducible exact H2_) | with_reducible exact H | (rw [hy140]; exact H) | exact H
   have Ny140 := zK hy140
   clear hy140
   by_cases c10 : y140.length + l0.length < 3518437208883
   rotate_left
   ·rw [if_neg c10] at H
    exact absurd H (by simp)
   rw [if_pos c10] at H
   have LMc10 := zK c10
   clear c10
   obtain ⟨y143, hy143⟩ : ∃ y_ : List (S138), y_ = (y140 ++ l0) := ⟨_, rfl⟩
   replace H : ((some (([(⟨a1_0, a1_1, a1_2, a1_3, t139⟩ : S138)] : List (S138)) : List (S138))).bind fun y146 => (if y143.length + y146.length < 3518437208883 then ((some (y143 ++ y146 : List (S138))).bind fun y149 => ((spec_IsChain.f kj2 y149).bind fun t152 => (if t152 = true then (some (y149, true)) else ((some (([] : List (S138)) : List (S138))).bind fun y153 => (if y153.length + l0.length < 3518437208883 then (some ((y153 ++ l0), false)) else (none)))))) else (none))) = some (r1, r2) := by first | (rw [hy143]; with_reducible exact H) | (have H2_ := (Option.bind_some _ _).symm.trans H; rw [hy143]; with_reducible exact H2_) | (have H2_ := (Option.bind_some _ _).symm.trans H; with_reducible exact H2_) | with_reducible exact H | (rw [hy143]; exact H) | exact H
   have Ny143 := zK hy143
   clear hy143
   obtain ⟨y146, hy146⟩ : ∃ y_ : List (S138), y_ = (([(⟨a1_0, a1_1, a1_2, a1_3, t139⟩ : S138)] : List (S138))) := ⟨_, rfl⟩
   replace H : (if y143.length + y146.length < 3518437208883 then ((some (y143 ++ y146 : List (S138))).bind fun y149 => ((spec_IsChain.f kj2 y149).bind fun t152 => (if t152 = true then (some (y149, true)) else ((some (([] : List (S138)) : List (S138))).bind fun y153 => (if y153.length + l0.length < 3518437208883 then (some ((y153 ++ l0), false)) else (none)))))) else (none)) = some (r1, r2) := by first | (rw [hy146]; with_reducible exact H) | (have H2_ := (Option.bind_some _ _).symm.trans H; rw [hy146]; with_reducible exact H2_) | (have H2_ := (Option.bind_some _ _).symm.trans H; with_reducible exact H2_) | with_reducible exact H | (rw [hy146]; exact H) | exact H
   have Ny146 := zK hy146
   clear hy146
   by_cases c11 : y143.length + y146.length < 3518437208883
   rotate_left
   ·rw [if_neg c11] at H
    exact absurd H (by simp)
   rw [if_pos c11] at H
   have LMc11 := zK c11
   clear c11
   obtain ⟨y149, hy149⟩ : ∃ y_ : List (S138), y_ = (y143 ++ y146) := ⟨_, rfl⟩
   replace H : ((spec_IsChain.f kj2 y149).bind fun t152 => (if t152 = true then (some (y149, true)) else ((some (([] : List (S138)) : List (S138))).bind fun y153 => (if y153.length + l0.length < 3518437208883 then (some ((y153 ++ l0), false)) else (none))))) = some (r1, r2) := by first | (rw [hy149]; with_reducible exact H) | (have H2_ := (Option.bind_some _ _).symm.trans H; rw [hy149]; with_reducible exact H2_) | (have H2_ := (Option.bind_some _ _).symm.trans H; with_reducible exact H2_) | with_reducible exact H | (rw [hy149]; exact H) | exact H
   have Ny149 := zK hy149
   clear hy149
   replace H := Option.bind_eq_some_iff.mp H
   obtain ⟨t152, A120, H⟩ := H
   replace H : (if t152 = true then (some (y149, true)) else ((some (([] : List (S138)) : List (S138))).bind fun y153 => (if y153.length + l0.length < 3518437208883 then (some ((y153 ++ l0), false)) else (none)))) = some (r1, r2) := H
   have A12 := zK A120
   clear A120
   by_cases c13 : t152 = true
   ·subst c13
    have H1 : (some (y149, true)) = some (r1, r2) := by rw [if_pos rfl] at H; exact H
    clear H
    have H := H1
    clear H1
    simp only [Option.some.injEq, Prod.mk.injEq] at H
    obtain ⟨rfl, rfl⟩ := H
    have hcz14_0 : wc.cell? ⟨gb137, 0, none⟩ = some (.int .i64 a1_0) := (bc BK137.out 0).trans rfl
    have hcz14_1 : wc.cell? ⟨gb137, 1, none⟩ = some (.int .i64 a1_1) := (bc BK137.out 1).trans rfl
    have hcz14_2 : wc.cell? ⟨gb137, 2, none⟩ = some (.int .i64 a1_2) := (bc BK137.out 2).trans rfl
    have hcz14_3 : wc.cell? ⟨gb137, 3, none⟩ = some (.int .i64 a1_3) := (bc BK137.out 3).trans rfl
    have hcz14_4 : wc.cell? ⟨gb137, 4, none⟩ = some (.int .i64 a1_4) := (bc BK137.out 4).trans rfl
    have hfz14_0 := bf BK137.out 0
    have hfz14_1 := bf BK137.out 1
    have hfz14_2 := bf BK137.out 2
    have hfz14_3 := bf BK137.out 3
    have hfz14_4 := bf BK137.out 4
    try go_wp2_with (first | ((with_reducible refine gate_callee (f := 154) rfl ?_); refine goesL_ (some 20) rfl rfl Try.func154 (by kernel_rfl) rfl #[.int .i64 x6_2, .agg #[.int .i64 a1_0, .int .i64 a1_1, .int .i64 a1_2, .int .i64 a1_3, .int .i64 a1_4]] rfl (by (try simp only [List.map_toArray, List.map_cons, List.map_nil]); first | done | rfl | (simp only [List.length_drop, List.length_take]; rfl)) ?_; (with_reducible refine (spec_HandSeal.calls kj2 x6_2 a1_0 a1_1 a1_2 a1_3 a1_4 t139 _ A9.out).mono ?_); rintro e w15 ⟨rfl, hb⟩; refine ⟨_, rfl, ?_⟩; have n0_ := zK (bB (g := gb137) (o := .cells #[.int .i64 a1_0, .int .i64 a1_1, .int .i64 a1_2, .int .i64 a1_3, .int .i64 a1_4] 138 (0, 0)) (by (with_reducible repeat (first | refine kN ?_ _ | refine kD ?_ | refine kA ?_ _)); exact BK137.out) hb); have n1_ := zK (bT (by repeat (first | (with_reducible first | exact HB.out | apply bA | apply bN | apply b1 | refine bS ?_ GE137.out) | exact HB.out)) hb); clear BK137; clear HB; have BK137 := n0_; have HB := n1_; clear n0_ n1_; (try clear hb); (try clear hb2); (try clear hk); (try clear hi); have hcz16_0 : w15.cell? ⟨gb137, 0, none⟩ = some (.int .i64 a1_0) := (bc BK137.out 0).trans rfl; have hcz16_1 : w15.cell? ⟨gb137, 1, none⟩ = some (.int .i64 a1_1) := (bc BK137.out 1).trans rfl; have hcz16_2 : w15.cell? ⟨gb137, 2, none⟩ = some (.int .i64 a1_2) := (bc BK137.out 2).trans rfl; have hcz16_3 : w15.cell? ⟨gb137, 3, none⟩ = some (.int .i64 a1_3) := (bc BK137.out 3).trans rfl; have hcz16_4 : w15.cell? ⟨gb137, 4, none⟩ = some (.int .i64 a1_4) := (bc BK137.out 4).trans rfl; have hfz16_0 := bf BK137.out 0; have hfz16_1 := bf BK137.out 1; have hfz16_2 := bf BK137.out 2; have hfz16_3 := bf BK137.out 3; have hfz16_4 := bf BK137.out 4))
    have n0_ : Aside0 ((w15.setCell ⟨gb137, 4, none⟩ (.int .i64 t139)).heap[gb137]? = some (.cells #[.int .i64 a1_0, .int .i64 a1_1, .int .i64 a1_2, .int .i64 a1_3, .int .i64 t139] 138 (0, 0))) := ⟨by (with_reducible repeat (first | refine kN ?_ _ | refine kD ?_ | refine kA ?_ _)); refine blk_put (cs := #[.int .i64 a1_0, .int .i64 a1_1, .int .i64 a1_2, .int .i64 a1_3, .int .i64 a1_4]) ?_ 4 _ rfl; (with_reducible repeat (first | refine kN ?_ _ | refine kD ?_ | refine kA ?_ _)); exact BK137.out⟩
    have n1_ : Aside0 (Below w.heap.size w (w15.setCell ⟨gb137, 4, none⟩ (.int .i64 t139))) := ⟨by repeat (first | (with_reducible first | exact HB.out | apply bA | apply bN | apply b1 | refine bS ?_ GE137.out) | exact HB.out)⟩
    (try clear BK137)
    (try clear HB)
    generalize (w15.setCell ⟨gb137, 4, none⟩ (.int .i64 t139)) = w17 at n0_ n1_ ⊢
    have BK137 := n0_
    have HB := n1_
    clear n0_ n1_
    have n0_ := zK (kD BK137.out)
    have n1_ := zK (b1 HB.out)
    clear BK137
    clear HB
    have BK137 := n0_
    have HB := n1_
    clear n0_ n1_
    refine start_ (n := 7) (S := fun w' => w'.cell? ⟨gb137, 0, none⟩ = some (.int .i64 a1_0) ∧ w'.cell? ⟨gb137, 1, none⟩ = some (.int .i64 a1_1) ∧ w'.cell? ⟨gb137, 2, none⟩ = some (.int .i64 a1_2) ∧ w'.cell? ⟨gb137, 3, none⟩ = some (.int .i64 a1_3) ∧ w'.cell? ⟨gb137, 4, none⟩ = some (.int .i64 t139)) (ds := []) b3A0 (by kernel_rfl) rfl rfl ⟨(bc BK137.out 0).trans rfl, (bc BK137.out 1).trans rfl, (bc BK137.out 2).trans rfl, (bc BK137.out 3).trans rfl, (bc BK137.out 4).trans rfl⟩ (fun hHeld => ?_)
    generalize w17.drew = w18 at BK137 HB hHeld ⊢
    refine pure_ (i := 1) (N := some 23) (v := ?_) (a' := ?_) b3A1 rfl rfl (by kernel_rfl) (fun _ _ _ h => h) (Or.inl ⟨by rfl, ?_⟩) ?_ ?_
    rotate_left
    ·intro w'
     go_simp
     with_reducible rfl
    rotate_left
    ·simp only [Act.put, sA, sZ, sS, i64_w, i32_w]
     rfl
    refine take_ (i := 3) (N := some 25) (v := ?_) (a' := ?_) b3A2 rfl rfl (by kernel_rfl) (fun _ _ _ h => h) (Or.inl ⟨by rfl, ?_⟩) hHeld ?_ ?_
    rotate_left
    ·rintro w' ⟨s0, s1, s2, s3, s4⟩
     go_simp
     with_reducible rfl
    rotate_left
    ·simp only [Act.put, sA, sZ, sS, i64_w, i32_w]
     rfl
    refine join_ (σ := Value × Value × Value) 2 b3A3 (fun s_ => [(22, s_.1), (24, s_.2.1), (26, s_.2.2)]) (fun s_ w' => (w'.cell? ⟨gb137, 0, none⟩ = some (.int .i64 a1_0) ∧ w'.cell? ⟨gb137, 1, none⟩ = some (.int .i64 a1_1) ∧ w'.cell? ⟨gb137, 2, none⟩ = some (.int .i64 a1_2) ∧ w'.cell? ⟨gb137, 3, none⟩ = some (.int .i64 a1_3) ∧ w'.cell? ⟨gb137, 4, none⟩ = some (.int .i64 t139)) ∧ (Kd.R k138 138 w' w.heap.size (fun k_ => some k_ ≠ (s_.2.2 : Value).ownBlock ∧ k_ ≠ gb137) s_.2.1 y143) ∧ (Kd.R k138 138 w' w.heap.size (fun k_ => some k_ ≠ (s_.2.1 : Value).ownBlock ∧ k_ ≠ gb137) s_.2.2 y146) ∧ (w'.heap[gb137]? = some (.cells #[.int .i64 a1_0, .int .i64 a1_1, .int .i64 a1_2, .int .i64 a1_3, .int .i64 t139] 138 (0, 0))) ∧ (Below w.heap.size w w')) ?_ ?_
    rotate_left
    ·intro hCont
     refine two_ (i := 0) (j := 4) (Ni := some 22) (Nj := some 26) b3A4 b3A5 rfl rfl rfl rfl (by kernel_rfl) (by decide) (by decide) (fun K hK => ?_) (fun K hK => ?_)
     rotate_left
     ·skip
      refine Kd.R_lit_step k138 _ 138 ?hg (N := 26) ?hd (xs := ([(⟨a1_0, a1_1, a1_2, a1_3, t139⟩ : S138)] : List (S138))) (inner := [.int .i64 a1_0, .int .i64 a1_1, .int .i64 a1_2, .int .i64 a1_3, .int .i64 t139]) (ok := fun _ => True) (okp := fun _ => True) ?hr ?hp (fun _ hk => hk) trivial (Below.refl _ _) (Nat.le_refl _) (by simp) ?_; (case hd => rfl); (case hg => rfl); (case hr => first | (go_simp; done) | (go_simp; rfl)); (case hp => exact (Reps.c5 (show Kd.M k138 _ _ _ (⟨a1_0, a1_1, a1_2, a1_3, t139⟩ : S138) [.int .i64 a1_0, .int .i64 a1_1, .int .i64 a1_2, .int .i64 a1_3, .int .i64 t139] from (k138_mkM _ _ _ (⟨a1_0, a1_1, a1_2, a1_3, t139⟩ : S138) )) (Reps.none _ _)))
      intro v147 w19 ho20 hb hg_ hnew_
      clear hg_ hnew_
      (first | rw [← Ny146.out] at ho20 | (simp only [Int.reduceToNat] at ho20; rw [← Ny146.out] at ho20))
      have n0_ := zK (Kd.R_lower (Kd.R_newB ho20 (g := gb137) (o := .cells #[.int .i64 a1_0, .int .i64 a1_1, .int .i64 a1_2, .int .i64 a1_3, .int .i64 t139] 138 (0, 0)) (by (with_reducible repeat (first | refine kN ?_ _ | refine kD ?_ | refine kA ?_ _)); exact BK137.out)) (bZ (by repeat (first | (with_reducible first | exact HB.out | apply bA | apply bN | apply b1 | refine bS ?_ GE137.out) | exact HB.out))))
      have n1_ := zK (bB (g := gb137) (o := .cells #[.int .i64 a1_0, .int .i64 a1_1, .int .i64 a1_2, .int .i64 a1_3, .int .i64 t139] 138 (0, 0)) (by (with_reducible repeat (first | refine kN ?_ _ | refine kD ?_ | refine kA ?_ _)); exact BK137.out) hb)
      have n2_ := zK (bT (by repeat (first | (with_reducible first | exact HB.out | apply bA | apply bN | apply b1 | refine bS ?_ GE137.out) | exact HB.out)) hb)
      clear BK137
      clear HB
      have HO148 := n0_
      have BK137 := n1_
      have HB := n2_
      clear n0_ n1_ n2_
      clear hb ho20
      refine hK.out _ _ ⟨(bc BK137.out 0).trans rfl, (bc BK137.out 1).trans rfl, (bc BK137.out 2).trans rfl, (bc BK137.out 3).trans rfl, (bc BK137.out 4).trans rfl⟩ (fun hHeld => ?_)
      clear hK K
      refine norm_ (a' := ?_) ?_ ?_
      rotate_left
      ·show Act.put _ (some 26) _ = _
       simp only [Act.put, sA, sZ, sS, i64_w, i32_w]
       rfl
      refine one_ (i := 0) (N := some 22) b3A7 rfl rfl (by kernel_rfl) (by decide) (fun K hK => ?_)
      refine Kd.R_lit_step k138 _ 138 ?hg (N := 22) ?hd (xs := ([] : List (S138))) (inner := []) (ok := fun _ => True) (okp := fun _ => True) ?hr ?hp (fun _ hk => hk) trivial (Below.refl _ _) (Nat.le_refl _) (by simp) ?_; (case hd => rfl); (case hg => rfl); (case hr => first | (go_simp; done) | (go_simp; rfl)); (case hp => exact (Reps.none _ _))
      intro v141 w21 ho22 hb hg_ hnew_
      clear hg_ hnew_
      (first | rw [← Ny140.out] at ho22 | (simp only [Int.reduceToNat] at ho22; rw [← Ny140.out] at ho22))
      have n0_ := zK (Kd.R_elder' (by (with_reducible repeat (first | apply Kd.RA | apply Kd.RN | apply Kd.RD)); exact HO148.out) (Kd.R_base ho22) hb)
      have n1_ := zK (Kd.R_lower (Kd.R_newB (Kd.R_new' ho22 (Kd.R_lt (by (with_reducible repeat (first | apply Kd.RA | apply Kd.RN | apply Kd.RD)); exact HO148.out))) (g := gb137) (o := .cells #[.int .i64 a1_0, .int .i64 a1_1, .int .i64 a1_2, .int .i64 a1_3, .int .i64 t139] 138 (0, 0)) (by (with_reducible repeat (first | refine kN ?_ _ | refine kD ?_ | refine kA ?_ _)); exact BK137.out)) (bZ (by repeat (first | (with_reducible first | exact HB.out | apply bA | apply bN | apply b1 | refine bS ?_ GE137.out) | exact HB.out))))
      have n2_ := zK (bB (g := gb137) (o := .cells #[.int .i64 a1_0, .int .i64 a1_1, .int .i64 a1_2, .int .i64 a1_3, .int .i64 t139] 138 (0, 0)) (by (with_reducible repeat (first | refine kN ?_ _ | refine kD ?_ | refine kA ?_ _)); exact BK137.out) hb)
      have n3_ := zK (bT (by repeat (first | (with_reducible first | exact HB.out | apply bA | apply bN | apply b1 | refine bS ?_ GE137.out) | exact HB.out)) hb)
      clear HO148
      clear BK137
      clear HB
      have HO148 := n0_
      have HO142 := n1_
      have BK137 := n2_
      have HB := n3_
      clear n0_ n1_ n2_ n3_
      clear hb ho22
      refine hK.out _ _ ⟨(bc BK137.out 0).trans rfl, (bc BK137.out 1).trans rfl, (bc BK137.out 2).trans rfl, (bc BK137.out 3).trans rfl, (bc BK137.out 4).trans rfl⟩ (fun hHeld => ?_)
      clear hK K
      refine norm_ (a' := ?_) ?_ ?_
      rotate_left
      ·show Act.put _ (some 22) _ = _
       simp only [Act.put, sA, sZ, sS, i64_w, i32_w]
       rfl
      refine one_ (i := 2) (N := some 24) b3A3 rfl rfl (by kernel_rfl) (by decide) (fun K hK => ?_)
      refine Kd.R_append_rows_step k138 (w0 := w) w.heap.size (by rfl) (.tmp 22) (.tmp 23) 51 138 (.agg #[(.int .i64 0), (.int .i64 0), (.int .i64 0), (.int .i64 0), (.int .i64 0)]) 40 rfl Try.underlying51 info138 rfl (by decide) (by omega) v141 y140 l0 _ _ _ (fun k_ => some k_ ≠ (v147 : Value).ownBlock ∧ k_ ≠ gb137) (fun _ => False) rfl rfl ?aO ?aR (fun _ _ h => h) (fun _ h => h.elim) ?aF ?aB ?aS ?aL ?_
      (case aR => repeat (first | exact (Kd.C_below HR0.out HB.out) | (with_reducible refine Kd.CA ?_ _) | (with_reducible refine Kd.CN ?_ _) | (with_reducible refine Kd.CD ?_)))
      (case aB => exact (by repeat (first | (with_reducible first | exact HB.out | apply bA | apply bN | apply b1 | refine bS ?_ GE137.out) | exact HB.out)))
      (case aF => exact (fun k_ hk => ⟨Kd.fresh' (Kd.R_lt (by (with_reducible repeat (first | apply Kd.RA | apply Kd.RN | apply Kd.RD)); exact HO148.out)) k_ hk, Kd.freshB (g := gb137) (o := .cells #[.int .i64 a1_0, .int .i64 a1_1, .int .i64 a1_2, .int .i64 a1_3, .int .i64 t139] 138 (0, 0)) (by (with_reducible repeat (first | refine kN ?_ _ | refine kD ?_ | refine kA ?_ _)); exact BK137.out) k_ hk⟩))
      (case aO => exact (by (with_reducible repeat (first | apply Kd.RA | apply Kd.RN | apply Kd.RD)); exact Kd.R_mono HO142.out (fun _ hk => ⟨hk.1.2, hk.2⟩)))
      (case aS => exact (bZ (by repeat (first | (with_reducible first | exact HB.out | apply bA | apply bN | apply b1 | refine bS ?_ GE137.out) | exact HB.out))))
      (case aL => have := LMc10.out; omega)
      intro v144 w23 ho hb hg hat
      rw [← Ny143.out] at ho
      have n0_ := zK (blk_grown (g := gb137) (o := .cells #[.int .i64 a1_0, .int .i64 a1_1, .int .i64 a1_2, .int .i64 a1_3, .int .i64 t139] 138 (0, 0)) (by (with_reducible repeat (first | refine kN ?_ _ | refine kD ?_ | refine kA ?_ _)); exact BK137.out) hg (Kd.R_away HO142.out (fun _ hk => hk.2)))
      have n1_ := zK (Kd.R_after (ok := (fun k_ => k_ ≠ gb137)) (by (with_reducible repeat (first | apply Kd.RA | apply Kd.RN | apply Kd.RD)); exact Kd.R_mono HO148.out (fun _ hk => ⟨hk.1.2, hk.2⟩)) hg hat)
      have n2_ := zK (hb)
      have n3_ := zK (ho)
      clear BK137
      clear HO148
      clear HB
      clear HO142
      have BK137 := n0_
      have HO148 := n1_
      have HB := n2_
      have HO145 := n3_
      clear n0_ n1_ n2_ n3_
      clear ho hb hg hat
      refine hK.out _ _ ⟨(bc BK137.out 0).trans rfl, (bc BK137.out 1).trans rfl, (bc BK137.out 2).trans rfl, (bc BK137.out 3).trans rfl, (bc BK137.out 4).trans rfl⟩ (fun hHeld => ?_)
      clear hK K
      refine norm_ (a' := ?_) ?_ ?_
      rotate_left
      ·show Act.put _ (some 24) _ = _
       simp only [Act.put, sA, sZ, sS, i64_w, i32_w]
       rfl
      exact norm_ (by simp only [putAll, Act.put, sA, sZ, sS]) (hCont (v141, v144, v147) _ ⟨hHeld, (by (with_reducible repeat (first | apply Kd.RA | apply Kd.RN | apply Kd.RD)); exact HO145.out), (by (with_reducible repeat (first | apply Kd.RA | apply Kd.RN | apply Kd.RD)); exact Kd.R_mono HO148.out (fun _ hk => ⟨hk.2, hk.1⟩)), (by (with_reducible repeat (first | refine kN ?_ _ | refine kD ?_ | refine kA ?_ _)); exact BK137.out), (by repeat (first | (with_reducible first | exact HB.out | apply bA | apply bN | apply b1 | refine bS ?_ GE137.out) | exact HB.out))⟩)
     skip
     refine Kd.R_lit_step k138 _ 138 ?hg (N := 22) ?hd (xs := ([] : List (S138))) (inner := []) (ok := fun _ => True) (okp := fun _ => True) ?hr ?hp (fun _ hk => hk) trivial (Below.refl _ _) (Nat.le_refl _) (by simp) ?_; (case hd => rfl); (case hg => rfl); (case hr => first | (go_simp; done) | (go_simp; rfl)); (case hp => exact (Reps.none _ _))
     intro v141 w19 ho20 hb hg_ hnew_
     clear hg_ hnew_
     (first | rw [← Ny140.out] at ho20 | (simp only [Int.reduceToNat] at ho20; rw [← Ny140.out] at ho20))
     have n0_ := zK (Kd.R_lower (Kd.R_newB ho20 (g := gb137) (o := .cells #[.int .i64 a1_0, .int .i64 a1_1, .int .i64 a1_2, .int .i64 a1_3, .int .i64 t139] 138 (0, 0)) (by (with_reducible repeat (first | refine kN ?_ _ | refine kD ?_ | refine kA ?_ _)); exact BK137.out)) (bZ (by repeat (first | (with_reducible first | exact HB.out | apply bA | apply bN | apply b1 | refine bS ?_ GE137.out) | exact HB.out))))
     have n1_ := zK (bB (g := gb137) (o := .cells #[.int .i64 a1_0, .int .i64 a1_1, .int .i64 a1_2, .int .i64 a1_3, .int .i64 t139] 138 (0, 0)) (by (with_reducible repeat (first | refine kN ?_ _ | refine kD ?_ | refine kA ?_ _)); exact BK137.out) hb)
     have n2_ := zK (bT (by repeat (first | (with_reducible first | exact HB.out | apply bA | apply bN | apply b1 | refine bS ?_ GE137.out) | exact HB.out)) hb)
     clear BK137
     clear HB
     have HO142 := n0_
     have BK137 := n1_
     have HB := n2_
     clear n0_ n1_ n2_
     clear hb ho20
     refine hK.out _ _ ⟨(bc BK137.out 0).trans rfl, (bc BK137.out 1).trans rfl, (bc BK137.out 2).trans rfl, (bc BK137.out 3).trans rfl, (bc BK137.out 4).trans rfl⟩ (fun hHeld => ?_)
     clear hK K
     refine norm_ (a' := ?_) ?_ ?_
     rotate_left
     ·show Act.put _ (some 22) _ = _
      simp only [Act.put, sA, sZ, sS, i64_w, i32_w]
      rfl
     refine two_ (i := 2) (j := 4) (Ni := some 24) (Nj := some 26) b3A6 b3A7 rfl rfl rfl rfl (by kernel_rfl) (by decide) (by decide) (fun K hK => ?_) (fun K hK => ?_)
     ·skip
      refine Kd.R_append_rows_step k138 (w0 := w) w.heap.size (by rfl) (.tmp 22) (.tmp 23) 51 138 (.agg #[(.int .i64 0), (.int .i64 0), (.int .i64 0), (.int .i64 0), (.int .i64 0)]) 40 rfl Try.underlying51 info138 rfl (by decide) (by omega) v141 y140 l0 _ _ _ (fun k_ => k_ ≠ gb137) (fun _ => False) rfl rfl ?aO ?aR (fun _ _ h => h) (fun _ h => h.elim) ?aF ?aB ?aS ?aL ?_
      (case aR => repeat (first | exact (Kd.C_below HR0.out HB.out) | (with_reducible refine Kd.CA ?_ _) | (with_reducible refine Kd.CN ?_ _) | (with_reducible refine Kd.CD ?_)))
      (case aB => exact (by repeat (first | (with_reducible first | exact HB.out | apply bA | apply bN | apply b1 | refine bS ?_ GE137.out) | exact HB.out)))
      (case aF => exact (fun k_ hk => Kd.freshB (g := gb137) (o := .cells #[.int .i64 a1_0, .int .i64 a1_1, .int .i64 a1_2, .int .i64 a1_3, .int .i64 t139] 138 (0, 0)) (by (with_reducible repeat (first | refine kN ?_ _ | refine kD ?_ | refine kA ?_ _)); exact BK137.out) k_ hk))
      (case aO => exact (by (with_reducible repeat (first | apply Kd.RA | apply Kd.RN | apply Kd.RD)); exact Kd.R_mono HO142.out (fun _ hk => hk.2)))
      (case aS => exact (bZ (by repeat (first | (with_reducible first | exact HB.out | apply bA | apply bN | apply b1 | refine bS ?_ GE137.out) | exact HB.out))))
      (case aL => have := LMc10.out; omega)
      intro v144 w21 ho hb hg hat
      rw [← Ny143.out] at ho
      have n0_ := zK (blk_grown (g := gb137) (o := .cells #[.int .i64 a1_0, .int .i64 a1_1, .int .i64 a1_2, .int .i64 a1_3, .int .i64 t139] 138 (0, 0)) (by (with_reducible repeat (first | refine kN ?_ _ | refine kD ?_ | refine kA ?_ _)); exact BK137.out) hg (Kd.R_away HO142.out (fun _ hk => hk.2)))
      have n1_ := zK (hb)
      have n2_ := zK (ho)
      clear BK137
      clear HB
      clear HO142
      have BK137 := n0_
      have HB := n1_
      have HO145 := n2_
      clear n0_ n1_ n2_
      clear ho hb hg hat
      refine hK.out _ _ ⟨(bc BK137.out 0).trans rfl, (bc BK137.out 1).trans rfl, (bc BK137.out 2).trans rfl, (bc BK137.out 3).trans rfl, (bc BK137.out 4).trans rfl⟩ (fun hHeld => ?_)
      clear hK K
      refine norm_ (a' := ?_) ?_ ?_
      rotate_left
      ·show Act.put _ (some 24) _ = _
       simp only [Act.put, sA, sZ, sS, i64_w, i32_w]
       rfl
      refine one_ (i := 4) (N := some 26) b3A3 rfl rfl (by kernel_rfl) (by decide) (fun K hK => ?_)
      refine Kd.R_lit_step k138 _ 138 ?hg (N := 26) ?hd (xs := ([(⟨a1_0, a1_1, a1_2, a1_3, t139⟩ : S138)] : List (S138))) (inner := [.int .i64 a1_0, .int .i64 a1_1, .int .i64 a1_2, .int .i64 a1_3, .int .i64 t139]) (ok := fun _ => True) (okp := fun _ => True) ?hr ?hp (fun _ hk => hk) trivial (Below.refl _ _) (Nat.le_refl _) (by simp) ?_; (case hd => rfl); (case hg => rfl); (case hr => first | (go_simp; done) | (go_simp; rfl)); (case hp => exact (Reps.c5 (show Kd.M k138 _ _ _ (⟨a1_0, a1_1, a1_2, a1_3, t139⟩ : S138) [.int .i64 a1_0, .int .i64 a1_1, .int .i64 a1_2, .int .i64 a1_3, .int .i64 t139] from (k138_mkM _ _ _ (⟨a1_0, a1_1, a1_2, a1_3, t139⟩ : S138) )) (Reps.none _ _)))
      intro v147 w22 ho23 hb hg_ hnew_
      clear hg_ hnew_
      (first | rw [← Ny146.out] at ho23 | (simp only [Int.reduceToNat] at ho23; rw [← Ny146.out] at ho23))
      have n0_ := zK (Kd.R_elder' (by (with_reducible repeat (first | apply Kd.RA | apply Kd.RN | apply Kd.RD)); exact HO145.out) (Kd.R_base ho23) hb)
      have n1_ := zK (Kd.R_lower (Kd.R_newB (Kd.R_new' ho23 (Kd.R_lt (by (with_reducible repeat (first | apply Kd.RA | apply Kd.RN | apply Kd.RD)); exact HO145.out))) (g := gb137) (o := .cells #[.int .i64 a1_0, .int .i64 a1_1, .int .i64 a1_2, .int .i64 a1_3, .int .i64 t139] 138 (0, 0)) (by (with_reducible repeat (first | refine kN ?_ _ | refine kD ?_ | refine kA ?_ _)); exact BK137.out)) (bZ (by repeat (first | (with_reducible first | exact HB.out | apply bA | apply bN | apply b1 | refine bS ?_ GE137.out) | exact HB.out))))
      have n2_ := zK (bB (g := gb137) (o := .cells #[.int .i64 a1_0, .int .i64 a1_1, .int .i64 a1_2, .int .i64 a1_3, .int .i64 t139] 138 (0, 0)) (by (with_reducible repeat (first | refine kN ?_ _ | refine kD ?_ | refine kA ?_ _)); exact BK137.out) hb)
      have n3_ := zK (bT (by repeat (first | (with_reducible first | exact HB.out | apply bA | apply bN | apply b1 | refine bS ?_ GE137.out) | exact HB.out)) hb)
      clear HO145
      clear BK137
      clear HB
      have HO145 := n0_
      have HO148 := n1_
      have BK137 := n2_
      have HB := n3_
      clear n0_ n1_ n2_ n3_
      clear hb ho23
      refine hK.out _ _ ⟨(bc BK137.out 0).trans rfl, (bc BK137.out 1).trans rfl, (bc BK137.out 2).trans rfl, (bc BK137.out 3).trans rfl, (bc BK137.out 4).trans rfl⟩ (fun hHeld => ?_)
      clear hK K
      refine norm_ (a' := ?_) ?_ ?_
      rotate_left
      ·show Act.put _ (some 26) _ = _
       simp only [Act.put, sA, sZ, sS, i64_w, i32_w]
       rfl
      exact norm_ (by simp only [putAll, Act.put, sA, sZ, sS]) (hCont (v141, v144, v147) _ ⟨hHeld, (by (with_reducible repeat (first | apply Kd.RA | apply Kd.RN | apply Kd.RD)); exact Kd.R_mono HO145.out (fun _ hk => ⟨hk.2, hk.1⟩)), (by (with_reducible repeat (first | apply Kd.RA | apply Kd.RN | apply Kd.RD)); exact Kd.R_mono HO148.out (fun _ hk => ⟨hk.1.2, hk.2⟩)), (by (with_reducible repeat (first | refine kN ?_ _ | refine kD ?_ | refine kA ?_ _)); exact BK137.out), (by repeat (first | (with_reducible first | exact HB.out | apply bA | apply bN | apply b1 | refine bS ?_ GE137.out) | exact HB.out))⟩)
     skip
     refine Kd.R_lit_step k138 _ 138 ?hg (N := 26) ?hd (xs := ([(⟨a1_0, a1_1, a1_2, a1_3, t139⟩ : S138)] : List (S138))) (inner := [.int .i64 a1_0, .int .i64 a1_1, .int .i64 a1_2, .int .i64 a1_3, .int .i64 t139]) (ok := fun _ => True) (okp := fun _ => True) ?hr ?hp (fun _ hk => hk) trivial (Below.refl _ _) (Nat.le_refl _) (by simp) ?_; (case hd => rfl); (case hg => rfl); (case hr => first | (go_simp; done) | (go_simp; rfl)); (case hp => exact (Reps.c5 (show Kd.M k138 _ _ _ (⟨a1_0, a1_1, a1_2, a1_3, t139⟩ : S138) [.int .i64 a1_0, .int .i64 a1_1, .int .i64 a1_2, .int .i64 a1_3, .int .i64 t139] from (k138_mkM _ _ _ (⟨a1_0, a1_1, a1_2, a1_3, t139⟩ : S138) )) (Reps.none _ _)))
     intro v147 w21 ho22 hb hg_ hnew_
     clear hg_ hnew_
     (first | rw [← Ny146.out] at ho22 | (simp only [Int.reduceToNat] at ho22; rw [← Ny146.out] at ho22))
     have n0_ := zK (Kd.R_elder' (by (with_reducible repeat (first | apply Kd.RA | apply Kd.RN | apply Kd.RD)); exact HO142.out) (Kd.R_base ho22) hb)
     have n1_ := zK (Kd.R_lower (Kd.R_newB (Kd.R_new' ho22 (Kd.R_lt (by (with_reducible repeat (first | apply Kd.RA | apply Kd.RN | apply Kd.RD)); exact HO142.out))) (g := gb137) (o := .cells #[.int .i64 a1_0, .int .i64 a1_1, .int .i64 a1_2, .int .i64 a1_3, .int .i64 t139] 138 (0, 0)) (by (with_reducible repeat (first | refine kN ?_ _ | refine kD ?_ | refine kA ?_ _)); exact BK137.out)) (bZ (by repeat (first | (with_reducible first | exact HB.out | apply bA | apply bN | apply b1 | refine bS ?_ GE137.out) | exact HB.out))))
     have n2_ := zK (bB (g := gb137) (o := .cells #[.int .i64 a1_0, .int .i64 a1_1, .int .i64 a1_2, .int .i64 a1_3, .int .i64 t139] 138 (0, 0)) (by (with_reducible repeat (first | refine kN ?_ _ | refine kD ?_ | refine kA ?_ _)); exact BK137.out) hb)
     have n3_ := zK (bT (by repeat (first | (with_reducible first | exact HB.out | apply bA | apply bN | apply b1 | refine bS ?_ GE137.out) | exact HB.out)) hb)
     clear HO142
     clear BK137
     clear HB
     have HO142 := n0_
     have HO148 := n1_
     have BK137 := n2_
     have HB := n3_
     clear n0_ n1_ n2_ n3_
     clear hb ho22
     refine hK.out _ _ ⟨(bc BK137.out 0).trans rfl, (bc BK137.out 1).trans rfl, (bc BK137.out 2).trans rfl, (bc BK137.out 3).trans rfl, (bc BK137.out 4).trans rfl⟩ (fun hHeld => ?_)
     clear hK K
     refine norm_ (a' := ?_) ?_ ?_
     rotate_left
     ·show Act.put _ (some 26) _ = _
      simp only [Act.put, sA, sZ, sS, i64_w, i32_w]
      rfl
     refine one_ (i := 2) (N := some 24) b3A3 rfl rfl (by kernel_rfl) (by decide) (fun K hK => ?_)
     refine Kd.R_append_rows_step k138 (w0 := w) w.heap.size (by rfl) (.tmp 22) (.tmp 23) 51 138 (.agg #[(.int .i64 0), (.int .i64 0), (.int .i64 0), (.int .i64 0), (.int .i64 0)]) 40 rfl Try.underlying51 info138 rfl (by decide) (by omega) v141 y140 l0 _ _ _ (fun k_ => some k_ ≠ (v147 : Value).ownBlock ∧ k_ ≠ gb137) (fun _ => False) rfl rfl ?aO ?aR (fun _ _ h => h) (fun _ h => h.elim) ?aF ?aB ?aS ?aL ?_
     (case aR => repeat (first | exact (Kd.C_below HR0.out HB.out) | (with_reducible refine Kd.CA ?_ _) | (with_reducible refine Kd.CN ?_ _) | (with_reducible refine Kd.CD ?_)))
     (case aB => exact (by repeat (first | (with_reducible first | exact HB.out | apply bA | apply bN | apply b1 | refine bS ?_ GE137.out) | exact HB.out)))
     (case aF => exact (fun k_ hk => ⟨Kd.fresh' (Kd.R_lt (by (with_reducible repeat (first | apply Kd.RA | apply Kd.RN | apply Kd.RD)); exact HO148.out)) k_ hk, Kd.freshB (g := gb137) (o := .cells #[.int .i64 a1_0, .int .i64 a1_1, .int .i64 a1_2, .int .i64 a1_3, .int .i64 t139] 138 (0, 0)) (by (with_reducible repeat (first | refine kN ?_ _ | refine kD ?_ | refine kA ?_ _)); exact BK137.out) k_ hk⟩))
     (case aO => exact (by (with_reducible repeat (first | apply Kd.RA | apply Kd.RN | apply Kd.RD)); exact Kd.R_mono HO142.out (fun _ hk => ⟨hk.2, hk.1.2⟩)))
     (case aS => exact (bZ (by repeat (first | (with_reducible first | exact HB.out | apply bA | apply bN | apply b1 | refine bS ?_ GE137.out) | exact HB.out))))
     (case aL => have := LMc10.out; omega)
     intro v144 w23 ho hb hg hat
     rw [← Ny143.out] at ho
     have n0_ := zK (blk_grown (g := gb137) (o := .cells #[.int .i64 a1_0, .int .i64 a1_1, .int .i64 a1_2, .int .i64 a1_3, .int .i64 t139] 138 (0, 0)) (by (with_reducible repeat (first | refine kN ?_ _ | refine kD ?_ | refine kA ?_ _)); exact BK137.out) hg (Kd.R_away HO142.out (fun _ hk => hk.1.2)))
     have n1_ := zK (Kd.R_after (ok := (fun k_ => k_ ≠ gb137)) (by (with_reducible repeat (first | apply Kd.RA | apply Kd.RN | apply Kd.RD)); exact Kd.R_mono HO148.out (fun _ hk => ⟨hk.2, hk.1.2⟩)) hg hat)
     have n2_ := zK (hb)
     have n3_ := zK (ho)
     clear BK137
     clear HO148
     clear HB
     clear HO142
     have BK137 := n0_
     have HO148 := n1_
     have HB := n2_
     have HO145 := n3_
     clear n0_ n1_ n2_ n3_
     clear ho hb hg hat
     refine hK.out _ _ ⟨(bc BK137.out 0).trans rfl, (bc BK137.out 1).trans rfl, (bc BK137.out 2).trans rfl, (bc BK137.out 3).trans rfl, (bc BK137.out 4).trans rfl⟩ (fun hHeld => ?_)
     clear hK K
     refine norm_ (a' := ?_) ?_ ?_
     rotate_left
     ·show Act.put _ (some 24) _ = _
      simp only [Act.put, sA, sZ, sS, i64_w, i32_w]
      rfl
     exact norm_ (by simp only [putAll, Act.put, sA, sZ, sS]) (hCont (v141, v144, v147) _ ⟨hHeld, (by (with_reducible repeat (first | apply Kd.RA | apply Kd.RN | apply Kd.RD)); exact HO145.out), (by (with_reducible repeat (first | apply Kd.RA | apply Kd.RN | apply Kd.RD)); exact Kd.R_mono HO148.out (fun _ hk => ⟨hk.2, hk.1⟩)), (by (with_reducible repeat (first | refine kN ?_ _ | refine kD ?_ | refine kA ?_ _)); exact BK137.out), (by repeat (first | (with_reducible first | exact HB.out | apply bA | apply bN | apply b1 | refine bS ?_ GE137.out) | exact HB.out))⟩)
    rintro ⟨v141, v144, v147⟩ w24 ⟨hS_, h0_, h1_, h2_, h3_⟩
    have n0_ : Aside0 (Kd.R k138 138 w24 w.heap.size (fun k_ => some k_ ≠ (v147 : Value).ownBlock ∧ k_ ≠ gb137) v144 y143) := ⟨h0_⟩
    have n1_ : Aside0 (Kd.R k138 138 w24 w.heap.size (fun k_ => some k_ ≠ (v144 : Value).ownBlock ∧ k_ ≠ gb137) v147 y146) := ⟨h1_⟩
    have n2_ : Aside0 (w24.heap[gb137]? = some (.cells #[.int .i64 a1_0, .int .i64 a1_1, .int .i64 a1_2, .int .i64 a1_3, .int .i64 t139] 138 (0, 0))) := ⟨h2_⟩
    have n3_ : Aside0 (Below w.heap.size w w24) := ⟨h3_⟩
    clear BK137
    clear HB
    clear h0_ h1_ h2_ h3_
    have HO145 := n0_
    have HO148 := n1_
    have BK137 := n2_
    have HB := n3_
    clear n0_ n1_ n2_ n3_
    have hHeld : w24.cell? ⟨gb137, 0, none⟩ = some (.int .i64 a1_0) ∧ w24.cell? ⟨gb137, 1, none⟩ = some (.int .i64 a1_1) ∧ w24.cell? ⟨gb137, 2, none⟩ = some (.int .i64 a1_2) ∧ w24.cell? ⟨gb137, 3, none⟩ = some (.int .i64 a1_3) ∧ w24.cell? ⟨gb137, 4, none⟩ = some (.int .i64 t139) := hS_
    obtain ⟨Ao26, co26, eo26⟩ := Kd.R_slice HO148.out
    (first | subst eo26 | (injection eo26 with f1_ f2_ f3_; have f4_ := f1_.symm; have f5_ := f3_.symm; clear f1_ f2_ f3_; subst f4_; subst f5_))
    refine norm_ (a' := ?_) ?_ ?_
    rotate_left
    ·simp only [putAll, Act.put, sA, sZ, sS]
     rfl
    refine one_ (i := 5) (N := some 27) b3A8 rfl rfl (by kernel_rfl) (by decide) (fun K hK => ?_)
    refine Kd.R_append_rows_step k138 (w0 := w) w.heap.size (by rfl) (.tmp 24) (.tmp 26) 51 138 (.agg #[(.int .i64 0), (.int .i64 0), (.int .i64 0), (.int .i64 0), (.int .i64 0)]) 40 rfl Try.underlying51 info138 rfl (by decide) (by omega) v144 y143 y146 _ _ _ (fun k_ => some k_ ≠ (.slice Ao26 y146.length co26 : Value).ownBlock ∧ k_ ≠ gb137) (fun _ => False) rfl rfl ?aO ?aR (fun _ _ h => h) (fun _ h => h.elim) ?aF ?aB ?aS ?aL ?_
    (case aR => repeat (first | exact (Kd.R_reads' HO148.out).2.2 | (with_reducible refine Kd.CA ?_ _) | (with_reducible refine Kd.CN ?_ _) | (with_reducible refine Kd.CD ?_)))
    (case aB => exact (by repeat (first | (with_reducible first | exact HB.out | apply bA | apply bN | apply b1 | refine bS ?_ GE137.out) | exact HB.out)))
    (case aF => exact (fun k_ hk => ⟨Kd.fresh' (Kd.R_lt (by (with_reducible repeat (first | apply Kd.RA | apply Kd.RN | apply Kd.RD)); exact HO148.out)) k_ hk, Kd.freshB (g := gb137) (o := .cells #[.int .i64 a1_0, .int .i64 a1_1, .int .i64 a1_2, .int .i64 a1_3, .int .i64 t139] 138 (0, 0)) (by (with_reducible repeat (first | refine kN ?_ _ | refine kD ?_ | refine kA ?_ _)); exact BK137.out) k_ hk⟩))
    (case aO => exact (by (with_reducible repeat (first | apply Kd.RA | apply Kd.RN | apply Kd.RD)); exact HO145.out))
    (case aS => exact (bZ (by repeat (first | (with_reducible first | exact HB.out | apply bA | apply bN | apply b1 | refine bS ?_ GE137.out) | exact HB.out))))
    (case aL => have := LMc11.out; omega)
    intro v150 w25 ho hb hg hat
    rw [← Ny149.out] at ho
    have n0_ := zK (blk_grown (g := gb137) (o := .cells #[.int .i64 a1_0, .int .i64 a1_1, .int .i64 a1_2, .int .i64 a1_3, .int .i64 t139] 138 (0, 0)) (by (with_reducible repeat (first | refine kN ?_ _ | refine kD ?_ | refine kA ?_ _)); exact BK137.out) hg (Kd.R_away HO145.out (fun _ hk => hk.2)))
    have n1_ := zK (Kd.R_after (ok := (fun k_ => k_ ≠ gb137)) (by (with_reducible repeat (first | apply Kd.RA | apply Kd.RN | apply Kd.RD)); exact Kd.R_mono HO148.out (fun _ hk => ⟨hk.2, hk.1⟩)) hg hat)
    have n2_ := zK (hb)
    have n3_ := zK (ho)
    clear BK137
    clear HO148
    clear HB
    clear HO145
    have BK137 := n0_
    have HO148 := n1_
    have HB := n2_
    have HO151 := n3_
    clear n0_ n1_ n2_ n3_
    clear ho hb hg hat
    refine hK.out _ _ ⟨(bc BK137.out 0).trans rfl, (bc BK137.out 1).trans rfl, (bc BK137.out 2).trans rfl, (bc BK137.out 3).trans rfl, (bc BK137.out 4).trans rfl⟩ (fun hHeld => ?_)
    clear hK K
    refine norm_ (a' := ?_) ?_ ?_
    rotate_left
    ·show Act.put _ (some 27) _ = _
     simp only [Act.put, sA, sZ, sS, i64_w, i32_w]
     rfl
    refine pure_ (i := 6) (N := some 7) (v := ?_) (a' := ?_) b3A9 rfl rfl (by kernel_rfl) (fun _ _ _ h => h) (Or.inl ⟨by rfl, ?_⟩) ?_ ?_
    rotate_left
    ·intro w'
     go_simp
     with_reducible rfl
    rotate_left
    ·simp only [Act.put, sA, sZ, sS, i64_w, i32_w]
     rfl
    refine done_ (by kernel_rfl) ?_
    obtain ⟨Ao27, co27, eo27⟩ := Kd.R_slice HO151.out
    subst eo27
    try go_wp2_with (first | ((with_reducible refine gate_callee (f := 152) rfl ?_); refine goesL_ (some 29) rfl rfl Try.func152 (by kernel_rfl) rfl #[.slice Ao27 y149.length co27] rfl (by (try simp only [List.map_toArray, List.map_cons, List.map_nil]); first | done | rfl | (simp only [List.length_drop, List.length_take]; rfl)) ?_; (with_reducible refine (spec_IsChain.calls kj2 _ _ y149 true _ ?side1 ?side2 A12.out).mono ?_); (case side1 => repeat (first | exact (Kd.R_reads' HO151.out).2.2 | (with_reducible refine Kd.CA ?_ _) | (with_reducible refine Kd.CN ?_ _) | (with_reducible refine Kd.CD ?_))); (case side2 => exact (Kd.R_reads' HO151.out).2.1); rintro e w28 ⟨rfl, hb⟩; refine ⟨_, rfl, ?_⟩; have n0_ := zK (Kd.R_below (by (with_reducible repeat (first | apply Kd.RA | apply Kd.RN | apply Kd.RD)); exact HO148.out) hb); have n1_ := zK (Kd.R_below (by (with_reducible repeat (first | apply Kd.RA | apply Kd.RN | apply Kd.RD)); exact HO151.out) hb); have n2_ := zK (bB (g := gb137) (o := .cells #[.int .i64 a1_0, .int .i64 a1_1, .int .i64 a1_2, .int .i64 a1_3, .int .i64 t139] 138 (0, 0)) (by (with_reducible repeat (first | refine kN ?_ _ | refine kD ?_ | refine kA ?_ _)); exact BK137.out) hb); have n3_ := zK (bT (by repeat (first | (with_reducible first | exact HB.out | apply bA | apply bN | apply b1 | refine bS ?_ GE137.out) | exact HB.out)) hb); clear HO148; clear HO151; clear BK137; clear HB; have HO148 := n0_; have HO151 := n1_; have BK137 := n2_; have HB := n3_; clear n0_ n1_ n2_ n3_; (try clear hb); (try clear hb2); (try clear hk); (try clear hi)))
    go_ret2
    exact ⟨_, by first | rfl | (simp [errW_none, errW_some] <;> rfl) | (simp [*, errW_none, errW_some] <;> rfl), by (with_reducible repeat (first | apply Kd.RA | apply Kd.RN | apply Kd.RD)); exact Kd.R_mono HO151.out (fun _ hk => trivial), by repeat (first | (with_reducible first | exact HB.out | apply bA | apply bN | apply b1 | refine bS ?_ GE137.out) | exact HB.out)⟩
   replace c13 := Bool.eq_false_iff.mpr c13
   subst c13
   have H1 : ((some (([] : List (S138)) : List (S138))).bind fun y153 => (if y153.length + l0.length < 3518437208883 then (some ((y153 ++ l0), false)) else (none))) = some (r1, r2) := by rw [if_neg (show ¬ (false = true) by decide)] at H; exact H
   clear H
   have H := H1
   clear H1
   obtain ⟨y153, hy153⟩ : ∃ y_ : List (S138), y_ = (([] : List (S138))) := ⟨_, rfl⟩
   replace H : (if y153.length + l0.length < 3518437208883 then (some ((y153 ++ l0), false)) else (none)) = some (r1, r2) := by first | (rw [hy153]; with_reducible exact H) | (have H2_ := (Option.bind_some _ _).symm.trans H; rw [hy153]; with_reducible exact H2_) | (have H2_ := (Option.bind_some _ _).symm.trans H; with_reducible exact H2_) | with_reducible exact H | (rw [hy153]; exact H) | exact H
   have Ny153 := zK hy153
   clear hy153
   by_cases c29 : y153.length + l0.length < 3518437208883
   rotate_left
   ·rw [if_neg c29] at H
    exact absurd H (by simp)
   rw [if_pos c29] at H
   have LMc29 := zK c29
   clear c29
   obtain ⟨y156, hy156⟩ : ∃ y_ : List (S138), y_ = (y153 ++ l0) := ⟨_, rfl⟩
   replace H : (some (y156, false)) = some (r1, r2) := by first | (rw [hy156]; with_reducible exact H) | (have H2_ := (Option.bind_some _ _).symm.trans H; rw [hy156]; with_reducible exact H2_) | (have H2_ := (Option.bind_some _ _).symm.trans H; with_reducible exact H2_) | with_reducible exact H | (rw [hy156]; exact H) | exact H
   have Ny156 := zK hy156
   clear hy156
   simp only [Option.some.injEq, Prod.mk.injEq] at H
   obtain ⟨rfl, rfl⟩ := H
   have hcz30_0 : wc.cell? ⟨gb137, 0, none⟩ = some (.int .i64 a1_0) := (bc BK137.out 0).trans rfl
   have hcz30_1 : wc.cell? ⟨gb137, 1, none⟩ = some (.int .i64 a1_1) := (bc BK137.out 1).trans rfl
   have hcz30_2 : wc.cell? ⟨gb137, 2, none⟩ = some (.int .i64 a1_2) := (bc BK137.out 2).trans rfl
   have hcz30_3 : wc.cell? ⟨gb137, 3, none⟩ = some (.int .i64 a1_3) := (bc BK137.out 3).trans rfl
   have hcz30_4 : wc.cell? ⟨gb137, 4, none⟩ = some (.int .i64 a1_4) := (bc BK137.out 4).trans rfl
   have hfz30_0 := bf BK137.out 0
   have hfz30_1 := bf BK137.out 1
   have hfz30_2 := bf BK137.out 2
   have hfz30_3 := bf BK137.out 3
   have hfz30_4 := bf BK137.out 4
   try go_wp2_with (first | ((with_reducible refine gate_callee (f := 154) rfl ?_); refine goesL_ (some 20) rfl rfl Try.func154 (by kernel_rfl) rfl #[.int .i64 x6_2, .agg #[.int .i64 a1_0, .int .i64 a1_1, .int .i64 a1_2, .int .i64 a1_3, .int .i64 a1_4]] rfl (by (try simp only [List.map_toArray, List.map_cons, List.map_nil]); first | done | rfl | (simp only [List.length_drop, List.length_take]; rfl)) ?_; (with_reducible refine (spec_HandSeal.calls kj2 x6_2 a1_0 a1_1 a1_2 a1_3 a1_4 t139 _ A9.out).mono ?_); rintro e w31 ⟨rfl, hb⟩; refine ⟨_, rfl, ?_⟩; have n0_ := zK (bB (g := gb137) (o := .cells #[.int .i64 a1_0, .int .i64 a1_1, .int .i64 a1_2, .int .i64 a1_3, .int .i64 a1_4] 138 (0, 0)) (by (with_reducible repeat (first | refine kN ?_ _ | refine kD ?_ | refine kA ?_ _)); exact BK137.out) hb); have n1_ := zK (bT (by repeat (first | (with_reducible first | exact HB.out | apply bA | apply bN | apply b1 | refine bS ?_ GE137.out) | exact HB.out)) hb); clear BK137; clear HB; have BK137 := n0_; have HB := n1_; clear n0_ n1_; (try clear hb); (try clear hb2); (try clear hk); (try clear hi); have hcz32_0 : w31.cell? ⟨gb137, 0, none⟩ = some (.int .i64 a1_0) := (bc BK137.out 0).trans rfl; have hcz32_1 : w31.cell? ⟨gb137, 1, none⟩ = some (.int .i64 a1_1) := (bc BK137.out 1).trans rfl; have hcz32_2 : w31.cell? ⟨gb137, 2, none⟩ = some (.int .i64 a1_2) := (bc BK137.out 2).trans rfl; have hcz32_3 : w31.cell? ⟨gb137, 3, none⟩ = some (.int .i64 a1_3) := (bc BK137.out 3).trans rfl; have hcz32_4 : w31.cell? ⟨gb137, 4, none⟩ = some (.int .i64 a1_4) := (bc BK137.out 4).trans rfl; have hfz32_0 := bf BK137.out 0; have hfz32_1 := bf BK137.out 1; have hfz32_2 := bf BK137.out 2; have hfz32_3 := bf BK137.out 3; have hfz32_4 := bf BK137.out 4))
   have n0_ : Aside0 ((w31.setCell ⟨gb137, 4, none⟩ (.int .i64 t139)).heap[gb137]? = some (.cells #[.int .i64 a1_0, .int .i64 a1_1, .int .i64 a1_2, .int .i64 a1_3, .int .i64 t139] 138 (0, 0))) := ⟨by (with_reducible repeat (first | refine kN ?_ _ | refine kD ?_ | refine kA ?_ _)); refine blk_put (cs := #[.int .i64 a1_0, .int .i64 a1_1, .int .i64 a1_2, .int .i64 a1_3, .int .i64 a1_4]) ?_ 4 _ rfl; (with_reducible repeat (first | refine kN ?_ _ | refine kD ?_ | refine kA ?_ _)); exact BK137.out⟩
   have n1_ : Aside0 (Below w.heap.size w (w31.setCell ⟨gb137, 4, none⟩ (.int .i64 t139))) := ⟨by repeat (first | (with_reducible first | exact HB.out | apply bA | apply bN | apply b1 | refine bS ?_ GE137.out) | exact HB.out)⟩
   (try clear BK137)
   (try clear HB)
   generalize (w31.setCell ⟨gb137, 4, none⟩ (.int .i64 t139)) = w33 at n0_ n1_ ⊢
   have BK137 := n0_
   have HB := n1_
   clear n0_ n1_
   have n0_ := zK (kD BK137.out)
   have n1_ := zK (b1 HB.out)
   clear BK137
   clear HB
   have BK137 := n0_
   have HB := n1_
   clear n0_ n1_
   refine start_ (n := 7) (S := fun w' => w'.cell? ⟨gb137, 0, none⟩ = some (.int .i64 a1_0) ∧ w'.cell? ⟨gb137, 1, none⟩ = some (.int .i64 a1_1) ∧ w'.cell? ⟨gb137, 2, none⟩ = some (.int .i64 a1_2) ∧ w'.cell? ⟨gb137, 3, none⟩ = some (.int .i64 a1_3) ∧ w'.cell? ⟨gb137, 4, none⟩ = some (.int .i64 t139)) (ds := []) b3A0 (by kernel_rfl) rfl rfl ⟨(bc BK137.out 0).trans rfl, (bc BK137.out 1).trans rfl, (bc BK137.out 2).trans rfl, (bc BK137.out 3).trans rfl, (bc BK137.out 4).trans rfl⟩ (fun hHeld => ?_)
   generalize w33.drew = w34 at BK137 HB hHeld ⊢
   refine pure_ (i := 1) (N := some 23) (v := ?_) (a' := ?_) b3A1 rfl rfl (by kernel_rfl) (fun _ _ _ h => h) (Or.inl ⟨by rfl, ?_⟩) ?_ ?_
   rotate_left
   ·intro w'
    go_simp
    with_reducible rfl
   rotate_left
   ·simp only [Act.put, sA, sZ, sS, i64_w, i32_w]
    rfl
   refine take_ (i := 3) (N := some 25) (v := ?_) (a' := ?_) b3A2 rfl rfl (by kernel_rfl) (fun _ _ _ h => h) (Or.inl ⟨by rfl, ?_⟩) hHeld ?_ ?_
   rotate_left
   ·rintro w' ⟨s0, s1, s2, s3, s4⟩
    go_simp
    with_reducible rfl
   rotate_left
   ·simp only [Act.put, sA, sZ, sS, i64_w, i32_w]
    rfl
   refine join_ (σ := Value × Value × Value) 2 b3A3 (fun s_ => [(22, s_.1), (24, s_.2.1), (26, s_.2.2)]) (fun s_ w' => (w'.cell? ⟨gb137, 0, none⟩ = some (.int .i64 a1_0) ∧ w'.cell? ⟨gb137, 1, none⟩ = some (.int .i64 a1_1) ∧ w'.cell? ⟨gb137, 2, none⟩ = some (.int .i64 a1_2) ∧ w'.cell? ⟨gb137, 3, none⟩ = some (.int .i64 a1_3) ∧ w'.cell? ⟨gb137, 4, none⟩ = some (.int .i64 t139)) ∧ (Kd.R k138 138 w' w.heap.size (fun k_ => some k_ ≠ (s_.2.2 : Value).ownBlock ∧ k_ ≠ gb137) s_.2.1 y143) ∧ (Kd.R k138 138 w' w.heap.size (fun k_ => some k_ ≠ (s_.2.1 : Value).ownBlock ∧ k_ ≠ gb137) s_.2.2 y146) ∧ (w'.heap[gb137]? = some (.cells #[.int .i64 a1_0, .int .i64 a1_1, .int .i64 a1_2, .int .i64 a1_3, .int .i64 t139] 138 (0, 0))) ∧ (Below w.heap.size w w')) ?_ ?_
   rotate_left
   ·intro hCont
    refine two_ (i := 0) (j := 4) (Ni := some 22) (Nj := some 26) b3A4 b3A5 rfl rfl rfl rfl (by kernel_rfl) (by decide) (by decide) (fun K hK => ?_) (fun K hK => ?_)
    rotate_left
    ·skip
     refine Kd.R_lit_step k138 _ 138 ?hg (N := 26) ?hd (xs := ([(⟨a1_0, a1_1, a1_2, a1_3, t139⟩ : S138)] : List (S138))) (inner := [.int .i64 a1_0, .int .i64 a1_1, .int .i64 a1_2, .int .i64 a1_3, .int .i64 t139]) (ok := fun _ => True) (okp := fun _ => True) ?hr ?hp (fun _ hk => hk) trivial (Below.refl _ _) (Nat.le_refl _) (by simp) ?_; (case hd => rfl); (case hg => rfl); (case hr => first | (go_simp; done) | (go_simp; rfl)); (case hp => exact (Reps.c5 (show Kd.M k138 _ _ _ (⟨a1_0, a1_1, a1_2, a1_3, t139⟩ : S138) [.int .i64 a1_0, .int .i64 a1_1, .int .i64 a1_2, .int .i64 a1_3, .int .i64 t139] from (k138_mkM _ _ _ (⟨a1_0, a1_1, a1_2, a1_3, t139⟩ : S138) )) (Reps.none _ _)))
     intro v147 w35 ho36 hb hg_ hnew_
     clear hg_ hnew_
     (first | rw [← Ny146.out] at ho36 | (simp only [Int.reduceToNat] at ho36; rw [← Ny146.out] at ho36))
     have n0_ := zK (Kd.R_lower (Kd.R_newB ho36 (g := gb137) (o := .cells #[.int .i64 a1_0, .int .i64 a1_1, .int .i64 a1_2, .int .i64 a1_3, .int .i64 t139] 138 (0, 0)) (by (with_reducible repeat (first | refine kN ?_ _ | refine kD ?_ | refine kA ?_ _)); exact BK137.out)) (bZ (by repeat (first | (with_reducible first | exact HB.out | apply bA | apply bN | apply b1 | refine bS ?_ GE137.out) | exact HB.out))))
     have n1_ := zK (bB (g := gb137) (o := .cells #[.int .i64 a1_0, .int .i64 a1_1, .int .i64 a1_2, .int .i64 a1_3, .int .i64 t139] 138 (0, 0)) (by (with_reducible repeat (first | refine kN ?_ _ | refine kD ?_ | refine kA ?_ _)); exact BK137.out) hb)
     have n2_ := zK (bT (by repeat (first | (with_reducible first | exact HB.out | apply bA | apply bN | apply b1 | refine bS ?_ GE137.out) | exact HB.out)) hb)
     clear BK137
     clear HB
     have HO148 := n0_
     have BK137 := n1_
     have HB := n2_
     clear n0_ n1_ n2_
     clear hb ho36
     refine hK.out _ _ ⟨(bc BK137.out 0).trans rfl, (bc BK137.out 1).trans rfl, (bc BK137.out 2).trans rfl, (bc BK137.out 3).trans rfl, (bc BK137.out 4).trans rfl⟩ (fun hHeld => ?_)
     clear hK K
     refine norm_ (a' := ?_) ?_ ?_
     rotate_left
     ·show Act.put _ (some 26) _ = _
      simp only [Act.put, sA, sZ, sS, i64_w, i32_w]
      rfl
     refine one_ (i := 0) (N := some 22) b3A7 rfl rfl (by kernel_rfl) (by decide) (fun K hK => ?_)
     refine Kd.R_lit_step k138 _ 138 ?hg (N := 22) ?hd (xs := ([] : List (S138))) (inner := []) (ok := fun _ => True) (okp := fun _ => True) ?hr ?hp (fun _ hk => hk) trivial (Below.refl _ _) (Nat.le_refl _) (by simp) ?_; (case hd => rfl); (case hg => rfl); (case hr => first | (go_simp; done) | (go_simp; rfl)); (case hp => exact (Reps.none _ _))
     intro v141 w37 ho38 hb hg_ hnew_
     clear hg_ hnew_
     (first | rw [← Ny140.out] at ho38 | (simp only [Int.reduceToNat] at ho38; rw [← Ny140.out] at ho38))
     have n0_ := zK (Kd.R_elder' (by (with_reducible repeat (first | apply Kd.RA | apply Kd.RN | apply Kd.RD)); exact HO148.out) (Kd.R_base ho38) hb)
     have n1_ := zK (Kd.R_lower (Kd.R_newB (Kd.R_new' ho38 (Kd.R_lt (by (with_reducible repeat (first | apply Kd.RA | apply Kd.RN | apply Kd.RD)); exact HO148.out))) (g := gb137) (o := .cells #[.int .i64 a1_0, .int .i64 a1_1, .int .i64 a1_2, .int .i64 a1_3, .int .i64 t139] 138 (0, 0)) (by (with_reducible repeat (first | refine kN ?_ _ | refine kD ?_ | refine kA ?_ _)); exact BK137.out)) (bZ (by repeat (first | (with_reducible first | exact HB.out | apply bA | apply bN | apply b1 | refine bS ?_ GE137.out) | exact HB.out))))
     have n2_ := zK (bB (g := gb137) (o := .cells #[.int .i64 a1_0, .int .i64 a1_1, .int .i64 a1_2, .int .i64 a1_3, .int .i64 t139] 138 (0, 0)) (by (with_reducible repeat (first | refine kN ?_ _ | refine kD ?_ | refine kA ?_ _)); exact BK137.out) hb)
     have n3_ := zK (bT (by repeat (first | (with_reducible first | exact HB.out | apply bA | apply bN | apply b1 | refine bS ?_ GE137.out) | exact HB.out)) hb)
     clear HO148
     clear BK137
     clear HB
     have HO148 := n0_
     have HO142 := n1_
     have BK137 := n2_
     have HB := n3_
     clear n0_ n1_ n2_ n3_
     clear hb ho38
     refine hK.out _ _ ⟨(bc BK137.out 0).trans rfl, (bc BK137.out 1).trans rfl, (bc BK137.out 2).trans rfl, (bc BK137.out 3).trans rfl, (bc BK137.out 4).trans rfl⟩ (fun hHeld => ?_)
     clear hK K
     refine norm_ (a' := ?_) ?_ ?_
     rotate_left
     ·show Act.put _ (some 22) _ = _
      simp only [Act.put, sA, sZ, sS, i64_w, i32_w]
      rfl
     refine one_ (i := 2) (N := some 24) b3A3 rfl rfl (by kernel_rfl) (by decide) (fun K hK => ?_)
     refine Kd.R_append_rows_step k138 (w0 := w) w.heap.size (by rfl) (.tmp 22) (.tmp 23) 51 138 (.agg #[(.int .i64 0), (.int .i64 0), (.int .i64 0), (.int .i64 0), (.int .i64 0)]) 40 rfl Try.underlying51 info138 rfl (by decide) (by omega) v141 y140 l0 _ _ _ (fun k_ => some k_ ≠ (v147 : Value).ownBlock ∧ k_ ≠ gb137) (fun _ => False) rfl rfl ?aO ?aR (fun _ _ h => h) (fun _ h => h.elim) ?aF ?aB ?aS ?aL ?_
     (case aR => repeat (first | exact (Kd.C_below HR0.out HB.out) | (with_reducible refine Kd.CA ?_ _) | (with_reducible refine Kd.CN ?_ _) | (with_reducible refine Kd.CD ?_)))
     (case aB => exact (by repeat (first | (with_reducible first | exact HB.out | apply bA | apply bN | apply b1 | refine bS ?_ GE137.out) | exact HB.out)))
     (case aF => exact (fun k_ hk => ⟨Kd.fresh' (Kd.R_lt (by (with_reducible repeat (first | apply Kd.RA | apply Kd.RN | apply Kd.RD)); exact HO148.out)) k_ hk, Kd.freshB (g := gb137) (o := .cells #[.int .i64 a1_0, .int .i64 a1_1, .int .i64 a1_2, .int .i64 a1_3, .int .i64 t139] 138 (0, 0)) (by (with_reducible repeat (first | refine kN ?_ _ | refine kD ?_ | refine kA ?_ _)); exact BK137.out) k_ hk⟩))
     (case aO => exact (by (with_reducible repeat (first | apply Kd.RA | apply Kd.RN | apply Kd.RD)); exact Kd.R_mono HO142.out (fun _ hk => ⟨hk.1.2, hk.2⟩)))
     (case aS => exact (bZ (by repeat (first | (with_reducible first | exact HB.out | apply bA | apply bN | apply b1 | refine bS ?_ GE137.out) | exact HB.out))))
     (case aL => have := LMc10.out; omega)
     intro v144 w39 ho hb hg hat
     rw [← Ny143.out] at ho
     have n0_ := zK (blk_grown (g := gb137) (o := .cells #[.int .i64 a1_0, .int .i64 a1_1, .int .i64 a1_2, .int .i64 a1_3, .int .i64 t139] 138 (0, 0)) (by (with_reducible repeat (first | refine kN ?_ _ | refine kD ?_ | refine kA ?_ _)); exact BK137.out) hg (Kd.R_away HO142.out (fun _ hk => hk.2)))
     have n1_ := zK (Kd.R_after (ok := (fun k_ => k_ ≠ gb137)) (by (with_reducible repeat (first | apply Kd.RA | apply Kd.RN | apply Kd.RD)); exact Kd.R_mono HO148.out (fun _ hk => ⟨hk.1.2, hk.2⟩)) hg hat)
     have n2_ := zK (hb)
     have n3_ := zK (ho)
     clear BK137
     clear HO148
     clear HB
     clear HO142
     have BK137 := n0_
     have HO148 := n1_
     have HB := n2_
     have HO145 := n3_
     clear n0_ n1_ n2_ n3_
     clear ho hb hg hat
     refine hK.out _ _ ⟨(bc BK137.out 0).trans rfl, (bc BK137.out 1).trans rfl, (bc BK137.out 2).trans rfl, (bc BK137.out 3).trans rfl, (bc BK137.out 4).trans rfl⟩ (fun hHeld => ?_)
     clear hK K
     refine norm_ (a' := ?_) ?_ ?_
     rotate_left
     ·show Act.put _ (some 24) _ = _
      simp only [Act.put, sA, sZ, sS, i64_w, i32_w]
      rfl
     exact norm_ (by simp only [putAll, Act.put, sA, sZ, sS]) (hCont (v141, v144, v147) _ ⟨hHeld, (by (with_reducible repeat (first | apply Kd.RA | apply Kd.RN | apply Kd.RD)); exact HO145.out), (by (with_reducible repeat (first | apply Kd.RA | apply Kd.RN | apply Kd.RD)); exact Kd.R_mono HO148.out (fun _ hk => ⟨hk.2, hk.1⟩)), (by (with_reducible repeat (first | refine kN ?_ _ | refine kD ?_ | refine kA ?_ _)); exact BK137.out), (by repeat (first | (with_reducible first | exact HB.out | apply bA | apply bN | apply b1 | refine bS ?_ GE137.out) | exact HB.out))⟩)
    skip
    refine Kd.R_lit_step k138 _ 138 ?hg (N := 22) ?hd (xs := ([] : List (S138))) (inner := []) (ok := fun _ => True) (okp := fun _ => True) ?hr ?hp (fun _ hk => hk) trivial (Below.refl _ _) (Nat.le_refl _) (by simp) ?_; (case hd => rfl); (case hg => rfl); (case hr => first | (go_simp; done) | (go_simp; rfl)); (case hp => exact (Reps.none _ _))
    intro v141 w35 ho36 hb hg_ hnew_
    clear hg_ hnew_
    (first | rw [← Ny140.out] at ho36 | (simp only [Int.reduceToNat] at ho36; rw [← Ny140.out] at ho36))
    have n0_ := zK (Kd.R_lower (Kd.R_newB ho36 (g := gb137) (o := .cells #[.int .i64 a1_0, .int .i64 a1_1, .int .i64 a1_2, .int .i64 a1_3, .int .i64 t139] 138 (0, 0)) (by (with_reducible repeat (first | refine kN ?_ _ | refine kD ?_ | refine kA ?_ _)); exact BK137.out)) (bZ (by repeat (first | (with_reducible first | exact HB.out | apply bA | apply bN | apply b1 | refine bS ?_ GE137.out) | exact HB.out))))
    have n1_ := zK (bB (g := gb137) (o := .cells #[.int .i64 a1_0, .int .i64 a1_1, .int .i64 a1_2, .int .i64 a1_3, .int .i64 t139] 138 (0, 0)) (by (with_reducible repeat (first | refine kN ?_ _ | refine kD ?_ | refine kA ?_ _)); exact BK137.out) hb)
    have n2_ := zK (bT (by repeat (first | (with_reducible first | exact HB.out | apply bA | apply bN | apply b1 | refine bS ?_ GE137.out) | exact HB.out)) hb)
    clear BK137
    clear HB
    have HO142 := n0_
    have BK137 := n1_
    have HB := n2_
    clear n0_ n1_ n2_
    clear hb ho36
    refine hK.out _ _ ⟨(bc BK137.out 0).trans rfl, (bc BK137.out 1).trans rfl, (bc BK137.out 2).trans rfl, (bc BK137.out 3).trans rfl, (bc BK137.out 4).trans rfl⟩ (fun hHeld => ?_)
    clear hK K
    refine norm_ (a' := ?_) ?_ ?_
    rotate_left
    ·show Act.put _ (some 22) _ = _
     simp only [Act.put, sA, sZ, sS, i64_w, i32_w]
     rfl
    refine two_ (i := 2) (j := 4) (Ni := some 24) (Nj := some 26) b3A6 b3A7 rfl rfl rfl rfl (by kernel_rfl) (by decide) (by decide) (fun K hK => ?_) (fun K hK => ?_)
    ·skip
     refine Kd.R_append_rows_step k138 (w0 := w) w.heap.size (by rfl) (.tmp 22) (.tmp 23) 51 138 (.agg #[(.int .i64 0), (.int .i64 0), (.int .i64 0), (.int .i64 0), (.int .i64 0)]) 40 rfl Try.underlying51 info138 rfl (by decide) (by omega) v141 y140 l0 _ _ _ (fun k_ => k_ ≠ gb137) (fun _ => False) rfl rfl ?aO ?aR (fun _ _ h => h) (fun _ h => h.elim) ?aF ?aB ?aS ?aL ?_
     (case aR => repeat (first | exact (Kd.C_below HR0.out HB.out) | (with_reducible refine Kd.CA ?_ _) | (with_reducible refine Kd.CN ?_ _) | (with_reducible refine Kd.CD ?_)))
     (case aB => exact (by repeat (first | (with_reducible first | exact HB.out | apply bA | apply bN | apply b1 | refine bS ?_ GE137.out) | exact HB.out)))
     (case aF => exact (fun k_ hk => Kd.freshB (g := gb137) (o := .cells #[.int .i64 a1_0, .int .i64 a1_1, .int .i64 a1_2, .int .i64 a1_3, .int .i64 t139] 138 (0, 0)) (by (with_reducible repeat (first | refine kN ?_ _ | refine kD ?_ | refine kA ?_ _)); exact BK137.out) k_ hk))
     (case aO => exact (by (with_reducible repeat (first | apply Kd.RA | apply Kd.RN | apply Kd.RD)); exact Kd.R_mono HO142.out (fun _ hk => hk.2)))
     (case aS => exact (bZ (by repeat (first | (with_reducible first | exact HB.out | apply bA | apply bN | apply b1 | refine bS ?_ GE137.out) | exact HB.out))))
     (case aL => have := LMc10.out; omega)
     intro v144 w37 ho hb hg hat
     rw [← Ny143.out] at ho
     have n0_ := zK (blk_grown (g := gb137) (o := .cells #[.int .i64 a1_0, .int .i64 a1_1, .int .i64 a1_2, .int .i64 a1_3, .int .i64 t139] 138 (0, 0)) (by (with_reducible repeat (first | refine kN ?_ _ | refine kD ?_ | refine kA ?_ _)); exact BK137.out) hg (Kd.R_away HO142.out (fun _ hk => hk.2)))
     have n1_ := zK (hb)
     have n2_ := zK (ho)
     clear BK137
     clear HB
     clear HO142
     have BK137 := n0_
     have HB := n1_
     have HO145 := n2_
     clear n0_ n1_ n2_
     clear ho hb hg hat
     refine hK.out _ _ ⟨(bc BK137.out 0).trans rfl, (bc BK137.out 1).trans rfl, (bc BK137.out 2).trans rfl, (bc BK137.out 3).trans rfl, (bc BK137.out 4).trans rfl⟩ (fun hHeld => ?_)
     clear hK K
     refine norm_ (a' := ?_) ?_ ?_
     rotate_left
     ·show Act.put _ (some 24) _ = _
      simp only [Act.put, sA, sZ, sS, i64_w, i32_w]
      rfl
     refine one_ (i := 4) (N := some 26) b3A3 rfl rfl (by kernel_rfl) (by decide) (fun K hK => ?_)
     refine Kd.R_lit_step k138 _ 138 ?hg (N := 26) ?hd (xs := ([(⟨a1_0, a1_1, a1_2, a1_3, t139⟩ : S138)] : List (S138))) (inner := [.int .i64 a1_0, .int .i64 a1_1, .int .i64 a1_2, .int .i64 a1_3, .int .i64 t139]) (ok := fun _ => True) (okp := fun _ => True) ?hr ?hp (fun _ hk => hk) trivial (Below.refl _ _) (Nat.le_refl _) (by simp) ?_; (case hd => rfl); (case hg => rfl); (case hr => first | (go_simp; done) | (go_simp; rfl)); (case hp => exact (Reps.c5 (show Kd.M k138 _ _ _ (⟨a1_0, a1_1, a1_2, a1_3, t139⟩ : S138) [.int .i64 a1_0, .int .i64 a1_1, .int .i64 a1_2, .int .i64 a1_3, .int .i64 t139] from (k138_mkM _ _ _ (⟨a1_0, a1_1, a1_2, a1_3, t139⟩ : S138) )) (Reps.none _ _)))
     intro v147 w38 ho39 hb hg_ hnew_
     clear hg_ hnew_
     (first | rw [← Ny146.out] at ho39 | (simp only [Int.reduceToNat] at ho39; rw [← Ny146.out] at ho39))
     have n0_ := zK (Kd.R_elder' (by (with_reducible repeat (first | apply Kd.RA | apply Kd.RN | apply Kd.RD)); exact HO145.out) (Kd.R_base ho39) hb)
     have n1_ := zK (Kd.R_lower (Kd.R_newB (Kd.R_new' ho39 (Kd.R_lt (by (with_reducible repeat (first | apply Kd.RA | apply Kd.RN | apply Kd.RD)); exact HO145.out))) (g := gb137) (o := .cells #[.int .i64 a1_0, .int .i64 a1_1, .int .i64 a1_2, .int .i64 a1_3, .int .i64 t139] 138 (0, 0)) (by (with_reducible repeat (first | refine kN ?_ _ | refine kD ?_ | refine kA ?_ _)); exact BK137.out)) (bZ (by repeat (first | (with_reducible first | exact HB.out | apply bA | apply bN | apply b1 | refine bS ?_ GE137.out) | exact HB.out))))
     have n2_ := zK (bB (g := gb137) (o := .cells #[.int .i64 a1_0, .int .i64 a1_1, .int .i64 a1_2, .int .i64 a1_3, .int .i64 t139] 138 (0, 0)) (by (with_reducible repeat (first | refine kN ?_ _ | refine kD ?_ | refine kA ?_ _)); exact BK137.out) hb)
     have n3_ := zK (bT (by repeat (first | (with_reducible first | exact HB.out | apply bA | apply bN | apply b1 | refine bS ?_ GE137.out) | exact HB.out)) hb)
     clear HO145
     clear BK137
     clear HB
     have HO145 := n0_
     have HO148 := n1_
     have BK137 := n2_
     have HB := n3_
     clear n0_ n1_ n2_ n3_
     clear hb ho39
     refine hK.out _ _ ⟨(bc BK137.out 0).trans rfl, (bc BK137.out 1).trans rfl, (bc BK137.out 2).trans rfl, (bc BK137.out 3).trans rfl, (bc BK137.out 4).trans rfl⟩ (fun hHeld => ?_)
     clear hK K
     refine norm_ (a' := ?_) ?_ ?_
     rotate_left
     ·show Act.put _ (some 26) _ = _
      simp only [Act.put, sA, sZ, sS, i64_w, i32_w]
      rfl
     exact norm_ (by simp only [putAll, Act.put, sA, sZ, sS]) (hCont (v141, v144, v147) _ ⟨hHeld, (by (with_reducible repeat (first | apply Kd.RA | apply Kd.RN | apply Kd.RD)); exact Kd.R_mono HO145.out (fun _ hk => ⟨hk.2, hk.1⟩)), (by (with_reducible repeat (first | apply Kd.RA | apply Kd.RN | apply Kd.RD)); exact Kd.R_mono HO148.out (fun _ hk => ⟨hk.1.2, hk.2⟩)), (by (with_reducible repeat (first | refine kN ?_ _ | refine kD ?_ | refine kA ?_ _)); exact BK137.out), (by repeat (first | (with_reducible first | exact HB.out | apply bA | apply bN | apply b1 | refine bS ?_ GE137.out) | exact HB.out))⟩)
    skip
    refine Kd.R_lit_step k138 _ 138 ?hg (N := 26) ?hd (xs := ([(⟨a1_0, a1_1, a1_2, a1_3, t139⟩ : S138)] : List (S138))) (inner := [.int .i64 a1_0, .int .i64 a1_1, .int .i64 a1_2, .int .i64 a1_3, .int .i64 t139]) (ok := fun _ => True) (okp := fun _ => True) ?hr ?hp (fun _ hk => hk) trivial (Below.refl _ _) (Nat.le_refl _) (by simp) ?_; (case hd => rfl); (case hg => rfl); (case hr => first | (go_simp; done) | (go_simp; rfl)); (case hp => exact (Reps.c5 (show Kd.M k138 _ _ _ (⟨a1_0, a1_1, a1_2, a1_3, t139⟩ : S138) [.int .i64 a1_0, .int .i64 a1_1, .int .i64 a1_2, .int .i64 a1_3, .int .i64 t139] from (k138_mkM _ _ _ (⟨a1_0, a1_1, a1_2, a1_3, t139⟩ : S138) )) (Reps.none _ _)))
    intro v147 w37 ho38 hb hg_ hnew_
    clear hg_ hnew_
    (first | rw [← Ny146.out] at ho38 | (simp only [Int.reduceToNat] at ho38; rw [← Ny146.out] at ho38))
    have n0_ := zK (Kd.R_elder' (by (with_reducible repeat (first | apply Kd.RA | apply Kd.RN | apply Kd.RD)); exact HO142.out) (Kd.R_base ho38) hb)
    have n1_ := zK (Kd.R_lower (Kd.R_newB (Kd.R_new' ho38 (Kd.R_lt (by (with_reducible repeat (first | apply Kd.RA | apply Kd.RN | apply Kd.RD)); exact HO142.out))) (g := gb137) (o := .cells #[.int .i64 a1_0, .int .i64 a1_1, .int .i64 a1_2, .int .i64 a1_3, .int .i64 t139] 138 (0, 0)) (by (with_reducible repeat (first | refine kN ?_ _ | refine kD ?_ | refine kA ?_ _)); exact BK137.out)) (bZ (by repeat (first | (with_reducible first | exact HB.out | apply bA | apply bN | apply b1 | refine bS ?_ GE137.out) | exact HB.out))))
    have n2_ := zK (bB (g := gb137) (o := .cells #[.int .i64 a1_0, .int .i64 a1_1, .int .i64 a1_2, .int .i64 a1_3, .int .i64 t139] 138 (0, 0)) (by (with_reducible repeat (first | refine kN ?_ _ | refine kD ?_ | refine kA ?_ _)); exact BK137.out) hb)
    have n3_ := zK (bT (by repeat (first | (with_reducible first | exact HB.out | apply bA | apply bN | apply b1 | refine bS ?_ GE137.out) | exact HB.out)) hb)
    clear HO142
    clear BK137
    clear HB
    have HO142 := n0_
    have HO148 := n1_
    have BK137 := n2_
    have HB := n3_
    clear n0_ n1_ n2_ n3_
    clear hb ho38
    refine hK.out _ _ ⟨(bc BK137.out 0).trans rfl, (bc BK137.out 1).trans rfl, (bc BK137.out 2).trans rfl, (bc BK137.out 3).trans rfl, (bc BK137.out 4).trans rfl⟩ (fun hHeld => ?_)
    clear hK K
    refine norm_ (a' := ?_) ?_ ?_
    rotate_left
    ·show Act.put _ (some 26) _ = _
     simp only [Act.put, sA, sZ, sS, i64_w, i32_w]
     rfl
    refine one_ (i := 2) (N := some 24) b3A3 rfl rfl (by kernel_rfl) (by decide) (fun K hK => ?_)
    refine Kd.R_append_rows_step k138 (w0 := w) w.heap.size (by rfl) (.tmp 22) (.tmp 23) 51 138 (.agg #[(.int .i64 0), (.int .i64 0), (.int .i64 0), (.int .i64 0), (.int .i64 0)]) 40 rfl Try.underlying51 info138 rfl (by decide) (by omega) v141 y140 l0 _ _ _ (fun k_ => some k_ ≠ (v147 : Value).ownBlock ∧ k_ ≠ gb137) (fun _ => False) rfl rfl ?aO ?aR (fun _ _ h => h) (fun _ h => h.elim) ?aF ?aB ?aS ?aL ?_
    (case aR => repeat (first | exact (Kd.C_below HR0.out HB.out) | (with_reducible refine Kd.CA ?_ _) | (with_reducible refine Kd.CN ?_ _) | (with_reducible refine Kd.CD ?_)))
    (case aB => exact (by repeat (first | (with_reducible first | exact HB.out | apply bA | apply bN | apply b1 | refine bS ?_ GE137.out) | exact HB.out)))
    (case aF => exact (fun k_ hk => ⟨Kd.fresh' (Kd.R_lt (by (with_reducible repeat (first | apply Kd.RA | apply Kd.RN | apply Kd.RD)); exact HO148.out)) k_ hk, Kd.freshB (g := gb137) (o := .cells #[.int .i64 a1_0, .int .i64 a1_1, .int .i64 a1_2, .int .i64 a1_3, .int .i64 t139] 138 (0, 0)) (by (with_reducible repeat (first | refine kN ?_ _ | refine kD ?_ | refine kA ?_ _)); exact BK137.out) k_ hk⟩))
    (case aO => exact (by (with_reducible repeat (first | apply Kd.RA | apply Kd.RN | apply Kd.RD)); exact Kd.R_mono HO142.out (fun _ hk => ⟨hk.2, hk.1.2⟩)))
    (case aS => exact (bZ (by repeat (first | (with_reducible first | exact HB.out | apply bA | apply bN | apply b1 | refine bS ?_ GE137.out) | exact HB.out))))
    (case aL => have := LMc10.out; omega)
    intro v144 w39 ho hb hg hat
    rw [← Ny143.out] at ho
    have n0_ := zK (blk_grown (g := gb137) (o := .cells #[.int .i64 a1_0, .int .i64 a1_1, .int .i64 a1_2, .int .i64 a1_3, .int .i64 t139] 138 (0, 0)) (by (with_reducible repeat (first | refine kN ?_ _ | refine kD ?_ | refine kA ?_ _)); exact BK137.out) hg (Kd.R_away HO142.out (fun _ hk => hk.1.2)))
    have n1_ := zK (Kd.R_after (ok := (fun k_ => k_ ≠ gb137)) (by (with_reducible repeat (first | apply Kd.RA | apply Kd.RN | apply Kd.RD)); exact Kd.R_mono HO148.out (fun _ hk => ⟨hk.2, hk.1.2⟩)) hg hat)
    have n2_ := zK (hb)
    have n3_ := zK (ho)
    clear BK137
    clear HO148
    clear HB
    clear HO142
    have BK137 := n0_
    have HO148 := n1_
    have HB := n2_
    have HO145 := n3_
    clear n0_ n1_ n2_ n3_
    clear ho hb hg hat
    refine hK.out _ _ ⟨(bc BK137.out 0).trans rfl, (bc BK137.out 1).trans rfl, (bc BK137.out 2).trans rfl, (bc BK137.out 3).trans rfl, (bc BK137.out 4).trans rfl⟩ (fun hHeld => ?_)
    clear hK K
    refine norm_ (a' := ?_) ?_ ?_
    rotate_left
    ·show Act.put _ (some 24) _ = _
     simp only [Act.put, sA, sZ, sS, i64_w, i32_w]
     rfl
    exact norm_ (by simp only [putAll, Act.put, sA, sZ, sS]) (hCont (v141, v144, v147) _ ⟨hHeld, (by (with_reducible repeat (first | apply Kd.RA | apply Kd.RN | apply Kd.RD)); exact HO145.out), (by (with_reducible repeat (first | apply Kd.RA | apply Kd.RN | apply Kd.RD)); exact Kd.R_mono HO148.out (fun _ hk => ⟨hk.2, hk.1⟩)), (by (with_reducible repeat (first | refine kN ?_ _ | refine kD ?_ | refine kA ?_ _)); exact BK137.out), (by repeat (first | (with_reducible first | exact HB.out | apply bA | apply bN | apply b1 | refine bS ?_ GE137.out) | exact HB.out))⟩)
   rintro ⟨v141, v144, v147⟩ w40 ⟨hS_, h0_, h1_, h2_, h3_⟩
   have n0_ : Aside0 (Kd.R k138 138 w40 w.heap.size (fun k_ => some k_ ≠ (v147 : Value).ownBlock ∧ k_ ≠ gb137) v144 y143) := ⟨h0_⟩
   have n1_ : Aside0 (Kd.R k138 138 w40 w.heap.size (fun k_ => some k_ ≠ (v144 : Value).ownBlock ∧ k_ ≠ gb137) v147 y146) := ⟨h1_⟩
   have n2_ : Aside0 (w40.heap[gb137]? = some (.cells #[.int .i64 a1_0, .int .i64 a1_1, .int .i64 a1_2, .int .i64 a1_3, .int .i64 t139] 138 (0, 0))) := ⟨h2_⟩
   have n3_ : Aside0 (Below w.heap.size w w40) := ⟨h3_⟩
   clear BK137
   clear HB
   clear h0_ h1_ h2_ h3_
   have HO145 := n0_
   have HO148 := n1_
   have BK137 := n2_
   have HB := n3_
   clear n0_ n1_ n2_ n3_
   have hHeld : w40.cell? ⟨gb137, 0, none⟩ = some (.int .i64 a1_0) ∧ w40.cell? ⟨gb137, 1, none⟩ = some (.int .i64 a1_1) ∧ w40.cell? ⟨gb137, 2, none⟩ = some (.int .i64 a1_2) ∧ w40.cell? ⟨gb137, 3, none⟩ = some (.int .i64 a1_3) ∧ w40.cell? ⟨gb137, 4, none⟩ = some (.int .i64 t139) := hS_
   obtain ⟨Ao42, co42, eo42⟩ := Kd.R_slice HO148.out
   (first | subst eo42 | (injection eo42 with f1_ f2_ f3_; have f4_ := f1_.symm; have f5_ := f3_.symm; clear f1_ f2_ f3_; subst f4_; subst f5_))
   refine norm_ (a' := ?_) ?_ ?_
   rotate_left
   ·simp only [putAll, Act.put, sA, sZ, sS]
    rfl
   refine one_ (i := 5) (N := some 27) b3A8 rfl rfl (by kernel_rfl) (by decide) (fun K hK => ?_)
   refine Kd.R_append_rows_step k138 (w0 := w) w.heap.size (by rfl) (.tmp 24) (.tmp 26) 51 138 (.agg #[(.int .i64 0), (.int .i64 0), (.int .i64 0), (.int .i64 0), (.int .i64 0)]) 40 rfl Try.underlying51 info138 rfl (by decide) (by omega) v144 y143 y146 _ _ _ (fun k_ => some k_ ≠ (.slice Ao42 y146.length co42 : Value).ownBlock ∧ k_ ≠ gb137) (fun _ => False) rfl rfl ?aO ?aR (fun _ _ h => h) (fun _ h => h.elim) ?aF ?aB ?aS ?aL ?_
   (case aR => repeat (first | exact (Kd.R_reads' HO148.out).2.2 | (with_reducible refine Kd.CA ?_ _) | (with_reducible refine Kd.CN ?_ _) | (with_reducible refine Kd.CD ?_)))
   (case aB => exact (by repeat (first | (with_reducible first | exact HB.out | apply bA | apply bN | apply b1 | refine bS ?_ GE137.out) | exact HB.out)))
   (case aF => exact (fun k_ hk => ⟨Kd.fresh' (Kd.R_lt (by (with_reducible repeat (first | apply Kd.RA | apply Kd.RN | apply Kd.RD)); exact HO148.out)) k_ hk, Kd.freshB (g := gb137) (o := .cells #[.int .i64 a1_0, .int .i64 a1_1, .int .i64 a1_2, .int .i64 a1_3, .int .i64 t139] 138 (0, 0)) (by (with_reducible repeat (first | refine kN ?_ _ | refine kD ?_ | refine kA ?_ _)); exact BK137.out) k_ hk⟩))
   (case aO => exact (by (with_reducible repeat (first | apply Kd.RA | apply Kd.RN | apply Kd.RD)); exact HO145.out))
   (case aS => exact (bZ (by repeat (first | (with_reducible first | exact HB.out | apply bA | apply bN | apply b1 | refine bS ?_ GE137.out) | exact HB.out))))
   (case aL => have := LMc11.out; omega)
   intro v150 w41 ho hb hg hat
   rw [← Ny149.out] at ho
   have n0_ := zK (blk_grown (g := gb137) (o := .cells #[.int .i64 a1_0, .int .i64 a1_1, .int .i64 a1_2, .int .i64 a1_3, .int .i64 t139] 138 (0, 0)) (by (with_reducible repeat (first | refine kN ?_ _ | refine kD ?_ | refine kA ?_ _)); exact BK137.out) hg (Kd.R_away HO145.out (fun _ hk => hk.2)))
   have n1_ := zK (Kd.R_after (ok := (fun k_ => k_ ≠ gb137)) (by (with_reducible repeat (first | apply Kd.RA | apply Kd.RN | apply Kd.RD)); exact Kd.R_mono HO148.out (fun _ hk => ⟨hk.2, hk.1⟩)) hg hat)
   have n2_ := zK (hb)
   have n3_ := zK (ho)
   clear BK137
   clear HO148
   clear HB
   clear HO145
   have BK137 := n0_
   have HO148 := n1_
   have HB := n2_
   have HO151 := n3_
   clear n0_ n1_ n2_ n3_
   clear ho hb hg hat
   refine hK.out _ _ ⟨(bc BK137.out 0).trans rfl, (bc BK137.out 1).trans rfl, (bc BK137.out 2).trans rfl, (bc BK137.out 3).trans rfl, (bc BK137.out 4).trans rfl⟩ (fun hHeld => ?_)
   clear hK K
   refine norm_ (a' := ?_) ?_ ?_
   rotate_left
   ·show Act.put _ (some 27) _ = _
    simp only [Act.put, sA, sZ, sS, i64_w, i32_w]
    rfl
   refine pure_ (i := 6) (N := some 7) (v := ?_) (a' := ?_) b3A9 rfl rfl (by kernel_rfl) (fun _ _ _ h => h) (Or.inl ⟨by rfl, ?_⟩) ?_ ?_
   rotate_left
   ·intro w'
    go_simp
    with_reducible rfl
   rotate_left
   ·simp only [Act.put, sA, sZ, sS, i64_w, i32_w]
    rfl
   refine done_ (by kernel_rfl) ?_
   obtain ⟨Ao43, co43, eo43⟩ := Kd.R_slice HO151.out
   subst eo43
   try go_wp2_with (first | ((with_reducible refine gate_callee (f := 152) rfl ?_); refine goesL_ (some 29) rfl rfl Try.func152 (by kernel_rfl) rfl #[.slice Ao43 y149.length co43] rfl (by (try simp only [List.map_toArray, List.map_cons, List.map_nil]); first | done | rfl | (simp only [List.length_drop, List.length_take]; rfl)) ?_; (with_reducible refine (spec_IsChain.calls kj2 _ _ y149 false _ ?side1 ?side2 A12.out).mono ?_); (case side1 => repeat (first | exact (Kd.R_reads' HO151.out).2.2 | (with_reducible refine Kd.CA ?_ _) | (with_reducible refine Kd.CN ?_ _) | (with_reducible refine Kd.CD ?_))); (case side2 => exact (Kd.R_reads' HO151.out).2.1); rintro e w44 ⟨rfl, hb⟩; refine ⟨_, rfl, ?_⟩; have n0_ := zK (Kd.R_below (by (with_reducible repeat (first | apply Kd.RA | apply Kd.RN | apply Kd.RD)); exact HO148.out) hb); have n1_ := zK (Kd.R_below (by (with_reducible repeat (first | apply Kd.RA | apply Kd.RN | apply Kd.RD)); exact HO151.out) hb); have n2_ := zK (bB (g := gb137) (o := .cells #[.int .i64 a1_0, .int .i64 a1_1, .int .i64 a1_2, .int .i64 a1_3, .int .i64 t139] 138 (0, 0)) (by (with_reducible repeat (first | refine kN ?_ _ | refine kD ?_ | refine kA ?_ _)); exact BK137.out) hb); have n3_ := zK (bT (by repeat (first | (with_reducible first | exact HB.out | apply bA | apply bN | apply b1 | refine bS ?_ GE137.out) | exact HB.out)) hb); clear HO148; clear HO151; clear BK137; clear HB; have HO148 := n0_; have HO151 := n1_; have BK137 := n2_; have HB := n3_; clear n0_ n1_ n2_ n3_; (try clear hb); (try clear hb2); (try clear hk); (try clear hi)) | ((with_reducible refine gate_dst (N := 31) rfl ?_); refine Kd.R_lit k138 _ 138 ?hg (N := 31) ?hd (xs := ([] : List (S138))) (inner := []) (ok := fun _ => True) (okp := fun _ => True) ?hr ?hp (fun _ hk => hk) trivial (Below.refl _ _) (Nat.le_refl _) (by simp) ?_; (case hd => rfl); (case hg => rfl); (case hr => first | (go_simp; done) | (go_simp; rfl)); (case hp => exact (Reps.none _ _)); intro v154 w45 ho46 hb hg_ hnew_; clear hg_ hnew_; (first | rw [← Ny153.out] at ho46 | (simp only [Int.reduceToNat] at ho46; rw [← Ny153.out] at ho46)); have n0_ := zK (Kd.R_elder' (by (with_reducible repeat (first | apply Kd.RA | apply Kd.RN | apply Kd.RD)); exact HO148.out) (Kd.R_base ho46) hb); have n1_ := zK (Kd.R_elder' (by (with_reducible repeat (first | apply Kd.RA | apply Kd.RN | apply Kd.RD)); exact HO151.out) (Kd.R_base ho46) hb); have n2_ := zK (Kd.R_lower (Kd.R_newB (Kd.R_new' (Kd.R_new' ho46 (Kd.R_lt (by (with_reducible repeat (first | apply Kd.RA | apply Kd.RN | apply Kd.RD)); exact HO148.out))) (Kd.R_lt (by (with_reducible repeat (first | apply Kd.RA | apply Kd.RN | apply Kd.RD)); exact HO151.out))) (g := gb137) (o := .cells #[.int .i64 a1_0, .int .i64 a1_1, .int .i64 a1_2, .int .i64 a1_3, .int .i64 t139] 138 (0, 0)) (by (with_reducible repeat (first | refine kN ?_ _ | refine kD ?_ | refine kA ?_ _)); exact BK137.out)) (bZ (by repeat (first | (with_reducible first | exact HB.out | apply bA | apply bN | apply b1 | refine bS ?_ GE137.out) | exact HB.out)))); have n3_ := zK (bB (g := gb137) (o := .cells #[.int .i64 a1_0, .int .i64 a1_1, .int .i64 a1_2, .int .i64 a1_3, .int .i64 t139] 138 (0, 0)) (by (with_reducible repeat (first | refine kN ?_ _ | refine kD ?_ | refine kA ?_ _)); exact BK137.out) hb); have n4_ := zK (bT (by repeat (first | (with_reducible first | exact HB.out | apply bA | apply bN | apply b1 | refine bS ?_ GE137.out) | exact HB.out)) hb); clear HO148; clear HO151; clear BK137; clear HB; have HO148 := n0_; have HO151 := n1_; have HO155 := n2_; have BK137 := n3_; have HB := n4_; clear n0_ n1_ n2_ n3_ n4_; clear hb ho46) | ((with_reducible refine gate_builtin (b := .append) (xs := #[.tmp 31, .tmp 32]) rfl ?_); at_builtin; refine Kd.R_append_rows k138 (w0 := w) w.heap.size rfl (.tmp 31) (.tmp 32) 51 138 (.agg #[(.int .i64 0), (.int .i64 0), (.int .i64 0), (.int .i64 0), (.int .i64 0)]) 40 rfl Try.underlying51 info138 rfl (by decide) (by omega) v154 y153 l0 _ _ _ (fun k_ => some k_ ≠ (.slice Ao42 y146.length co42 : Value).ownBlock ∧ some k_ ≠ (.slice Ao43 y149.length co43 : Value).ownBlock ∧ k_ ≠ gb137) (fun _ => False) rfl rfl ?aO ?aR (fun _ _ h => h) (fun _ h => h.elim) ?aF ?aB ?aS ?aL ?_; (case aR => repeat (first | exact (Kd.C_below HR0.out HB.out) | (with_reducible refine Kd.CA ?_ _) | (with_reducible refine Kd.CN ?_ _) | (with_reducible refine Kd.CD ?_))); (case aB => exact (by repeat (first | (with_reducible first | exact HB.out | apply bA | apply bN | apply b1 | refine bS ?_ GE137.out) | exact HB.out))); (case aF => exact (fun k_ hk => ⟨Kd.fresh' (Kd.R_lt (by (with_reducible repeat (first | apply Kd.RA | apply Kd.RN | apply Kd.RD)); exact HO148.out)) k_ hk, Kd.fresh' (Kd.R_lt (by (with_reducible repeat (first | apply Kd.RA | apply Kd.RN | apply Kd.RD)); exact HO151.out)) k_ hk, Kd.freshB (g := gb137) (o := .cells #[.int .i64 a1_0, .int .i64 a1_1, .int .i64 a1_2, .int .i64 a1_3, .int .i64 t139] 138 (0, 0)) (by (with_reducible repeat (first | refine kN ?_ _ | refine kD ?_ | refine kA ?_ _)); exact BK137.out) k_ hk⟩)); (case aO => exact (by (with_reducible repeat (first | apply Kd.RA | apply Kd.RN | apply Kd.RD)); exact Kd.R_mono HO155.out (fun _ hk => ⟨hk.1.1.2, ⟨hk.1.2, hk.2⟩⟩))); (case aS => exact (bZ (by repeat (first | (with_reducible first | exact HB.out | apply bA | apply bN | apply b1 | refine bS ?_ GE137.out) | exact HB.out)))); (case aL => have := LMc29.out; omega); intro v157 w47 ho hb hg hat; rw [← Ny156.out] at ho; have n0_ := zK (blk_grown (g := gb137) (o := .cells #[.int .i64 a1_0, .int .i64 a1_1, .int .i64 a1_2, .int .i64 a1_3, .int .i64 t139] 138 (0, 0)) (by (with_reducible repeat (first | refine kN ?_ _ | refine kD ?_ | refine kA ?_ _)); exact BK137.out) hg (Kd.R_away HO155.out (fun _ hk => hk.2))); have n1_ := zK (Kd.R_after (ok := (fun k_ => some k_ ≠ (.slice Ao43 y149.length co43 : Value).ownBlock ∧ k_ ≠ gb137)) (by (with_reducible repeat (first | apply Kd.RA | apply Kd.RN | apply Kd.RD)); exact Kd.R_mono HO148.out (fun _ hk => ⟨⟨hk.1.2, hk.1.1⟩, hk.2⟩)) hg hat); have n2_ := zK (Kd.R_after (ok := (fun k_ => some k_ ≠ (.slice Ao42 y146.length co42 : Value).ownBlock ∧ k_ ≠ gb137)) (by (with_reducible repeat (first | apply Kd.RA | apply Kd.RN | apply Kd.RD)); exact HO151.out) hg hat); have n3_ := zK (hb); have n4_ := zK (ho); clear BK137; clear HO148; clear HO151; clear HB; clear HO155; have BK137 := n0_; have HO148 := n1_; have HO151 := n2_; have HB := n3_; have HO158 := n4_; clear n0_ n1_ n2_ n3_ n4_; clear ho hb hg hat))
   go_ret2
   exact ⟨_, by first | rfl | (simp [errW_none, errW_some] <;> rfl) | (simp [*, errW_none, errW_some] <;> rfl), by (with_reducible repeat (first | apply Kd.RA | apply Kd.RN | apply Kd.RD)); exact Kd.R_mono HO158.out (fun _ hk => trivial), by repeat (first | (with_reducible first | exact HB.out | apply bA | apply bN | apply b1 | refine bS ?_ GE137.out) | exact HB.out)⟩
/-! ### spec_l1Int: function 145 -/
def spec_l1Int.f (s0_0 : List Int) (s0_1 : Int) (s0_2 : Int) (l1 : List Int) : Option (Int × Int × Int) := (spec_l1Below.f s0_0 s0_1 s0_2 (l1.length : Int)).bind fun bt159 => (if 0 ≤ bt159.1 then (if bt159.1 < (l1.length : Int) then (some (rd l1 bt159.1, bt159.2.1, bt159.2.2)) else (none)) else (none))
set_option maxHeartbeats 8000000 in
set_option maxRecDepth 100000 in
theorem spec_l1Int.calls (g : Nat) (s0_0 : List Int) (s0_1 : Int) (s0_2 : Int) (A1 : Option Addr) (c1 : Nat) (l1 : List Int) (r1 : Int) (r2 : Int) (r3 : Int) (w0 w : World) (hI : IsS173 w0 w g s0_0 s0_1 s0_2) (hB : Below w0.heap.size w0 w) (hr1 : Kd.C (Kd.int .i64) w A1 l1.length l1) (hc1 : l1.length ≤ c1) (hf1 : ∀ ad, A1 = some ad → 0 < l1.length → ad.block ≠ g) (h : spec_l1Int.f s0_0 s0_1 s0_2 l1 = some (r1, r2, r3)) :
  Calls Try.prog 145 #[.pointer (some ⟨g, 0, none⟩), .slice A1 l1.length c1] w fun e w' => e = .returned (.int .i64 r1) ∧ IsS173 w0 w' g s0_0 r2 r3 ∧ Below w0.heap.size w0 w' ∧ KeepBut w w' g none := by
 have HR1 := zK hr1
 have HC1 := zK hc1
 clear hr1 hc1
 have HI0 := zK hI
 have HK := zK (KeepBut.refl w g none)
 have HL := zK hB.size
 clear hI
 have HW0 := zK hB.size
 have HB := zK hB
 clear hB
 have H : ((spec_l1Below.f s0_0 s0_1 s0_2 (l1.length : Int)).bind fun bt159 => (if 0 ≤ bt159.1 then (if bt159.1 < (l1.length : Int) then (some (rd l1 bt159.1, bt159.2.1, bt159.2.2)) else (none)) else (none))) = some (r1, r2, r3) := h
 clear h
 replace H := Option.bind_eq_some_iff.mp H
 obtain ⟨⟨t159, t160, t161⟩, A30, H⟩ := H
 replace H : (if 0 ≤ t159 then (if t159 < (l1.length : Int) then (some (rd l1 t159, t160, t161)) else (none)) else (none)) = some (r1, r2, r3) := H
 have A3 := zK A30
 clear A30
 by_cases c4 : 0 ≤ t159
 rotate_left
 ·rw [if_neg c4] at H
  exact absurd H (by simp)

 rw [if_pos c4] at H
 have c4b0 : decide (0 ≤ t159) = true := decide_eq_true c4
 clear c4
 by_cases c5 : t159 < (l1.length : Int)
 rotate_left
 ·rw [if_neg c5] at H
  exact absurd H (by simp)
 rw [if_pos c5] at H
 have c5b0 : decide (t159 < (l1.length : Int)) = true := decide_eq_true c5
 clear c5
 simp only [Option.some.injEq, Prod.mk.injEq] at H
 obtain ⟨rfl, rfl, rfl⟩ := H
 go_enter Try.func145, Try.ntmps145
 go_wp2_with (first | ((with_reducible refine gate_callee (f := 108) rfl ?_); refine goesL_ (some 9) rfl rfl Try.func108 (by kernel_rfl) rfl #[.pointer (some ⟨g, 0, none⟩), .int .i64 (l1.length : Int)] rfl (by (try simp only [List.map_toArray, List.map_cons, List.map_nil]); first | done | rfl | (simp only [List.length_drop, List.length_take]; rfl)) ?_; (with_reducible refine (spec_l1Below.calls g s0_0 s0_1 s0_2 (l1.length : Int) t159 t160 t161 w0 _ ?side1 ?side2 A3.out).mono ?_); (case side1 => repeat (first | (with_reducible first | exact HI0.out | apply IsS173.alloc | apply IsS173.drewN | apply IsS173.drew | apply IsS173.set_1 | apply IsS173.set_2) | exact HI0.out)); (case side2 => repeat (first | (with_reducible first | exact HB.out | apply bA | apply bN | apply b1 | refine bS ?_ (IsS173.ge HI0.out)) | exact HB.out)); rintro e w6 ⟨rfl, hi, hb, hk⟩; refine ⟨_, rfl, ?_⟩; have n0_ := zK (KeepBut.trans (by repeat (first | (with_reducible first | exact HK.out | apply KeepBut.set_ | apply keep_drewN | apply keep_drew | apply keep_alloc) | exact HK.out)) hk (.inl rfl)); have n1_ := zK (hb); have n2_ := zK (hi); clear HK; clear HB; clear HI0; have HK := n0_; have HB := n1_; have HI0 := n2_; clear n0_ n1_ n2_; (try clear hb); (try clear hb2); (try clear hk); (try clear hi); have p162 : 0 ≤ (t159 : Int) := oD (by first | (with_reducible assumption) | assumption); have q162 : t159 < (l1.length : Int) := oD (by first | (with_reducible assumption) | assumption); obtain ⟨ad162, e162, hx162_0⟩ := Kd.at_int HR1.out t159 p162 q162; cases e162; replace hx162_0 := keep_cell HK.out hx162_0 (by first | (rw [add_block]; exact hf1 _ rfl (by omega)) | exact hf1 _ rfl (by omega) | exact hf1 ad162 rfl (by omega)); replace p162 := eq_true p162; replace q162 := eq_true q162))
 go_ret
 exact ⟨by first | rfl | (simp [errW_none, errW_some] <;> rfl) | (simp [*, errW_none, errW_some] <;> rfl), by repeat (first | (with_reducible first | exact HI0.out | apply IsS173.alloc | apply IsS173.drewN | apply IsS173.drew | apply IsS173.set_1 | apply IsS173.set_2) | exact HI0.out), by repeat (first | (with_reducible first | exact HB.out | apply bA | apply bN | apply b1 | refine bS ?_ (IsS173.ge HI0.out)) | exact HB.out), by repeat (first | (with_reducible first | exact HK.out | apply KeepBut.set_ | apply keep_drewN | apply keep_drew | apply keep_alloc) | exact HK.out)⟩
end Go.Proofs.Ytejhjenlodclpaa.PFnParcels
