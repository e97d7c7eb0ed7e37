/- Walks of functions that FnExactSendAll reaches: written by a tool of the kit for this claim, then shortened by a program of ours. -/
import Derived.Test.YtejhjenlodclpaaPFnExactSendAllx0
import Derived.Test.YtejhjenlodclpaaPFnExactSendAllx9
import Derived.Test.YtejhjenlodclpaaPFnExactSendAllx10
/- narrow -/
namespace Go.Proofs.Ytejhjenlodclpaa.PFnExactSendAll
open Go.RowKit Go.Proofs.YtejhjenlodclpaaW.PrintWords Go.Proofs.YtejhjenlodclpaaW.PrintLast Go.Proofs.YtejhjenlodclpaaW.PrintMore
attribute [local go_sem] max2_int min2_int max_two min_two max_three min_three max_four min_four   -- for this text's walks alone
set_option linter.unusedVariables false
set_option linter.unusedSimpArgs false

abbrev b12A0 : Array Bool := #[bo, bo, bo, bo, bo, bo, bo]
abbrev b12A1 : Array Bool := #[bo, bi, bo, bo, bo, bo, bo]
abbrev b12A2 : Array Bool := #[bo, bi, bo, bi, bo, bo, bo]
abbrev b12A3 : Array Bool := #[bi, bi, bi, bi, bi, bo, bo]
abbrev b12A4 : Array Bool := #[bi, bi, bo, bi, bo, bo, bo]
abbrev b12A5 : Array Bool := #[bo, bi, bo, bi, bi, bo, bo]
abbrev b12A6 : Array Bool := #[bi, bi, bi, bi, bo, bo, bo]
abbrev b12A7 : Array Bool := #[bi, bi, bo, bi, bi, bo, bo]
abbrev b12A8 : Array Bool := #[bi, bi, bi, bi, bi, bi, bo]
abbrev b12A9 : Array Bool := #[bi, bi, bi, bi, bi, bi, bi]
/-! ### spec_AddHand: function 111 -/
def spec_AddHand.j0 : Nat → List (S138) → Int → Int → Int → Int → Int → Int → Option ((List (S138)) × Bool)
 | 0, _, _, _, _, _, _, _ => none
 | k + 1, x0, x6, x320000, x320001, x320002, x320003, x320004 => (spec_HandSeal.f k x6 x320000 x320001 x320002 x320003 x320004).bind fun t321 => ((some (([] : List (S138)) : List (S138))).bind fun y322 => (if y322.length + x0.length < 3518437208883 then ((some (y322 ++ x0 : List (S138))).bind fun y325 => ((some (([(⟨x320000, x320001, x320002, x320003, t321⟩ : S138)] : List (S138)) : List (S138))).bind fun y328 => (if y325.length + y328.length < 3518437208883 then ((some (y325 ++ y328 : List (S138))).bind fun y331 => ((spec_IsChain.f k y331).bind fun t334 => (if t334 = true then (some (y331, true)) else ((some (([] : List (S138)) : List (S138))).bind fun y335 => (if y335.length + x0.length < 3518437208883 then (some ((y335 ++ x0), false)) else (none)))))) else (none)))) else (none)))
def spec_AddHand.f (k : Nat) (l0 : List (S138)) (a1_0 : Int) (a1_1 : Int) (a1_2 : Int) (a1_3 : Int) (a1_4 : Int) : Option ((List (S138)) × Bool) := if (l0.length : Int) > 0 then (if 0 ≤ (wrap64 ((l0.length : Int) - 1)) then (if (wrap64 ((l0.length : Int) - 1)) < (l0.length : Int) then (spec_AddHand.j0 k l0 ((rd_T138 l0 (wrap64 ((l0.length : Int) - 1))).f4) a1_0 a1_1 a1_2 a1_3 a1_4) else (none)) else (none)) else (spec_AddHand.j0 k l0 0 a1_0 a1_1 a1_2 a1_3 a1_4)
set_option maxHeartbeats 8000000 in
set_option maxRecDepth 100000 in
theorem spec_AddHand.calls (k : Nat) (A0 : Option Addr) (c0 : Nat) (l0 : List (S138)) (a1_0 : Int) (a1_1 : Int) (a1_2 : Int) (a1_3 : Int) (a1_4 : Int) (r1 : List (S138)) (r2 : Bool) (w : World) (hr0 : Kd.C k138 w A0 l0.length l0) (hc0 : l0.length ≤ c0) (h : spec_AddHand.f k l0 a1_0 a1_1 a1_2 a1_3 a1_4 = some (r1, r2)) :
  Calls Try.prog 111 #[.slice A0 l0.length c0, .agg #[.int .i64 a1_0, .int .i64 a1_1, .int .i64 a1_2, .int .i64 a1_3, .int .i64 a1_4]] w fun e w' => ∃ v0_ : Value, e = .returned (.tuple #[v0_, .bool r2]) ∧ Kd.R k138 138 w' w.heap.size (fun _ => True) v0_ r1 ∧ Below w.heap.size w w' := by
 have hu138 := Try.underlying138
 have HR0 := zK hr0
 have HC0 := zK hc0
 clear hr0 hc0
 have HB := zK (Below.refl w.heap.size w)
 have H : (if (l0.length : Int) > 0 then (if 0 ≤ (wrap64 ((l0.length : Int) - 1)) then (if (wrap64 ((l0.length : Int) - 1)) < (l0.length : Int) then (spec_AddHand.j0 k l0 ((rd_T138 l0 (wrap64 ((l0.length : Int) - 1))).f4) a1_0 a1_1 a1_2 a1_3 a1_4) else (none)) else (none)) else (spec_AddHand.j0 k l0 0 a1_0 a1_1 a1_2 a1_3 a1_4)) = some (r1, r2) := h
 clear h
 have HC3 := zK H
 clear H
 go_enter Try.func111, Try.ntmps111
 go_upto_if 10 with (first | ((with_reducible refine gate_dst (N := 3) rfl ?_); refine box_event ?hg (N := 3) ?hd (cs := #[.int .i64 a1_0, .int .i64 a1_1, .int .i64 a1_2, .int .i64 a1_3, .int .i64 a1_4]) (t := 138) ?hr ?_; (case hd => rfl); (case hg => rfl); (case hr => first | (go_simp; done) | (go_simp; rfl)); intro gb319 hg w4 hbox hb; have n0_ := zK (bT (qB HB.out) hb); have n1_ := zK (hbox); have n2_ := zK ((by rw [hg]; exact (bZ (qB HB.out)) : w.heap.size ≤ gb319)); have n3_ := zK ((by rw [hg]; exact (bZ (qB HB.out)) : w.heap.size ≤ gb319)); clear HB; have HB := n0_; have BK319 := n1_; have GW319 := n2_; have GE319 := n3_; clear n0_ n1_ n2_ n3_; clear hb hbox hg))
 (try simp only [Act.put, sA, sZ, sS])
 go_cut [6] (fun v6 wc => ∃ (kq : Nat) (x6_2 : Int), v6 = .int .i64 x6_2 ∧ Aside0 (spec_AddHand.j0 kq l0 x6_2 a1_0 a1_1 a1_2 a1_3 a1_4 = some (r1, r2)) ∧ Aside0 (kq ≤ k) ∧ Aside0 (wc.heap[gb319]? = some (.cells #[.int .i64 a1_0, .int .i64 a1_1, .int .i64 a1_2, .int .i64 a1_3, .int .i64 a1_4] 138 (0, 0))) ∧ Aside0 (Below w.heap.size w wc))
 case first =>
  have H := HC3.out
  clear HC3
  by_cases c5 : (l0.length : Int) > 0
  rotate_left
  ·rw [if_neg c5] at H
   have c5b0 : decide (0 < (l0.length : Int)) = false := decide_eq_false c5
   have c5b1 : decide (0 < l0.length) = false := decide_eq_false (by omega)
   clear c5
   (first | rw [c5b0] | rw [c5b1] | (simp only [i64_w, i32_w]; rw [c5b0]) | skip)
   have H' := zK H
   clear H
   go_wp2
   go_meet
   case rel => exact ⟨_, (0), M3, H', ⟨by first | omega | exact Nat.le_refl _⟩, ⟨by exact qK BK319.out⟩, ⟨by repeat (first | (with_reducible first | exact HB.out | apply bA | apply bN | apply b1 | refine bS ?_ GE319.out) | exact HB.out)⟩⟩
  rw [if_pos c5] at H
  have c5b0 : decide (0 < (l0.length : Int)) = true := decide_eq_true c5
  have c5b1 : decide (0 < l0.length) = true := decide_eq_true (by omega)
  clear c5
  (first | rw [c5b0] | rw [c5b1] | (simp only [i64_w, i32_w]; rw [c5b0]) | skip)
  obtain ⟨ji6, hji6⟩ : ∃ j_ : Int, (wrap64 ((l0.length : Int) - 1)) = j_ := ⟨_, rfl⟩
  replace H : (if 0 ≤ (ji6) then (if (ji6) < (l0.length : Int) then (spec_AddHand.j0 k l0 ((rd_T138 l0 (ji6)).f4) a1_0 a1_1 a1_2 a1_3 a1_4) else (none)) else (none)) = some (r1, r2) := by first | (rw [hji6] at H; exact H) | (simp only [hji6] at H ⊢; exact H)
  have hji6w : (IntKind.i64.wrap ((l0.length : Int) - 1)) = ji6 := (i64_w _).trans hji6
  by_cases c7 : 0 ≤ (ji6)
  rotate_left
  ·rw [if_neg c7] at H
   exact absurd H (by simp)
  rw [if_pos c7] at H
  have c7b0 : decide (0 ≤ (ji6)) = true := decide_eq_true c7
  clear c7
  by_cases c8 : (ji6) < (l0.length : Int)
  rotate_left
  ·rw [if_neg c8] at H
   exact absurd H (by simp)
  rw [if_pos c8] at H
  have c8b0 : decide ((ji6) < (l0.length : Int)) = true := decide_eq_true c8
  clear c8
  have H' := zK H
  clear H
  have p320 : 0 ≤ ((ji6) : Int) := oD M1
  have q320 : (ji6) < (l0.length : Int) := oD M1
  obtain ⟨ad320, e320, hx320_0, hx320_1, hx320_2, hx320_3, hx320_4⟩ := at_T138 HR0.out (ji6) p320 q320
  cases e320
  replace hx320_0 := (HB.out.cell (bL w hx320_0)).trans hx320_0
  replace hx320_1 := (HB.out.cell (bL w hx320_1)).trans hx320_1
  replace hx320_2 := (HB.out.cell (bL w hx320_2)).trans hx320_2
  replace hx320_3 := (HB.out.cell (bL w hx320_3)).trans hx320_3
  replace hx320_4 := (HB.out.cell (bL w hx320_4)).trans hx320_4
  replace p320 := eq_true p320
  replace q320 := eq_true q320
  go_wp2
  go_meet
  case rel => exact ⟨_, ((rd_T138 l0 (ji6)).f4), (by first | rfl | (simp; done) | (simp only [← hji6] <;> (first | rfl | simp)) | (simp [*]; done)), H', ⟨by first | omega | exact Nat.le_refl _⟩, ⟨by exact qK BK319.out⟩, ⟨by repeat (first | (with_reducible first | exact HB.out | apply bA | apply bN | apply b1 | refine bS ?_ GE319.out) | exact HB.out)⟩⟩
 case rest =>
  clear HC3
  try clear c1
  try clear p2
  try clear p3
  try clear q3
  try clear hx3
  try clear c5
  try clear c5b0
  try clear c5b1
  try clear p6
  try clear c7
  try clear c7b0
  try clear c8
  try clear c8b0
  try clear hx320_0
  try clear hx320_1
  try clear hx320_2
  try clear hx320_3
  try clear hx320_4
  try clear p320
  try clear q320
  obtain ⟨kq, x6_2, rfl, HA, HJ2, BK319, HB⟩ := hcut
  cases kq with
  | zero => exact absurd HA.out (by simp [spec_AddHand.j0])
  | succ kj2 =>
   have H := HA.out
   clear HA
   simp only [spec_AddHand.j0] at H
   replace H := Option.bind_eq_some_iff.mp H
   obtain ⟨t321, A90, H⟩ := H
   replace H : ((some (([] : List (S138)) : List (S138))).bind fun y322 => (if y322.length + l0.length < 3518437208883 then ((some (y322 ++ l0 : List (S138))).bind fun y325 => ((some (([(⟨a1_0, a1_1, a1_2, a1_3, t321⟩ : S138)] : List (S138)) : List (S138))).bind fun y328 => (if y325.length + y328.length < 3518437208883 then ((some (y325 ++ y328 : List (S138))).bind fun y331 => ((spec_IsChain.f kj2 y331).bind fun t334 => (if t334 = true then (some (y331, true)) else ((some (([] : List (S138)) : List (S138))).bind fun y335 => (if y335.length + l0.length < 3518437208883 then (some ((y335 ++ l0), false)) else (none)))))) else (none)))) else (none))) = some (r1, r2) := H
   have A9 := zK A90
   clear A90
   obtain ⟨y322, hy322⟩ : ∃ y_ : List (S138), y_ = (([] : List (S138))) := ⟨_, rfl⟩
   replace H : (if y322.length + l0.length < 3518437208883 then ((some (y322 ++ l0 : List (S138))).bind fun y325 => ((some (([(⟨a1_0, a1_1, a1_2, a1_3, t321⟩ : S138)] : List (S138)) : List (S138))).bind fun y328 => (if y325.length + y328.length < 3518437208883 then ((some (y325 ++ y328 : List (S138))).bind fun y331 => ((spec_IsChain.f kj2 y331).bind fun t334 => (if t334 = true then (some (y331, true)) else ((some (([] : List (S138)) : List (S138))).bind fun y335 => (if y335.length + l0.length < 3518437208883 then (some ((y335 ++ l0), false)) else (none)))))) else (none)))) else (none)) = some (r1, r2) := by first | (rw [hy322]; with_reducible exact H) | (have H2_ := (Option.bind_some _ _).symm.trans H; rw [hy322]; with_reducible exact H2_) | (have H2_ := (Option.bind_some _ _).symm.trans H; with_reducible exact H2_) | with_reducible exact H | (rw [hy322]; exact H) | exact H
   have Ny322 := zK hy322
   clear hy322
   by_cases c10 : y322.length + l0.length < 3518437208883
   rotate_left
   ·rw [if_neg c10] at H
    exact absurd H (by simp)

   rw [if_pos c10] at H
   have LMc10 := zK c10
   clear c10
   obtain ⟨y325, hy325⟩ : ∃ y_ : List (S138), y_ = (y322 ++ l0) := ⟨_, rfl⟩
   replace H : ((some (([(⟨a1_0, a1_1, a1_2, a1_3, t321⟩ : S138)] : List (S138)) : List (S138))).bind fun y328 => (if y325.length + y328.length < 3518437208883 then ((some (y325 ++ y328 : List (S138))).bind fun y331 => ((spec_IsChain.f kj2 y331).bind fun t334 => (if t334 = true then (some (y331, true)) else ((some (([] : List (S138)) : List (S138))).bind fun y335 => (if y335.length + l0.length < 3518437208883 then (some ((y335 ++ l0), false)) else (none)))))) else (none))) = some (r1, r2) := by first | (rw [hy325]; with_reducible exact H) | (have H2_ := (Option.bind_some _ _).symm.trans H; rw [hy325]; with_reducible exact H2_) | (have H2_ := (Option.bind_some _ _).symm.trans H; with_reducible exact H2_) | with_reducible exact H | (rw [hy325]; exact H) | exact H
   have Ny325 := zK hy325
   clear hy325
   obtain ⟨y328, hy328⟩ : ∃ y_ : List (S138), y_ = (([(⟨a1_0, a1_1, a1_2, a1_3, t321⟩ : S138)] : List (S138))) := ⟨_, rfl⟩
   replace H : (if y325.length + y328.length < 3518437208883 then ((some (y325 ++ y328 : List (S138))).bind fun y331 => ((spec_IsChain.f kj2 y331).bind fun t334 => (if t334 = true then (some (y331, true)) else ((some (([] : List (S138)) : List (S138))).bind fun y335 => (if y335.length + l0.length < 3518437208883 then (some ((y335 ++ l0), false)) else (none)))))) else (none)) = some (r1, r2) := by first | (rw [hy328]; with_reducible exact H) | (have H2_ := (Option.bind_some _ _).symm.trans H; rw [hy328]; with_reducible exact H2_) | (have H2_ := (Option.bind_some _ _).symm.trans H; with_reducible exact H2_) | with_reducible exact H | (rw [hy328]; exact H) | exact H
   have Ny328 := zK hy328
   clear hy328
   by_cases c11 : y325.length + y328.length < 3518437208883
   rotate_left
   ·rw [if_neg c11] at H
    exact absurd H (by simp)
   rw [if_pos c11] at H
   have LMc11 := zK c11
   clear c11
   obtain ⟨y331, hy331⟩ : ∃ y_ : List (S138), y_ = (y325 ++ y328) := ⟨_, rfl⟩
   replace H : ((spec_IsChain.f kj2 y331).bind fun t334 => (if t334 = true then (some (y331, true)) else ((some (([] : List (S138)) : List (S138))).bind fun y335 => (if y335.length + l0.length < 3518437208883 then (some ((y335 ++ l0), false)) else (none))))) = some (r1, r2) := by first | (rw [hy331]; with_reducible exact H) | (have H2_ := (Option.bind_some _ _).symm.trans H; rw [hy331]; with_reducible exact H2_) | (have H2_ := (Option.bind_some _ _).symm.trans H; with_reducible exact H2_) | with_reducible exact H | (rw [hy331]; exact H) | exact H
   have Ny331 := zK hy331
   clear hy331
   replace H := Option.bind_eq_some_iff.mp H
   obtain ⟨t334, A120, H⟩ := H
   replace H : (if t334 = true then (some (y331, true)) else ((some (([] : List (S138)) : List (S138))).bind fun y335 => (if y335.length + l0.length < 3518437208883 then (some ((y335 ++ l0), false)) else (none)))) = some (r1, r2) := H
   have A12 := zK A120
   clear A120
   by_cases c13 : t334 = true
   ·subst c13
    have H1 : (some (y331, true)) = some (r1, r2) := by rw [if_pos rfl] at H; exact H
    clear H
    have H := H1
    clear H1
    simp only [Option.some.injEq, Prod.mk.injEq] at H
    obtain ⟨rfl, rfl⟩ := H
    have hcz14_0 : wc.cell? ⟨gb319, 0, none⟩ = some (.int .i64 a1_0) := (bc BK319.out 0).trans rfl
    have hcz14_1 : wc.cell? ⟨gb319, 1, none⟩ = some (.int .i64 a1_1) := (bc BK319.out 1).trans rfl
    have hcz14_2 : wc.cell? ⟨gb319, 2, none⟩ = some (.int .i64 a1_2) := (bc BK319.out 2).trans rfl
    have hcz14_3 : wc.cell? ⟨gb319, 3, none⟩ = some (.int .i64 a1_3) := (bc BK319.out 3).trans rfl
    have hcz14_4 : wc.cell? ⟨gb319, 4, none⟩ = some (.int .i64 a1_4) := (bc BK319.out 4).trans rfl
    have hfz14_0 := bf BK319.out 0
    have hfz14_1 := bf BK319.out 1
    have hfz14_2 := bf BK319.out 2
    have hfz14_3 := bf BK319.out 3
    have hfz14_4 := bf BK319.out 4
    try go_wp2_with (first | ((with_reducible refine gate_callee (f := 154) rfl ?_); refine goesL_ (some 20) rfl rfl Try.func154 (by kernel_rfl) rfl #[.int .i64 x6_2, .agg #[.int .i64 a1_0, .int .i64 a1_1, .int .i64 a1_2, .int .i64 a1_3, .int .i64 a1_4]] rfl M0 ?_; (with_reducible refine (spec_HandSeal.calls kj2 x6_2 a1_0 a1_1 a1_2 a1_3 a1_4 t321 _ A9.out).mono ?_); rintro e w15 ⟨rfl, hb⟩; refine ⟨_, rfl, ?_⟩; have n0_ := zK (bB (g := gb319) (o := .cells #[.int .i64 a1_0, .int .i64 a1_1, .int .i64 a1_2, .int .i64 a1_3, .int .i64 a1_4] 138 (0, 0)) (qK BK319.out) hb); have n1_ := zK (bT M2 hb); clear BK319 HB; have BK319 := n0_; have HB := n1_; clear n0_ n1_; (try clear hb); (try clear hb2); (try clear hk); (try clear hi); have hcz16_0 : w15.cell? ⟨gb319, 0, none⟩ = some (.int .i64 a1_0) := (bc BK319.out 0).trans rfl; have hcz16_1 : w15.cell? ⟨gb319, 1, none⟩ = some (.int .i64 a1_1) := (bc BK319.out 1).trans rfl; have hcz16_2 : w15.cell? ⟨gb319, 2, none⟩ = some (.int .i64 a1_2) := (bc BK319.out 2).trans rfl; have hcz16_3 : w15.cell? ⟨gb319, 3, none⟩ = some (.int .i64 a1_3) := (bc BK319.out 3).trans rfl; have hcz16_4 : w15.cell? ⟨gb319, 4, none⟩ = some (.int .i64 a1_4) := (bc BK319.out 4).trans rfl; have hfz16_0 := bf BK319.out 0; have hfz16_1 := bf BK319.out 1; have hfz16_2 := bf BK319.out 2; have hfz16_3 := bf BK319.out 3; have hfz16_4 := bf BK319.out 4))
    have n0_ : Aside0 ((w15.setCell ⟨gb319, 4, none⟩ (.int .i64 t321)).heap[gb319]? = some (.cells #[.int .i64 a1_0, .int .i64 a1_1, .int .i64 a1_2, .int .i64 a1_3, .int .i64 t321] 138 (0, 0))) := ⟨by (with_reducible repeat (first | refine kN ?_ _ | refine kD ?_ | refine kA ?_ _)); refine blk_put (cs := #[.int .i64 a1_0, .int .i64 a1_1, .int .i64 a1_2, .int .i64 a1_3, .int .i64 a1_4]) ?_ 4 _ rfl; exact qK BK319.out⟩
    have n1_ : Aside0 (Below w.heap.size w (w15.setCell ⟨gb319, 4, none⟩ (.int .i64 t321))) := ⟨by repeat (first | (with_reducible first | exact HB.out | apply bA | apply bN | apply b1 | refine bS ?_ GE319.out) | exact HB.out)⟩
    (try clear BK319)
    (try clear HB)
    generalize (w15.setCell ⟨gb319, 4, none⟩ (.int .i64 t321)) = w17 at n0_ n1_ ⊢
    have BK319 := n0_
    have HB := n1_
    clear n0_ n1_
    have n0_ := zK (kD BK319.out)
    have n1_ := zK (b1 HB.out)
    clear BK319
    clear HB
    have BK319 := n0_
    have HB := n1_
    clear n0_ n1_
    refine start_ (n := 7) (S := fun w' => w'.cell? ⟨gb319, 0, none⟩ = some (.int .i64 a1_0) ∧ w'.cell? ⟨gb319, 1, none⟩ = some (.int .i64 a1_1) ∧ w'.cell? ⟨gb319, 2, none⟩ = some (.int .i64 a1_2) ∧ w'.cell? ⟨gb319, 3, none⟩ = some (.int .i64 a1_3) ∧ w'.cell? ⟨gb319, 4, none⟩ = some (.int .i64 t321)) (ds := []) b12A0 (by kernel_rfl) rfl rfl ⟨(bc BK319.out 0).trans rfl, (bc BK319.out 1).trans rfl, (bc BK319.out 2).trans rfl, (bc BK319.out 3).trans rfl, (bc BK319.out 4).trans rfl⟩ (fun hHeld => ?_)
    generalize w17.drew = w18 at BK319 HB hHeld ⊢
    refine pure_ (i := 1) (N := some 23) (v := ?_) (a' := ?_) b12A1 rfl rfl (by kernel_rfl) (fun _ _ _ h => h) (Or.inl ⟨by rfl, ?_⟩) ?_ ?_
    rotate_left
    ·intro w'
     go_simp
     with_reducible rfl
    rotate_left
    ·simp only [Act.put, sA, sZ, sS, i64_w, i32_w]
     rfl
    refine take_ (i := 3) (N := some 25) (v := ?_) (a' := ?_) b12A2 rfl rfl (by kernel_rfl) (fun _ _ _ h => h) (Or.inl ⟨by rfl, ?_⟩) hHeld ?_ ?_
    rotate_left
    ·rintro w' ⟨s0, s1, s2, s3, s4⟩
     go_simp
     with_reducible rfl
    rotate_left
    ·simp only [Act.put, sA, sZ, sS, i64_w, i32_w]
     rfl
    refine join_ (σ := Value × Value × Value) 2 b12A3 (fun s_ => [(22, s_.1), (24, s_.2.1), (26, s_.2.2)]) (fun s_ w' => (w'.cell? ⟨gb319, 0, none⟩ = some (.int .i64 a1_0) ∧ w'.cell? ⟨gb319, 1, none⟩ = some (.int .i64 a1_1) ∧ w'.cell? ⟨gb319, 2, none⟩ = some (.int .i64 a1_2) ∧ w'.cell? ⟨gb319, 3, none⟩ = some (.int .i64 a1_3) ∧ w'.cell? ⟨gb319, 4, none⟩ = some (.int .i64 t321)) ∧ (Kd.R k138 138 w' w.heap.size (fun k_ => some k_ ≠ (s_.2.2 : Value).ownBlock ∧ k_ ≠ gb319) s_.2.1 y325) ∧ (Kd.R k138 138 w' w.heap.size (fun k_ => some k_ ≠ (s_.2.1 : Value).ownBlock ∧ k_ ≠ gb319) s_.2.2 y328) ∧ (w'.heap[gb319]? = some (.cells #[.int .i64 a1_0, .int .i64 a1_1, .int .i64 a1_2, .int .i64 a1_3, .int .i64 t321] 138 (0, 0))) ∧ (Below w.heap.size w w')) ?_ ?_
    rotate_left
    ·intro hCont
     refine two_ (i := 0) (j := 4) (Ni := some 22) (Nj := some 26) b12A4 b12A5 rfl rfl rfl rfl (by kernel_rfl) (by decide) (by decide) (fun K hK => ?_) (fun K hK => ?_)
     rotate_left
     ·skip
      refine Kd.R_lit_step k138 _ 138 ?hg (N := 26) ?hd (xs := ([(⟨a1_0, a1_1, a1_2, a1_3, t321⟩ : S138)] : List (S138))) (inner := [.int .i64 a1_0, .int .i64 a1_1, .int .i64 a1_2, .int .i64 a1_3, .int .i64 t321]) (ok := fun _ => True) (okp := fun _ => True) ?hr ?hp (fun _ hk => hk) trivial (Below.refl _ _) (Nat.le_refl _) (by simp) ?_; (case hd => rfl); (case hg => rfl); (case hr => first | (go_simp; done) | (go_simp; rfl)); (case hp => exact (Reps.c5 (show Kd.M k138 _ _ _ (⟨a1_0, a1_1, a1_2, a1_3, t321⟩ : S138) [.int .i64 a1_0, .int .i64 a1_1, .int .i64 a1_2, .int .i64 a1_3, .int .i64 t321] from (k138_mkM _ _ _ (⟨a1_0, a1_1, a1_2, a1_3, t321⟩ : S138) )) (Reps.none _ _)))
      intro v329 w19 ho20 hb hg_ hnew_
      clear hg_ hnew_
      (first | rw [← Ny328.out] at ho20 | (simp only [Int.reduceToNat] at ho20; rw [← Ny328.out] at ho20))
      have n0_ := zK (Kd.R_lower (Kd.R_newB ho20 (g := gb319) (o := .cells #[.int .i64 a1_0, .int .i64 a1_1, .int .i64 a1_2, .int .i64 a1_3, .int .i64 t321] 138 (0, 0)) (qK BK319.out)) (bZ M2))
      have n1_ := zK (bB (g := gb319) (o := .cells #[.int .i64 a1_0, .int .i64 a1_1, .int .i64 a1_2, .int .i64 a1_3, .int .i64 t321] 138 (0, 0)) (qK BK319.out) hb)
      have n2_ := zK (bT M2 hb)
      clear BK319
      clear HB
      have HO330 := n0_
      have BK319 := n1_
      have HB := n2_
      clear n0_ n1_ n2_
      clear hb ho20
      refine hK.out _ _ ⟨(bc BK319.out 0).trans rfl, (bc BK319.out 1).trans rfl, (bc BK319.out 2).trans rfl, (bc BK319.out 3).trans rfl, (bc BK319.out 4).trans rfl⟩ (fun hHeld => ?_)
      clear hK K
      refine norm_ (a' := ?_) ?_ ?_
      rotate_left
      ·show Act.put _ (some 26) _ = _
       simp only [Act.put, sA, sZ, sS, i64_w, i32_w]
       rfl
      refine one_ (i := 0) (N := some 22) b12A7 rfl rfl (by kernel_rfl) (by decide) (fun K hK => ?_)
      refine Kd.R_lit_step k138 _ 138 ?hg (N := 22) ?hd (xs := ([] : List (S138))) (inner := []) (ok := fun _ => True) (okp := fun _ => True) ?hr ?hp (fun _ hk => hk) trivial (Below.refl _ _) (Nat.le_refl _) (by simp) ?_; (case hd => rfl); (case hg => rfl); (case hr => first | (go_simp; done) | (go_simp; rfl)); (case hp => exact (Reps.none _ _))
      intro v323 w21 ho22 hb hg_ hnew_
      clear hg_ hnew_
      (first | rw [← Ny322.out] at ho22 | (simp only [Int.reduceToNat] at ho22; rw [← Ny322.out] at ho22))
      have n0_ := zK (Kd.R_elder' (Kd.qR HO330.out) (Kd.R_base ho22) hb)
      have n1_ := zK (Kd.R_lower (Kd.R_newB (Kd.R_new' ho22 (Kd.R_lt (Kd.qR HO330.out))) (g := gb319) (o := .cells #[.int .i64 a1_0, .int .i64 a1_1, .int .i64 a1_2, .int .i64 a1_3, .int .i64 t321] 138 (0, 0)) (qK BK319.out)) (bZ M2))
      have n2_ := zK (bB (g := gb319) (o := .cells #[.int .i64 a1_0, .int .i64 a1_1, .int .i64 a1_2, .int .i64 a1_3, .int .i64 t321] 138 (0, 0)) (qK BK319.out) hb)
      have n3_ := zK (bT M2 hb)
      clear HO330
      clear BK319
      clear HB
      have HO330 := n0_
      have HO324 := n1_
      have BK319 := n2_
      have HB := n3_
      clear n0_ n1_ n2_ n3_
      clear hb ho22
      refine hK.out _ _ ⟨(bc BK319.out 0).trans rfl, (bc BK319.out 1).trans rfl, (bc BK319.out 2).trans rfl, (bc BK319.out 3).trans rfl, (bc BK319.out 4).trans rfl⟩ (fun hHeld => ?_)
      clear hK K
      refine norm_ (a' := ?_) ?_ ?_
      rotate_left
      ·show Act.put _ (some 22) _ = _
       simp only [Act.put, sA, sZ, sS, i64_w, i32_w]
       rfl
      refine one_ (i := 2) (N := some 24) b12A3 rfl rfl (by kernel_rfl) (by decide) (fun K hK => ?_)
      refine Kd.R_append_rows_step k138 (w0 := w) w.heap.size (by rfl) (.tmp 22) (.tmp 23) 51 138 (.agg #[(.int .i64 0), (.int .i64 0), (.int .i64 0), (.int .i64 0), (.int .i64 0)]) 40 rfl Try.underlying51 info138 rfl (by decide) (by omega) v323 y322 l0 _ _ _ (fun k_ => some k_ ≠ (v329 : Value).ownBlock ∧ k_ ≠ gb319) (fun _ => False) rfl rfl ?aO ?aR (fun _ _ h => h) (fun _ h => h.elim) ?aF ?aB ?aS ?aL ?_
      (case aR => exact Kd.qC (Kd.C_below HR0.out HB.out))
      (case aB => exact M2)
      (case aF => exact (fun k_ hk => ⟨Kd.fresh' (Kd.R_lt (Kd.qR HO330.out)) k_ hk, Kd.freshB (g := gb319) (o := .cells #[.int .i64 a1_0, .int .i64 a1_1, .int .i64 a1_2, .int .i64 a1_3, .int .i64 t321] 138 (0, 0)) (qK BK319.out) k_ hk⟩))
      (case aO => exact (by (with_reducible repeat (first | apply Kd.RA | apply Kd.RN | apply Kd.RD)); exact Kd.R_mono HO324.out (fun _ hk => ⟨hk.1.2, hk.2⟩)))
      (case aS => exact (bZ M2))
      (case aL => have := LMc10.out; omega)
      intro v326 w23 ho hb hg hat
      rw [← Ny325.out] at ho
      have n0_ := zK (blk_grown (g := gb319) (o := .cells #[.int .i64 a1_0, .int .i64 a1_1, .int .i64 a1_2, .int .i64 a1_3, .int .i64 t321] 138 (0, 0)) (qK BK319.out) hg (Kd.R_away HO324.out (fun _ hk => hk.2)))
      have n1_ := zK (Kd.R_after (ok := (fun k_ => k_ ≠ gb319)) (by (with_reducible repeat (first | apply Kd.RA | apply Kd.RN | apply Kd.RD)); exact Kd.R_mono HO330.out (fun _ hk => ⟨hk.1.2, hk.2⟩)) hg hat)
      have n2_ := zK (hb)
      have n3_ := zK (ho)
      clear BK319
      clear HO330
      clear HB
      clear HO324
      have BK319 := n0_
      have HO330 := n1_
      have HB := n2_
      have HO327 := n3_
      clear n0_ n1_ n2_ n3_
      clear ho hb hg hat
      refine hK.out _ _ ⟨(bc BK319.out 0).trans rfl, (bc BK319.out 1).trans rfl, (bc BK319.out 2).trans rfl, (bc BK319.out 3).trans rfl, (bc BK319.out 4).trans rfl⟩ (fun hHeld => ?_)
      clear hK K
      refine norm_ (a' := ?_) ?_ ?_
      rotate_left
      ·show Act.put _ (some 24) _ = _
       simp only [Act.put, sA, sZ, sS, i64_w, i32_w]
       rfl
      exact norm_ M16 (hCont (v323, v326, v329) _ ⟨hHeld, (Kd.qR HO327.out), M12, (qK BK319.out), M2⟩)
     skip
     refine Kd.R_lit_step k138 _ 138 ?hg (N := 22) ?hd (xs := ([] : List (S138))) (inner := []) (ok := fun _ => True) (okp := fun _ => True) ?hr ?hp (fun _ hk => hk) trivial (Below.refl _ _) (Nat.le_refl _) (by simp) ?_; (case hd => rfl); (case hg => rfl); (case hr => first | (go_simp; done) | (go_simp; rfl)); (case hp => exact (Reps.none _ _))
     intro v323 w19 ho20 hb hg_ hnew_
     clear hg_ hnew_
     (first | rw [← Ny322.out] at ho20 | (simp only [Int.reduceToNat] at ho20; rw [← Ny322.out] at ho20))
     have n0_ := zK (Kd.R_lower (Kd.R_newB ho20 (g := gb319) (o := .cells #[.int .i64 a1_0, .int .i64 a1_1, .int .i64 a1_2, .int .i64 a1_3, .int .i64 t321] 138 (0, 0)) (qK BK319.out)) (bZ M2))
     have n1_ := zK (bB (g := gb319) (o := .cells #[.int .i64 a1_0, .int .i64 a1_1, .int .i64 a1_2, .int .i64 a1_3, .int .i64 t321] 138 (0, 0)) (qK BK319.out) hb)
     have n2_ := zK (bT M2 hb)
     clear BK319
     clear HB
     have HO324 := n0_
     have BK319 := n1_
     have HB := n2_
     clear n0_ n1_ n2_
     clear hb ho20
     refine hK.out _ _ ⟨(bc BK319.out 0).trans rfl, (bc BK319.out 1).trans rfl, (bc BK319.out 2).trans rfl, (bc BK319.out 3).trans rfl, (bc BK319.out 4).trans rfl⟩ (fun hHeld => ?_)
     clear hK K
     refine norm_ (a' := ?_) ?_ ?_
     rotate_left
     ·show Act.put _ (some 22) _ = _
      simp only [Act.put, sA, sZ, sS, i64_w, i32_w]
      rfl
     refine two_ (i := 2) (j := 4) (Ni := some 24) (Nj := some 26) b12A6 b12A7 rfl rfl rfl rfl (by kernel_rfl) (by decide) (by decide) (fun K hK => ?_) (fun K hK => ?_)
     ·skip
      refine Kd.R_append_rows_step k138 (w0 := w) w.heap.size (by rfl) (.tmp 22) (.tmp 23) 51 138 (.agg #[(.int .i64 0), (.int .i64 0), (.int .i64 0), (.int .i64 0), (.int .i64 0)]) 40 rfl Try.underlying51 info138 rfl (by decide) (by omega) v323 y322 l0 _ _ _ (fun k_ => k_ ≠ gb319) (fun _ => False) rfl rfl ?aO ?aR (fun _ _ h => h) (fun _ h => h.elim) ?aF ?aB ?aS ?aL ?_
      (case aR => exact Kd.qC (Kd.C_below HR0.out HB.out))
      (case aB => exact M2)
      (case aF => exact (fun k_ hk => Kd.freshB (g := gb319) (o := .cells #[.int .i64 a1_0, .int .i64 a1_1, .int .i64 a1_2, .int .i64 a1_3, .int .i64 t321] 138 (0, 0)) (qK BK319.out) k_ hk))
      (case aO => exact (by (with_reducible repeat (first | apply Kd.RA | apply Kd.RN | apply Kd.RD)); exact Kd.R_mono HO324.out (fun _ hk => hk.2)))
      (case aS => exact (bZ M2))
      (case aL => have := LMc10.out; omega)
      intro v326 w21 ho hb hg hat
      rw [← Ny325.out] at ho
      have n0_ := zK (blk_grown (g := gb319) (o := .cells #[.int .i64 a1_0, .int .i64 a1_1, .int .i64 a1_2, .int .i64 a1_3, .int .i64 t321] 138 (0, 0)) (qK BK319.out) hg (Kd.R_away HO324.out (fun _ hk => hk.2)))
      have n1_ := zK (hb)
      have n2_ := zK (ho)
      clear BK319
      clear HB
      clear HO324
      have BK319 := n0_
      have HB := n1_
      have HO327 := n2_
      clear n0_ n1_ n2_
      clear ho hb hg hat
      refine hK.out _ _ ⟨(bc BK319.out 0).trans rfl, (bc BK319.out 1).trans rfl, (bc BK319.out 2).trans rfl, (bc BK319.out 3).trans rfl, (bc BK319.out 4).trans rfl⟩ (fun hHeld => ?_)
      clear hK K
      refine norm_ (a' := ?_) ?_ ?_
      rotate_left
      ·show Act.put _ (some 24) _ = _
       simp only [Act.put, sA, sZ, sS, i64_w, i32_w]
       rfl
      refine one_ (i := 4) (N := some 26) b12A3 rfl rfl (by kernel_rfl) (by decide) (fun K hK => ?_)
      refine Kd.R_lit_step k138 _ 138 ?hg (N := 26) ?hd (xs := ([(⟨a1_0, a1_1, a1_2, a1_3, t321⟩ : S138)] : List (S138))) (inner := [.int .i64 a1_0, .int .i64 a1_1, .int .i64 a1_2, .int .i64 a1_3, .int .i64 t321]) (ok := fun _ => True) (okp := fun _ => True) ?hr ?hp (fun _ hk => hk) trivial (Below.refl _ _) (Nat.le_refl _) (by simp) ?_; (case hd => rfl); (case hg => rfl); (case hr => first | (go_simp; done) | (go_simp; rfl)); (case hp => exact (Reps.c5 (show Kd.M k138 _ _ _ (⟨a1_0, a1_1, a1_2, a1_3, t321⟩ : S138) [.int .i64 a1_0, .int .i64 a1_1, .int .i64 a1_2, .int .i64 a1_3, .int .i64 t321] from (k138_mkM _ _ _ (⟨a1_0, a1_1, a1_2, a1_3, t321⟩ : S138) )) (Reps.none _ _)))
      intro v329 w22 ho23 hb hg_ hnew_
      clear hg_ hnew_
      (first | rw [← Ny328.out] at ho23 | (simp only [Int.reduceToNat] at ho23; rw [← Ny328.out] at ho23))
      have n0_ := zK (Kd.R_elder' (Kd.qR HO327.out) (Kd.R_base ho23) hb)
      have n1_ := zK (Kd.R_lower (Kd.R_newB (Kd.R_new' ho23 (Kd.R_lt (Kd.qR HO327.out))) (g := gb319) (o := .cells #[.int .i64 a1_0, .int .i64 a1_1, .int .i64 a1_2, .int .i64 a1_3, .int .i64 t321] 138 (0, 0)) (qK BK319.out)) (bZ M2))
      have n2_ := zK (bB (g := gb319) (o := .cells #[.int .i64 a1_0, .int .i64 a1_1, .int .i64 a1_2, .int .i64 a1_3, .int .i64 t321] 138 (0, 0)) (qK BK319.out) hb)
      have n3_ := zK (bT M2 hb)
      clear HO327
      clear BK319
      clear HB
      have HO327 := n0_
      have HO330 := n1_
      have BK319 := n2_
      have HB := n3_
      clear n0_ n1_ n2_ n3_
      clear hb ho23
      refine hK.out _ _ ⟨(bc BK319.out 0).trans rfl, (bc BK319.out 1).trans rfl, (bc BK319.out 2).trans rfl, (bc BK319.out 3).trans rfl, (bc BK319.out 4).trans rfl⟩ (fun hHeld => ?_)
      clear hK K
      refine norm_ (a' := ?_) ?_ ?_
      rotate_left
      ·show Act.put _ (some 26) _ = _
       simp only [Act.put, sA, sZ, sS, i64_w, i32_w]
       rfl
      exact norm_ M16 (hCont (v323, v326, v329) _ ⟨hHeld, (by (with_reducible repeat (first | apply Kd.RA | apply Kd.RN | apply Kd.RD)); exact Kd.R_mono HO327.out (fun _ hk => ⟨hk.2, hk.1⟩)), (by (with_reducible repeat (first | apply Kd.RA | apply Kd.RN | apply Kd.RD)); exact Kd.R_mono HO330.out (fun _ hk => ⟨hk.1.2, hk.2⟩)), (qK BK319.out), M2⟩)
     skip
     refine Kd.R_lit_step k138 _ 138 ?hg (N := 26) ?hd (xs := ([(⟨a1_0, a1_1, a1_2, a1_3, t321⟩ : S138)] : List (S138))) (inner := [.int .i64 a1_0, .int .i64 a1_1, .int .i64 a1_2, .int .i64 a1_3, .int .i64 t321]) (ok := fun _ => True) (okp := fun _ => True) ?hr ?hp (fun _ hk => hk) trivial (Below.refl _ _) (Nat.le_refl _) (by simp) ?_; (case hd => rfl); (case hg => rfl); (case hr => first | (go_simp; done) | (go_simp; rfl)); (case hp => exact (Reps.c5 (show Kd.M k138 _ _ _ (⟨a1_0, a1_1, a1_2, a1_3, t321⟩ : S138) [.int .i64 a1_0, .int .i64 a1_1, .int .i64 a1_2, .int .i64 a1_3, .int .i64 t321] from (k138_mkM _ _ _ (⟨a1_0, a1_1, a1_2, a1_3, t321⟩ : S138) )) (Reps.none _ _)))
     intro v329 w21 ho22 hb hg_ hnew_
     clear hg_ hnew_
     (first | rw [← Ny328.out] at ho22 | (simp only [Int.reduceToNat] at ho22; rw [← Ny328.out] at ho22))
     have n0_ := zK (Kd.R_elder' (Kd.qR HO324.out) (Kd.R_base ho22) hb)
     have n1_ := zK (Kd.R_lower (Kd.R_newB (Kd.R_new' ho22 (Kd.R_lt (Kd.qR HO324.out))) (g := gb319) (o := .cells #[.int .i64 a1_0, .int .i64 a1_1, .int .i64 a1_2, .int .i64 a1_3, .int .i64 t321] 138 (0, 0)) (qK BK319.out)) (bZ M2))
     have n2_ := zK (bB (g := gb319) (o := .cells #[.int .i64 a1_0, .int .i64 a1_1, .int .i64 a1_2, .int .i64 a1_3, .int .i64 t321] 138 (0, 0)) (qK BK319.out) hb)
     have n3_ := zK (bT M2 hb)
     clear HO324
     clear BK319
     clear HB
     have HO324 := n0_
     have HO330 := n1_
     have BK319 := n2_
     have HB := n3_
     clear n0_ n1_ n2_ n3_
     clear hb ho22
     refine hK.out _ _ ⟨(bc BK319.out 0).trans rfl, (bc BK319.out 1).trans rfl, (bc BK319.out 2).trans rfl, (bc BK319.out 3).trans rfl, (bc BK319.out 4).trans rfl⟩ (fun hHeld => ?_)
     clear hK K
     refine norm_ (a' := ?_) ?_ ?_
     rotate_left
     ·show Act.put _ (some 26) _ = _
      simp only [Act.put, sA, sZ, sS, i64_w, i32_w]
      rfl
     refine one_ (i := 2) (N := some 24) b12A3 rfl rfl (by kernel_rfl) (by decide) (fun K hK => ?_)
     refine Kd.R_append_rows_step k138 (w0 := w) w.heap.size (by rfl) (.tmp 22) (.tmp 23) 51 138 (.agg #[(.int .i64 0), (.int .i64 0), (.int .i64 0), (.int .i64 0), (.int .i64 0)]) 40 rfl Try.underlying51 info138 rfl (by decide) (by omega) v323 y322 l0 _ _ _ (fun k_ => some k_ ≠ (v329 : Value).ownBlock ∧ k_ ≠ gb319) (fun _ => False) rfl rfl ?aO ?aR (fun _ _ h => h) (fun _ h => h.elim) ?aF ?aB ?aS ?aL ?_
     (case aR => exact Kd.qC (Kd.C_below HR0.out HB.out))
     (case aB => exact M2)
     (case aF => exact (fun k_ hk => ⟨Kd.fresh' (Kd.R_lt (Kd.qR HO330.out)) k_ hk, Kd.freshB (g := gb319) (o := .cells #[.int .i64 a1_0, .int .i64 a1_1, .int .i64 a1_2, .int .i64 a1_3, .int .i64 t321] 138 (0, 0)) (qK BK319.out) k_ hk⟩))
     (case aO => exact (by (with_reducible repeat (first | apply Kd.RA | apply Kd.RN | apply Kd.RD)); exact Kd.R_mono HO324.out (fun _ hk => ⟨hk.2, hk.1.2⟩)))
     (case aS => exact (bZ M2))
     (case aL => have := LMc10.out; omega)
     intro v326 w23 ho hb hg hat
     rw [← Ny325.out] at ho
     have n0_ := zK (blk_grown (g := gb319) (o := .cells #[.int .i64 a1_0, .int .i64 a1_1, .int .i64 a1_2, .int .i64 a1_3, .int .i64 t321] 138 (0, 0)) (qK BK319.out) hg (Kd.R_away HO324.out (fun _ hk => hk.1.2)))
     have n1_ := zK (Kd.R_after (ok := (fun k_ => k_ ≠ gb319)) (by (with_reducible repeat (first | apply Kd.RA | apply Kd.RN | apply Kd.RD)); exact Kd.R_mono HO330.out (fun _ hk => ⟨hk.2, hk.1.2⟩)) hg hat)
     have n2_ := zK (hb)
     have n3_ := zK (ho)
     clear BK319
     clear HO330
     clear HB
     clear HO324
     have BK319 := n0_
     have HO330 := n1_
     have HB := n2_
     have HO327 := n3_
     clear n0_ n1_ n2_ n3_
     clear ho hb hg hat
     refine hK.out _ _ ⟨(bc BK319.out 0).trans rfl, (bc BK319.out 1).trans rfl, (bc BK319.out 2).trans rfl, (bc BK319.out 3).trans rfl, (bc BK319.out 4).trans rfl⟩ (fun hHeld => ?_)
     clear hK K
     refine norm_ (a' := ?_) ?_ ?_
     rotate_left
     ·show Act.put _ (some 24) _ = _
      simp only [Act.put, sA, sZ, sS, i64_w, i32_w]
      rfl
     exact norm_ M16 (hCont (v323, v326, v329) _ ⟨hHeld, (Kd.qR HO327.out), M12, (qK BK319.out), M2⟩)
    rintro ⟨v323, v326, v329⟩ w24 ⟨hS_, h0_, h1_, h2_, h3_⟩
    have n0_ : Aside0 (Kd.R k138 138 w24 w.heap.size (fun k_ => some k_ ≠ (v329 : Value).ownBlock ∧ k_ ≠ gb319) v326 y325) := ⟨h0_⟩
    have n1_ : Aside0 (Kd.R k138 138 w24 w.heap.size (fun k_ => some k_ ≠ (v326 : Value).ownBlock ∧ k_ ≠ gb319) v329 y328) := ⟨h1_⟩
    have n2_ : Aside0 (w24.heap[gb319]? = some (.cells #[.int .i64 a1_0, .int .i64 a1_1, .int .i64 a1_2, .int .i64 a1_3, .int .i64 t321] 138 (0, 0))) := ⟨h2_⟩
    have n3_ : Aside0 (Below w.heap.size w w24) := ⟨h3_⟩
    clear BK319
    clear HB
    clear h0_ h1_ h2_ h3_
    have HO327 := n0_
    have HO330 := n1_
    have BK319 := n2_
    have HB := n3_
    clear n0_ n1_ n2_ n3_
    have hHeld : w24.cell? ⟨gb319, 0, none⟩ = some (.int .i64 a1_0) ∧ w24.cell? ⟨gb319, 1, none⟩ = some (.int .i64 a1_1) ∧ w24.cell? ⟨gb319, 2, none⟩ = some (.int .i64 a1_2) ∧ w24.cell? ⟨gb319, 3, none⟩ = some (.int .i64 a1_3) ∧ w24.cell? ⟨gb319, 4, none⟩ = some (.int .i64 t321) := hS_
    obtain ⟨Ao26, co26, eo26⟩ := Kd.R_slice HO330.out
    (first | subst eo26 | (injection eo26 with f1_ f2_ f3_; have f4_ := f1_.symm; have f5_ := f3_.symm; clear f1_ f2_ f3_; subst f4_; subst f5_))
    refine norm_ (a' := ?_) ?_ ?_
    rotate_left
    ·simp only [putAll, Act.put, sA, sZ, sS]
     rfl
    refine one_ (i := 5) (N := some 27) b12A8 rfl rfl (by kernel_rfl) (by decide) (fun K hK => ?_)
    refine Kd.R_append_rows_step k138 (w0 := w) w.heap.size (by rfl) (.tmp 24) (.tmp 26) 51 138 (.agg #[(.int .i64 0), (.int .i64 0), (.int .i64 0), (.int .i64 0), (.int .i64 0)]) 40 rfl Try.underlying51 info138 rfl (by decide) (by omega) v326 y325 y328 _ _ _ (fun k_ => some k_ ≠ (.slice Ao26 y328.length co26 : Value).ownBlock ∧ k_ ≠ gb319) (fun _ => False) rfl rfl ?aO ?aR (fun _ _ h => h) (fun _ h => h.elim) ?aF ?aB ?aS ?aL ?_
    (case aR => exact Kd.qC (Kd.R_reads' HO330.out).2.2)
    (case aB => exact M2)
    (case aF => exact (fun k_ hk => ⟨Kd.fresh' (Kd.R_lt (Kd.qR HO330.out)) k_ hk, Kd.freshB (g := gb319) (o := .cells #[.int .i64 a1_0, .int .i64 a1_1, .int .i64 a1_2, .int .i64 a1_3, .int .i64 t321] 138 (0, 0)) (qK BK319.out) k_ hk⟩))
    (case aO => exact (Kd.qR HO327.out))
    (case aS => exact (bZ M2))
    (case aL => have := LMc11.out; omega)
    intro v332 w25 ho hb hg hat
    rw [← Ny331.out] at ho
    have n0_ := zK (blk_grown (g := gb319) (o := .cells #[.int .i64 a1_0, .int .i64 a1_1, .int .i64 a1_2, .int .i64 a1_3, .int .i64 t321] 138 (0, 0)) (qK BK319.out) hg (Kd.R_away HO327.out (fun _ hk => hk.2)))
    have n1_ := zK (Kd.R_after (ok := (fun k_ => k_ ≠ gb319)) M12 hg hat)
    have n2_ := zK (hb)
    have n3_ := zK (ho)
    clear BK319
    clear HO330
    clear HB
    clear HO327
    have BK319 := n0_
    have HO330 := n1_
    have HB := n2_
    have HO333 := n3_
    clear n0_ n1_ n2_ n3_
    clear ho hb hg hat
    refine hK.out _ _ ⟨(bc BK319.out 0).trans rfl, (bc BK319.out 1).trans rfl, (bc BK319.out 2).trans rfl, (bc BK319.out 3).trans rfl, (bc BK319.out 4).trans rfl⟩ (fun hHeld => ?_)
    clear hK K
    refine norm_ (a' := ?_) ?_ ?_
    rotate_left
    ·show Act.put _ (some 27) _ = _
     simp only [Act.put, sA, sZ, sS, i64_w, i32_w]
     rfl
    refine pure_ (i := 6) (N := some 7) (v := ?_) (a' := ?_) b12A9 rfl rfl (by kernel_rfl) (fun _ _ _ h => h) (Or.inl ⟨by rfl, ?_⟩) ?_ ?_
    rotate_left
    ·intro w'
     go_simp
     with_reducible rfl
    rotate_left
    ·simp only [Act.put, sA, sZ, sS, i64_w, i32_w]
     rfl
    refine done_ (by kernel_rfl) ?_
    obtain ⟨Ao27, co27, eo27⟩ := Kd.R_slice HO333.out
    subst eo27
    try go_wp2_with (first | ((with_reducible refine gate_callee (f := 152) rfl ?_); refine goesL_ (some 29) rfl rfl Try.func152 (by kernel_rfl) rfl #[.slice Ao27 y331.length co27] rfl M0 ?_; (with_reducible refine (spec_IsChain.calls kj2 _ _ y331 true _ ?side1 ?side2 A12.out).mono ?_); (case side1 => exact Kd.qC (Kd.R_reads' HO333.out).2.2); (case side2 => exact (Kd.R_reads' HO333.out).2.1); rintro e w28 ⟨rfl, hb⟩; refine ⟨_, rfl, ?_⟩; have n0_ := zK (Kd.R_below (Kd.qR HO330.out) hb); have n1_ := zK (Kd.R_below (Kd.qR HO333.out) hb); have n2_ := zK (bB (g := gb319) (o := .cells #[.int .i64 a1_0, .int .i64 a1_1, .int .i64 a1_2, .int .i64 a1_3, .int .i64 t321] 138 (0, 0)) (qK BK319.out) hb); have n3_ := zK (bT M2 hb); clear HO330 HO333 BK319 HB; have HO330 := n0_; have HO333 := n1_; have BK319 := n2_; have HB := n3_; clear n0_ n1_ n2_ n3_; (try clear hb); (try clear hb2); (try clear hk); (try clear hi)))
    go_ret2
    exact ⟨_, by first | rfl | (simp [errW_none, errW_some] <;> rfl) | (simp [*, errW_none, errW_some] <;> rfl), by (with_reducible repeat (first | apply Kd.RA | apply Kd.RN | apply Kd.RD)); exact Kd.R_mono HO333.out (fun _ hk => trivial), by repeat (first | (with_reducible first | exact HB.out | apply bA | apply bN | apply b1 | refine bS ?_ GE319.out) | exact HB.out)⟩
   replace c13 := Bool.eq_false_iff.mpr c13
   subst c13
   have H1 : ((some (([] : List (S138)) : List (S138))).bind fun y335 => (if y335.length + l0.length < 3518437208883 then (some ((y335 ++ l0), false)) else (none))) = some (r1, r2) := by rw [if_neg (show ¬ (false = true) by decide)] at H; exact H
   clear H
   have H := H1
   clear H1
   obtain ⟨y335, hy335⟩ : ∃ y_ : List (S138), y_ = (([] : List (S138))) := ⟨_, rfl⟩
   replace H : (if y335.length + l0.length < 3518437208883 then (some ((y335 ++ l0), false)) else (none)) = some (r1, r2) := by first | (rw [hy335]; with_reducible exact H) | (have H2_ := (Option.bind_some _ _).symm.trans H; rw [hy335]; with_reducible exact H2_) | (have H2_ := (Option.bind_some _ _).symm.trans H; with_reducible exact H2_) | with_reducible exact H | (rw [hy335]; exact H) | exact H
   have Ny335 := zK hy335
   clear hy335
   by_cases c29 : y335.length + l0.length < 3518437208883
   rotate_left
   ·rw [if_neg c29] at H
    exact absurd H (by simp)
   rw [if_pos c29] at H
   have LMc29 := zK c29
   clear c29
   obtain ⟨y338, hy338⟩ : ∃ y_ : List (S138), y_ = (y335 ++ l0) := ⟨_, rfl⟩
   replace H : (some (y338, false)) = some (r1, r2) := by first | (rw [hy338]; with_reducible exact H) | (have H2_ := (Option.bind_some _ _).symm.trans H; rw [hy338]; with_reducible exact H2_) | (have H2_ := (Option.bind_some _ _).symm.trans H; with_reducible exact H2_) | with_reducible exact H | (rw [hy338]; exact H) | exact H
   have Ny338 := zK hy338
   clear hy338
   simp only [Option.some.injEq, Prod.mk.injEq] at H
   obtain ⟨rfl, rfl⟩ := H
   have hcz30_0 : wc.cell? ⟨gb319, 0, none⟩ = some (.int .i64 a1_0) := (bc BK319.out 0).trans rfl
   have hcz30_1 : wc.cell? ⟨gb319, 1, none⟩ = some (.int .i64 a1_1) := (bc BK319.out 1).trans rfl
   have hcz30_2 : wc.cell? ⟨gb319, 2, none⟩ = some (.int .i64 a1_2) := (bc BK319.out 2).trans rfl
   have hcz30_3 : wc.cell? ⟨gb319, 3, none⟩ = some (.int .i64 a1_3) := (bc BK319.out 3).trans rfl
   have hcz30_4 : wc.cell? ⟨gb319, 4, none⟩ = some (.int .i64 a1_4) := (bc BK319.out 4).trans rfl
   have hfz30_0 := bf BK319.out 0
   have hfz30_1 := bf BK319.out 1
   have hfz30_2 := bf BK319.out 2
   have hfz30_3 := bf BK319.out 3
   have hfz30_4 := bf BK319.out 4
   try go_wp2_with (first | ((with_reducible refine gate_callee (f := 154) rfl ?_); refine goesL_ (some 20) rfl rfl Try.func154 (by kernel_rfl) rfl #[.int .i64 x6_2, .agg #[.int .i64 a1_0, .int .i64 a1_1, .int .i64 a1_2, .int .i64 a1_3, .int .i64 a1_4]] rfl M0 ?_; (with_reducible refine (spec_HandSeal.calls kj2 x6_2 a1_0 a1_1 a1_2 a1_3 a1_4 t321 _ A9.out).mono ?_); rintro e w31 ⟨rfl, hb⟩; refine ⟨_, rfl, ?_⟩; have n0_ := zK (bB (g := gb319) (o := .cells #[.int .i64 a1_0, .int .i64 a1_1, .int .i64 a1_2, .int .i64 a1_3, .int .i64 a1_4] 138 (0, 0)) (qK BK319.out) hb); have n1_ := zK (bT M2 hb); clear BK319 HB; have BK319 := n0_; have HB := n1_; clear n0_ n1_; (try clear hb); (try clear hb2); (try clear hk); (try clear hi); have hcz32_0 : w31.cell? ⟨gb319, 0, none⟩ = some (.int .i64 a1_0) := (bc BK319.out 0).trans rfl; have hcz32_1 : w31.cell? ⟨gb319, 1, none⟩ = some (.int .i64 a1_1) := (bc BK319.out 1).trans rfl; have hcz32_2 : w31.cell? ⟨gb319, 2, none⟩ = some (.int .i64 a1_2) := (bc BK319.out 2).trans rfl; have hcz32_3 : w31.cell? ⟨gb319, 3, none⟩ = some (.int .i64 a1_3) := (bc BK319.out 3).trans rfl; have hcz32_4 : w31.cell? ⟨gb319, 4, none⟩ = some (.int .i64 a1_4) := (bc BK319.out 4).trans rfl; have hfz32_0 := bf BK319.out 0; have hfz32_1 := bf BK319.out 1; have hfz32_2 := bf BK319.out 2; have hfz32_3 := bf BK319.out 3; have hfz32_4 := bf BK319.out 4))
   have n0_ : Aside0 ((w31.setCell ⟨gb319, 4, none⟩ (.int .i64 t321)).heap[gb319]? = some (.cells #[.int .i64 a1_0, .int .i64 a1_1, .int .i64 a1_2, .int .i64 a1_3, .int .i64 t321] 138 (0, 0))) := ⟨by (with_reducible repeat (first | refine kN ?_ _ | refine kD ?_ | refine kA ?_ _)); refine blk_put (cs := #[.int .i64 a1_0, .int .i64 a1_1, .int .i64 a1_2, .int .i64 a1_3, .int .i64 a1_4]) ?_ 4 _ rfl; exact qK BK319.out⟩
   have n1_ : Aside0 (Below w.heap.size w (w31.setCell ⟨gb319, 4, none⟩ (.int .i64 t321))) := ⟨by repeat (first | (with_reducible first | exact HB.out | apply bA | apply bN | apply b1 | refine bS ?_ GE319.out) | exact HB.out)⟩
   (try clear BK319)
   (try clear HB)
   generalize (w31.setCell ⟨gb319, 4, none⟩ (.int .i64 t321)) = w33 at n0_ n1_ ⊢
   have BK319 := n0_
   have HB := n1_
   clear n0_ n1_
   have n0_ := zK (kD BK319.out)
   have n1_ := zK (b1 HB.out)
   clear BK319
   clear HB
   have BK319 := n0_
   have HB := n1_
   clear n0_ n1_
   refine start_ (n := 7) (S := fun w' => w'.cell? ⟨gb319, 0, none⟩ = some (.int .i64 a1_0) ∧ w'.cell? ⟨gb319, 1, none⟩ = some (.int .i64 a1_1) ∧ w'.cell? ⟨gb319, 2, none⟩ = some (.int .i64 a1_2) ∧ w'.cell? ⟨gb319, 3, none⟩ = some (.int .i64 a1_3) ∧ w'.cell? ⟨gb319, 4, none⟩ = some (.int .i64 t321)) (ds := []) b12A0 (by kernel_rfl) rfl rfl ⟨(bc BK319.out 0).trans rfl, (bc BK319.out 1).trans rfl, (bc BK319.out 2).trans rfl, (bc BK319.out 3).trans rfl, (bc BK319.out 4).trans rfl⟩ (fun hHeld => ?_)
   generalize w33.drew = w34 at BK319 HB hHeld ⊢
   refine pure_ (i := 1) (N := some 23) (v := ?_) (a' := ?_) b12A1 rfl rfl (by kernel_rfl) (fun _ _ _ h => h) (Or.inl ⟨by rfl, ?_⟩) ?_ ?_
   rotate_left
   ·intro w'
    go_simp
    with_reducible rfl
   rotate_left
   ·simp only [Act.put, sA, sZ, sS, i64_w, i32_w]
    rfl
   refine take_ (i := 3) (N := some 25) (v := ?_) (a' := ?_) b12A2 rfl rfl (by kernel_rfl) (fun _ _ _ h => h) (Or.inl ⟨by rfl, ?_⟩) hHeld ?_ ?_
   rotate_left
   ·rintro w' ⟨s0, s1, s2, s3, s4⟩
    go_simp
    with_reducible rfl
   rotate_left
   ·simp only [Act.put, sA, sZ, sS, i64_w, i32_w]
    rfl
   refine join_ (σ := Value × Value × Value) 2 b12A3 (fun s_ => [(22, s_.1), (24, s_.2.1), (26, s_.2.2)]) (fun s_ w' => (w'.cell? ⟨gb319, 0, none⟩ = some (.int .i64 a1_0) ∧ w'.cell? ⟨gb319, 1, none⟩ = some (.int .i64 a1_1) ∧ w'.cell? ⟨gb319, 2, none⟩ = some (.int .i64 a1_2) ∧ w'.cell? ⟨gb319, 3, none⟩ = some (.int .i64 a1_3) ∧ w'.cell? ⟨gb319, 4, none⟩ = some (.int .i64 t321)) ∧ (Kd.R k138 138 w' w.heap.size (fun k_ => some k_ ≠ (s_.2.2 : Value).ownBlock ∧ k_ ≠ gb319) s_.2.1 y325) ∧ (Kd.R k138 138 w' w.heap.size (fun k_ => some k_ ≠ (s_.2.1 : Value).ownBlock ∧ k_ ≠ gb319) s_.2.2 y328) ∧ (w'.heap[gb319]? = some (.cells #[.int .i64 a1_0, .int .i64 a1_1, .int .i64 a1_2, .int .i64 a1_3, .int .i64 t321] 138 (0, 0))) ∧ (Below w.heap.size w w')) ?_ ?_
   rotate_left
   ·intro hCont
    refine two_ (i := 0) (j := 4) (Ni := some 22) (Nj := some 26) b12A4 b12A5 rfl rfl rfl rfl (by kernel_rfl) (by decide) (by decide) (fun K hK => ?_) (fun K hK => ?_)
    rotate_left
    ·skip
     refine Kd.R_lit_step k138 _ 138 ?hg (N := 26) ?hd (xs := ([(⟨a1_0, a1_1, a1_2, a1_3, t321⟩ : S138)] : List (S138))) (inner := [.int .i64 a1_0, .int .i64 a1_1, .int .i64 a1_2, .int .i64 a1_3, .int .i64 t321]) (ok := fun _ => True) (okp := fun _ => True) ?hr ?hp (fun _ hk => hk) trivial (Below.refl _ _) (Nat.le_refl _) (by simp) ?_; (case hd => rfl); (case hg => rfl); (case hr => first | (go_simp; done) | (go_simp; rfl)); (case hp => exact (Reps.c5 (show Kd.M k138 _ _ _ (⟨a1_0, a1_1, a1_2, a1_3, t321⟩ : S138) [.int .i64 a1_0, .int .i64 a1_1, .int .i64 a1_2, .int .i64 a1_3, .int .i64 t321] from (k138_mkM _ _ _ (⟨a1_0, a1_1, a1_2, a1_3, t321⟩ : S138) )) (Reps.none _ _)))
     intro v329 w35 ho36 hb hg_ hnew_
     clear hg_ hnew_
     (first | rw [← Ny328.out] at ho36 | (simp only [Int.reduceToNat] at ho36; rw [← Ny328.out] at ho36))
     have n0_ := zK (Kd.R_lower (Kd.R_newB ho36 (g := gb319) (o := .cells #[.int .i64 a1_0, .int .i64 a1_1, .int .i64 a1_2, .int .i64 a1_3, .int .i64 t321] 138 (0, 0)) (qK BK319.out)) (bZ M2))
     have n1_ := zK (bB (g := gb319) (o := .cells #[.int .i64 a1_0, .int .i64 a1_1, .int .i64 a1_2, .int .i64 a1_3, .int .i64 t321] 138 (0, 0)) (qK BK319.out) hb)
     have n2_ := zK (bT M2 hb)
     clear BK319
     clear HB
     have HO330 := n0_
     have BK319 := n1_
     have HB := n2_
     clear n0_ n1_ n2_
     clear hb ho36
     refine hK.out _ _ ⟨(bc BK319.out 0).trans rfl, (bc BK319.out 1).trans rfl, (bc BK319.out 2).trans rfl, (bc BK319.out 3).trans rfl, (bc BK319.out 4).trans rfl⟩ (fun hHeld => ?_)
     clear hK K
     refine norm_ (a' := ?_) ?_ ?_
     rotate_left
     ·show Act.put _ (some 26) _ = _
      simp only [Act.put, sA, sZ, sS, i64_w, i32_w]
      rfl
     refine one_ (i := 0) (N := some 22) b12A7 rfl rfl (by kernel_rfl) (by decide) (fun K hK => ?_)
     refine Kd.R_lit_step k138 _ 138 ?hg (N := 22) ?hd (xs := ([] : List (S138))) (inner := []) (ok := fun _ => True) (okp := fun _ => True) ?hr ?hp (fun _ hk => hk) trivial (Below.refl _ _) (Nat.le_refl _) (by simp) ?_; (case hd => rfl); (case hg => rfl); (case hr => first | (go_simp; done) | (go_simp; rfl)); (case hp => exact (Reps.none _ _))
     intro v323 w37 ho38 hb hg_ hnew_
     clear hg_ hnew_
     (first | rw [← Ny322.out] at ho38 | (simp only [Int.reduceToNat] at ho38; rw [← Ny322.out] at ho38))
     have n0_ := zK (Kd.R_elder' (Kd.qR HO330.out) (Kd.R_base ho38) hb)
     have n1_ := zK (Kd.R_lower (Kd.R_newB (Kd.R_new' ho38 (Kd.R_lt (Kd.qR HO330.out))) (g := gb319) (o := .cells #[.int .i64 a1_0, .int .i64 a1_1, .int .i64 a1_2, .int .i64 a1_3, .int .i64 t321] 138 (0, 0)) (qK BK319.out)) (bZ M2))
     have n2_ := zK (bB (g := gb319) (o := .cells #[.int .i64 a1_0, .int .i64 a1_1, .int .i64 a1_2, .int .i64 a1_3, .int .i64 t321] 138 (0, 0)) (qK BK319.out) hb)
     have n3_ := zK (bT M2 hb)
     clear HO330
     clear BK319
     clear HB
     have HO330 := n0_
     have HO324 := n1_
     have BK319 := n2_
     have HB := n3_
     clear n0_ n1_ n2_ n3_
     clear hb ho38
     refine hK.out _ _ ⟨(bc BK319.out 0).trans rfl, (bc BK319.out 1).trans rfl, (bc BK319.out 2).trans rfl, (bc BK319.out 3).trans rfl, (bc BK319.out 4).trans rfl⟩ (fun hHeld => ?_)
     clear hK K
     refine norm_ (a' := ?_) ?_ ?_
     rotate_left
     ·show Act.put _ (some 22) _ = _
      simp only [Act.put, sA, sZ, sS, i64_w, i32_w]
      rfl
     refine one_ (i := 2) (N := some 24) b12A3 rfl rfl (by kernel_rfl) (by decide) (fun K hK => ?_)
     refine Kd.R_append_rows_step k138 (w0 := w) w.heap.size (by rfl) (.tmp 22) (.tmp 23) 51 138 (.agg #[(.int .i64 0), (.int .i64 0), (.int .i64 0), (.int .i64 0), (.int .i64 0)]) 40 rfl Try.underlying51 info138 rfl (by decide) (by omega) v323 y322 l0 _ _ _ (fun k_ => some k_ ≠ (v329 : Value).ownBlock ∧ k_ ≠ gb319) (fun _ => False) rfl rfl ?aO ?aR (fun _ _ h => h) (fun _ h => h.elim) ?aF ?aB ?aS ?aL ?_
     (case aR => exact Kd.qC (Kd.C_below HR0.out HB.out))
     (case aB => exact M2)
     (case aF => exact (fun k_ hk => ⟨Kd.fresh' (Kd.R_lt (Kd.qR HO330.out)) k_ hk, Kd.freshB (g := gb319) (o := .cells #[.int .i64 a1_0, .int .i64 a1_1, .int .i64 a1_2, .int .i64 a1_3, .int .i64 t321] 138 (0, 0)) (qK BK319.out) k_ hk⟩))
     (case aO => exact (by (with_reducible repeat (first | apply Kd.RA | apply Kd.RN | apply Kd.RD)); exact Kd.R_mono HO324.out (fun _ hk => ⟨hk.1.2, hk.2⟩)))
     (case aS => exact (bZ M2))
     (case aL => have := LMc10.out; omega)
     intro v326 w39 ho hb hg hat
     rw [← Ny325.out] at ho
     have n0_ := zK (blk_grown (g := gb319) (o := .cells #[.int .i64 a1_0, .int .i64 a1_1, .int .i64 a1_2, .int .i64 a1_3, .int .i64 t321] 138 (0, 0)) (qK BK319.out) hg (Kd.R_away HO324.out (fun _ hk => hk.2)))
     have n1_ := zK (Kd.R_after (ok := (fun k_ => k_ ≠ gb319)) (by (with_reducible repeat (first | apply Kd.RA | apply Kd.RN | apply Kd.RD)); exact Kd.R_mono HO330.out (fun _ hk => ⟨hk.1.2, hk.2⟩)) hg hat)
     have n2_ := zK (hb)
     have n3_ := zK (ho)
     clear BK319
     clear HO330
     clear HB
     clear HO324
     have BK319 := n0_
     have HO330 := n1_
     have HB := n2_
     have HO327 := n3_
     clear n0_ n1_ n2_ n3_
     clear ho hb hg hat
     refine hK.out _ _ ⟨(bc BK319.out 0).trans rfl, (bc BK319.out 1).trans rfl, (bc BK319.out 2).trans rfl, (bc BK319.out 3).trans rfl, (bc BK319.out 4).trans rfl⟩ (fun hHeld => ?_)
     clear hK K
     refine norm_ (a' := ?_) ?_ ?_
     rotate_left
     ·show Act.put _ (some 24) _ = _
      simp only [Act.put, sA, sZ, sS, i64_w, i32_w]
      rfl
     exact norm_ M16 (hCont (v323, v326, v329) _ ⟨hHeld, (Kd.qR HO327.out), M12, (qK BK319.out), M2⟩)
    skip
    refine Kd.R_lit_step k138 _ 138 ?hg (N := 22) ?hd (xs := ([] : List (S138))) (inner := []) (ok := fun _ => True) (okp := fun _ => True) ?hr ?hp (fun _ hk => hk) trivial (Below.refl _ _) (Nat.le_refl _) (by simp) ?_; (case hd => rfl); (case hg => rfl); (case hr => first | (go_simp; done) | (go_simp; rfl)); (case hp => exact (Reps.none _ _))
    intro v323 w35 ho36 hb hg_ hnew_
    clear hg_ hnew_
    (first | rw [← Ny322.out] at ho36 | (simp only [Int.reduceToNat] at ho36; rw [← Ny322.out] at ho36))
    have n0_ := zK (Kd.R_lower (Kd.R_newB ho36 (g := gb319) (o := .cells #[.int .i64 a1_0, .int .i64 a1_1, .int .i64 a1_2, .int .i64 a1_3, .int .i64 t321] 138 (0, 0)) (qK BK319.out)) (bZ M2))
    have n1_ := zK (bB (g := gb319) (o := .cells #[.int .i64 a1_0, .int .i64 a1_1, .int .i64 a1_2, .int .i64 a1_3, .int .i64 t321] 138 (0, 0)) (qK BK319.out) hb)
    have n2_ := zK (bT M2 hb)
    clear BK319
    clear HB
    have HO324 := n0_
    have BK319 := n1_
    have HB := n2_
    clear n0_ n1_ n2_
    clear hb ho36
    refine hK.out _ _ ⟨(bc BK319.out 0).trans rfl, (bc BK319.out 1).trans rfl, (bc BK319.out 2).trans rfl, (bc BK319.out 3).trans rfl, (bc BK319.out 4).trans rfl⟩ (fun hHeld => ?_)
    clear hK K
    refine norm_ (a' := ?_) ?_ ?_
    rotate_left
    ·show Act.put _ (some 22) _ = _
     simp only [Act.put, sA, sZ, sS, i64_w, i32_w]
     rfl
    refine two_ (i := 2) (j := 4) (Ni := some 24) (Nj := some 26) b12A6 b12A7 rfl rfl rfl rfl (by kernel_rfl) (by decide) (by decide) (fun K hK => ?_) (fun K hK => ?_)
    ·skip
     refine Kd.R_append_rows_step k138 (w0 := w) w.heap.size (by rfl) (.tmp 22) (.tmp 23) 51 138 (.agg #[(.int .i64 0), (.int .i64 0), (.int .i64 0), (.int .i64 0), (.int .i64 0)]) 40 rfl Try.underlying51 info138 rfl (by decide) (by omega) v323 y322 l0 _ _ _ (fun k_ => k_ ≠ gb319) (fun _ => False) rfl rfl ?aO ?aR (fun _ _ h => h) (fun _ h => h.elim) ?aF ?aB ?aS ?aL ?_
     (case aR => exact Kd.qC (Kd.C_below HR0.out HB.out))
     (case aB => exact M2)
     (case aF => exact (fun k_ hk => Kd.freshB (g := gb319) (o := .cells #[.int .i64 a1_0, .int .i64 a1_1, .int .i64 a1_2, .int .i64 a1_3, .int .i64 t321] 138 (0, 0)) (qK BK319.out) k_ hk))
     (case aO => exact (by (with_reducible repeat (first | apply Kd.RA | apply Kd.RN | apply Kd.RD)); exact Kd.R_mono HO324.out (fun _ hk => hk.2)))
     (case aS => exact (bZ M2))
     (case aL => have := LMc10.out; omega)
     intro v326 w37 ho hb hg hat
     rw [← Ny325.out] at ho
     have n0_ := zK (blk_grown (g := gb319) (o := .cells #[.int .i64 a1_0, .int .i64 a1_1, .int .i64 a1_2, .int .i64 a1_3, .int .i64 t321] 138 (0, 0)) (qK BK319.out) hg (Kd.R_away HO324.out (fun _ hk => hk.2)))
     have n1_ := zK (hb)
     have n2_ := zK (ho)
     clear BK319
     clear HB
     clear HO324
     have BK319 := n0_
     have HB := n1_
     have HO327 := n2_
     clear n0_ n1_ n2_
     clear ho hb hg hat
     refine hK.out _ _ ⟨(bc BK319.out 0).trans rfl, (bc BK319.out 1).trans rfl, (bc BK319.out 2).trans rfl, (bc BK319.out 3).trans rfl, (bc BK319.out 4).trans rfl⟩ (fun hHeld => ?_)
     clear hK K
     refine norm_ (a' := ?_) ?_ ?_
     rotate_left
     ·show Act.put _ (some 24) _ = _
      simp only [Act.put, sA, sZ, sS, i64_w, i32_w]
      rfl
     refine one_ (i := 4) (N := some 26) b12A3 rfl rfl (by kernel_rfl) (by decide) (fun K hK => ?_)
     refine Kd.R_lit_step k138 _ 138 ?hg (N := 26) ?hd (xs := ([(⟨a1_0, a1_1, a1_2, a1_3, t321⟩ : S138)] : List (S138))) (inner := [.int .i64 a1_0, .int .i64 a1_1, .int .i64 a1_2, .int .i64 a1_3, .int .i64 t321]) (ok := fun _ => True) (okp := fun _ => True) ?hr ?hp (fun _ hk => hk) trivial (Below.refl _ _) (Nat.le_refl _) (by simp) ?_; (case hd => rfl); (case hg => rfl); (case hr => first | (go_simp; done) | (go_simp; rfl)); (case hp => exact (Reps.c5 (show Kd.M k138 _ _ _ (⟨a1_0, a1_1, a1_2, a1_3, t321⟩ : S138) [.int .i64 a1_0, .int .i64 a1_1, .int .i64 a1_2, .int .i64 a1_3, .int .i64 t321] from (k138_mkM _ _ _ (⟨a1_0, a1_1, a1_2, a1_3, t321⟩ : S138) )) (Reps.none _ _)))
     intro v329 w38 ho39 hb hg_ hnew_
     clear hg_ hnew_
     (first | rw [← Ny328.out] at ho39 | (simp only [Int.reduceToNat] at ho39; rw [← Ny328.out] at ho39))
     have n0_ := zK (Kd.R_elder' (Kd.qR HO327.out) (Kd.R_base ho39) hb)
     have n1_ := zK (Kd.R_lower (Kd.R_newB (Kd.R_new' ho39 (Kd.R_lt (Kd.qR HO327.out))) (g := gb319) (o := .cells #[.int .i64 a1_0, .int .i64 a1_1, .int .i64 a1_2, .int .i64 a1_3, .int .i64 t321] 138 (0, 0)) (qK BK319.out)) (bZ M2))
     have n2_ := zK (bB (g := gb319) (o := .cells #[.int .i64 a1_0, .int .i64 a1_1, .int .i64 a1_2, .int .i64 a1_3, .int .i64 t321] 138 (0, 0)) (qK BK319.out) hb)
     have n3_ := zK (bT M2 hb)
     clear HO327
     clear BK319
     clear HB
     have HO327 := n0_
     have HO330 := n1_
     have BK319 := n2_
     have HB := n3_
     clear n0_ n1_ n2_ n3_
     clear hb ho39
     refine hK.out _ _ ⟨(bc BK319.out 0).trans rfl, (bc BK319.out 1).trans rfl, (bc BK319.out 2).trans rfl, (bc BK319.out 3).trans rfl, (bc BK319.out 4).trans rfl⟩ (fun hHeld => ?_)
     clear hK K
     refine norm_ (a' := ?_) ?_ ?_
     rotate_left
     ·show Act.put _ (some 26) _ = _
      simp only [Act.put, sA, sZ, sS, i64_w, i32_w]
      rfl
     exact norm_ M16 (hCont (v323, v326, v329) _ ⟨hHeld, (by (with_reducible repeat (first | apply Kd.RA | apply Kd.RN | apply Kd.RD)); exact Kd.R_mono HO327.out (fun _ hk => ⟨hk.2, hk.1⟩)), (by (with_reducible repeat (first | apply Kd.RA | apply Kd.RN | apply Kd.RD)); exact Kd.R_mono HO330.out (fun _ hk => ⟨hk.1.2, hk.2⟩)), (qK BK319.out), M2⟩)
    skip
    refine Kd.R_lit_step k138 _ 138 ?hg (N := 26) ?hd (xs := ([(⟨a1_0, a1_1, a1_2, a1_3, t321⟩ : S138)] : List (S138))) (inner := [.int .i64 a1_0, .int .i64 a1_1, .int .i64 a1_2, .int .i64 a1_3, .int .i64 t321]) (ok := fun _ => True) (okp := fun _ => True) ?hr ?hp (fun _ hk => hk) trivial (Below.refl _ _) (Nat.le_refl _) (by simp) ?_; (case hd => rfl); (case hg => rfl); (case hr => first | (go_simp; done) | (go_simp; rfl)); (case hp => exact (Reps.c5 (show Kd.M k138 _ _ _ (⟨a1_0, a1_1, a1_2, a1_3, t321⟩ : S138) [.int .i64 a1_0, .int .i64 a1_1, .int .i64 a1_2, .int .i64 a1_3, .int .i64 t321] from (k138_mkM _ _ _ (⟨a1_0, a1_1, a1_2, a1_3, t321⟩ : S138) )) (Reps.none _ _)))
    intro v329 w37 ho38 hb hg_ hnew_
    clear hg_ hnew_
    (first | rw [← Ny328.out] at ho38 | (simp only [Int.reduceToNat] at ho38; rw [← Ny328.out] at ho38))
    have n0_ := zK (Kd.R_elder' (Kd.qR HO324.out) (Kd.R_base ho38) hb)
    have n1_ := zK (Kd.R_lower (Kd.R_newB (Kd.R_new' ho38 (Kd.R_lt (Kd.qR HO324.out))) (g := gb319) (o := .cells #[.int .i64 a1_0, .int .i64 a1_1, .int .i64 a1_2, .int .i64 a1_3, .int .i64 t321] 138 (0, 0)) (qK BK319.out)) (bZ M2))
    have n2_ := zK (bB (g := gb319) (o := .cells #[.int .i64 a1_0, .int .i64 a1_1, .int .i64 a1_2, .int .i64 a1_3, .int .i64 t321] 138 (0, 0)) (qK BK319.out) hb)
    have n3_ := zK (bT M2 hb)
    clear HO324
    clear BK319
    clear HB
    have HO324 := n0_
    have HO330 := n1_
    have BK319 := n2_
    have HB := n3_
    clear n0_ n1_ n2_ n3_
    clear hb ho38
    refine hK.out _ _ ⟨(bc BK319.out 0).trans rfl, (bc BK319.out 1).trans rfl, (bc BK319.out 2).trans rfl, (bc BK319.out 3).trans rfl, (bc BK319.out 4).trans rfl⟩ (fun hHeld => ?_)
    clear hK K
    refine norm_ (a' := ?_) ?_ ?_
    rotate_left
    ·show Act.put _ (some 26) _ = _
     simp only [Act.put, sA, sZ, sS, i64_w, i32_w]
     rfl
    refine one_ (i := 2) (N := some 24) b12A3 rfl rfl (by kernel_rfl) (by decide) (fun K hK => ?_)
    refine Kd.R_append_rows_step k138 (w0 := w) w.heap.size (by rfl) (.tmp 22) (.tmp 23) 51 138 (.agg #[(.int .i64 0), (.int .i64 0), (.int .i64 0), (.int .i64 0), (.int .i64 0)]) 40 rfl Try.underlying51 info138 rfl (by decide) (by omega) v323 y322 l0 _ _ _ (fun k_ => some k_ ≠ (v329 : Value).ownBlock ∧ k_ ≠ gb319) (fun _ => False) rfl rfl ?aO ?aR (fun _ _ h => h) (fun _ h => h.elim) ?aF ?aB ?aS ?aL ?_
    (case aR => exact Kd.qC (Kd.C_below HR0.out HB.out))
    (case aB => exact M2)
    (case aF => exact (fun k_ hk => ⟨Kd.fresh' (Kd.R_lt (Kd.qR HO330.out)) k_ hk, Kd.freshB (g := gb319) (o := .cells #[.int .i64 a1_0, .int .i64 a1_1, .int .i64 a1_2, .int .i64 a1_3, .int .i64 t321] 138 (0, 0)) (qK BK319.out) k_ hk⟩))
    (case aO => exact (by (with_reducible repeat (first | apply Kd.RA | apply Kd.RN | apply Kd.RD)); exact Kd.R_mono HO324.out (fun _ hk => ⟨hk.2, hk.1.2⟩)))
    (case aS => exact (bZ M2))
    (case aL => have := LMc10.out; omega)
    intro v326 w39 ho hb hg hat
    rw [← Ny325.out] at ho
    have n0_ := zK (blk_grown (g := gb319) (o := .cells #[.int .i64 a1_0, .int .i64 a1_1, .int .i64 a1_2, .int .i64 a1_3, .int .i64 t321] 138 (0, 0)) (qK BK319.out) hg (Kd.R_away HO324.out (fun _ hk => hk.1.2)))
    have n1_ := zK (Kd.R_after (ok := (fun k_ => k_ ≠ gb319)) (by (with_reducible repeat (first | apply Kd.RA | apply Kd.RN | apply Kd.RD)); exact Kd.R_mono HO330.out (fun _ hk => ⟨hk.2, hk.1.2⟩)) hg hat)
    have n2_ := zK (hb)
    have n3_ := zK (ho)
    clear BK319
    clear HO330
    clear HB
    clear HO324
    have BK319 := n0_
    have HO330 := n1_
    have HB := n2_
    have HO327 := n3_
    clear n0_ n1_ n2_ n3_
    clear ho hb hg hat
    refine hK.out _ _ ⟨(bc BK319.out 0).trans rfl, (bc BK319.out 1).trans rfl, (bc BK319.out 2).trans rfl, (bc BK319.out 3).trans rfl, (bc BK319.out 4).trans rfl⟩ (fun hHeld => ?_)
    clear hK K
    refine norm_ (a' := ?_) ?_ ?_
    rotate_left
    ·show Act.put _ (some 24) _ = _
     simp only [Act.put, sA, sZ, sS, i64_w, i32_w]
     rfl
    exact norm_ M16 (hCont (v323, v326, v329) _ ⟨hHeld, (Kd.qR HO327.out), M12, (qK BK319.out), M2⟩)
   rintro ⟨v323, v326, v329⟩ w40 ⟨hS_, h0_, h1_, h2_, h3_⟩
   have n0_ : Aside0 (Kd.R k138 138 w40 w.heap.size (fun k_ => some k_ ≠ (v329 : Value).ownBlock ∧ k_ ≠ gb319) v326 y325) := ⟨h0_⟩
   have n1_ : Aside0 (Kd.R k138 138 w40 w.heap.size (fun k_ => some k_ ≠ (v326 : Value).ownBlock ∧ k_ ≠ gb319) v329 y328) := ⟨h1_⟩
   have n2_ : Aside0 (w40.heap[gb319]? = some (.cells #[.int .i64 a1_0, .int .i64 a1_1, .int .i64 a1_2, .int .i64 a1_3, .int .i64 t321] 138 (0, 0))) := ⟨h2_⟩
   have n3_ : Aside0 (Below w.heap.size w w40) := ⟨h3_⟩
   clear BK319
   clear HB
   clear h0_ h1_ h2_ h3_
   have HO327 := n0_
   have HO330 := n1_
   have BK319 := n2_
   have HB := n3_
   clear n0_ n1_ n2_ n3_
   have hHeld : w40.cell? ⟨gb319, 0, none⟩ = some (.int .i64 a1_0) ∧ w40.cell? ⟨gb319, 1, none⟩ = some (.int .i64 a1_1) ∧ w40.cell? ⟨gb319, 2, none⟩ = some (.int .i64 a1_2) ∧ w40.cell? ⟨gb319, 3, none⟩ = some (.int .i64 a1_3) ∧ w40.cell? ⟨gb319, 4, none⟩ = some (.int .i64 t321) := hS_
   obtain ⟨Ao42, co42, eo42⟩ := Kd.R_slice HO330.out
   (first | subst eo42 | (injection eo42 with f1_ f2_ f3_; have f4_ := f1_.symm; have f5_ := f3_.symm; clear f1_ f2_ f3_; subst f4_; subst f5_))
   refine norm_ (a' := ?_) ?_ ?_
   rotate_left
   ·simp only [putAll, Act.put, sA, sZ, sS]
    rfl
   refine one_ (i := 5) (N := some 27) b12A8 rfl rfl (by kernel_rfl) (by decide) (fun K hK => ?_)
   refine Kd.R_append_rows_step k138 (w0 := w) w.heap.size (by rfl) (.tmp 24) (.tmp 26) 51 138 (.agg #[(.int .i64 0), (.int .i64 0), (.int .i64 0), (.int .i64 0), (.int .i64 0)]) 40 rfl Try.underlying51 info138 rfl (by decide) (by omega) v326 y325 y328 _ _ _ (fun k_ => some k_ ≠ (.slice Ao42 y328.length co42 : Value).ownBlock ∧ k_ ≠ gb319) (fun _ => False) rfl rfl ?aO ?aR (fun _ _ h => h) (fun _ h => h.elim) ?aF ?aB ?aS ?aL ?_
   (case aR => exact Kd.qC (Kd.R_reads' HO330.out).2.2)
   (case aB => exact M2)
   (case aF => exact (fun k_ hk => ⟨Kd.fresh' (Kd.R_lt (Kd.qR HO330.out)) k_ hk, Kd.freshB (g := gb319) (o := .cells #[.int .i64 a1_0, .int .i64 a1_1, .int .i64 a1_2, .int .i64 a1_3, .int .i64 t321] 138 (0, 0)) (qK BK319.out) k_ hk⟩))
   (case aO => exact (Kd.qR HO327.out))
   (case aS => exact (bZ M2))
   (case aL => have := LMc11.out; omega)
   intro v332 w41 ho hb hg hat
   rw [← Ny331.out] at ho
   have n0_ := zK (blk_grown (g := gb319) (o := .cells #[.int .i64 a1_0, .int .i64 a1_1, .int .i64 a1_2, .int .i64 a1_3, .int .i64 t321] 138 (0, 0)) (qK BK319.out) hg (Kd.R_away HO327.out (fun _ hk => hk.2)))
   have n1_ := zK (Kd.R_after (ok := (fun k_ => k_ ≠ gb319)) M12 hg hat)
   have n2_ := zK (hb)
   have n3_ := zK (ho)
   clear BK319
   clear HO330
   clear HB
   clear HO327
   have BK319 := n0_
   have HO330 := n1_
   have HB := n2_
   have HO333 := n3_
   clear n0_ n1_ n2_ n3_
   clear ho hb hg hat
   refine hK.out _ _ ⟨(bc BK319.out 0).trans rfl, (bc BK319.out 1).trans rfl, (bc BK319.out 2).trans rfl, (bc BK319.out 3).trans rfl, (bc BK319.out 4).trans rfl⟩ (fun hHeld => ?_)
   clear hK K
   refine norm_ (a' := ?_) ?_ ?_
   rotate_left
   ·show Act.put _ (some 27) _ = _
    simp only [Act.put, sA, sZ, sS, i64_w, i32_w]
    rfl
   refine pure_ (i := 6) (N := some 7) (v := ?_) (a' := ?_) b12A9 rfl rfl (by kernel_rfl) (fun _ _ _ h => h) (Or.inl ⟨by rfl, ?_⟩) ?_ ?_
   rotate_left
   ·intro w'
    go_simp
    with_reducible rfl
   rotate_left
   ·simp only [Act.put, sA, sZ, sS, i64_w, i32_w]
    rfl
   refine done_ (by kernel_rfl) ?_
   obtain ⟨Ao43, co43, eo43⟩ := Kd.R_slice HO333.out
   subst eo43
   try go_wp2_with (first | ((with_reducible refine gate_callee (f := 152) rfl ?_); refine goesL_ (some 29) rfl rfl Try.func152 (by kernel_rfl) rfl #[.slice Ao43 y331.length co43] rfl M0 ?_; (with_reducible refine (spec_IsChain.calls kj2 _ _ y331 false _ ?side1 ?side2 A12.out).mono ?_); (case side1 => exact Kd.qC (Kd.R_reads' HO333.out).2.2); (case side2 => exact (Kd.R_reads' HO333.out).2.1); rintro e w44 ⟨rfl, hb⟩; refine ⟨_, rfl, ?_⟩; have n0_ := zK (Kd.R_below (Kd.qR HO330.out) hb); have n1_ := zK (Kd.R_below (Kd.qR HO333.out) hb); have n2_ := zK (bB (g := gb319) (o := .cells #[.int .i64 a1_0, .int .i64 a1_1, .int .i64 a1_2, .int .i64 a1_3, .int .i64 t321] 138 (0, 0)) (qK BK319.out) hb); have n3_ := zK (bT M2 hb); clear HO330 HO333 BK319 HB; have HO330 := n0_; have HO333 := n1_; have BK319 := n2_; have HB := n3_; clear n0_ n1_ n2_ n3_; (try clear hb); (try clear hb2); (try clear hk); (try clear hi)) | ((with_reducible refine gate_dst (N := 31) rfl ?_); refine Kd.R_lit k138 _ 138 ?hg (N := 31) ?hd (xs := ([] : List (S138))) (inner := []) (ok := fun _ => True) (okp := fun _ => True) ?hr ?hp (fun _ hk => hk) trivial (Below.refl _ _) (Nat.le_refl _) (by simp) ?_; (case hd => rfl); (case hg => rfl); (case hr => first | (go_simp; done) | (go_simp; rfl)); (case hp => exact (Reps.none _ _)); intro v336 w45 ho46 hb hg_ hnew_; clear hg_ hnew_; (first | rw [← Ny335.out] at ho46 | (simp only [Int.reduceToNat] at ho46; rw [← Ny335.out] at ho46)); have n0_ := zK (Kd.R_elder' (Kd.qR HO330.out) (Kd.R_base ho46) hb); have n1_ := zK (Kd.R_elder' (Kd.qR HO333.out) (Kd.R_base ho46) hb); have n2_ := zK (Kd.R_lower (Kd.R_newB (Kd.R_new' (Kd.R_new' ho46 (Kd.R_lt (Kd.qR HO330.out))) (Kd.R_lt (Kd.qR HO333.out))) (g := gb319) (o := .cells #[.int .i64 a1_0, .int .i64 a1_1, .int .i64 a1_2, .int .i64 a1_3, .int .i64 t321] 138 (0, 0)) (qK BK319.out)) (bZ M2)); have n3_ := zK (bB (g := gb319) (o := .cells #[.int .i64 a1_0, .int .i64 a1_1, .int .i64 a1_2, .int .i64 a1_3, .int .i64 t321] 138 (0, 0)) (qK BK319.out) hb); have n4_ := zK (bT M2 hb); clear HO330 HO333 BK319 HB; have HO330 := n0_; have HO333 := n1_; have HO337 := n2_; have BK319 := n3_; have HB := n4_; clear n0_ n1_ n2_ n3_ n4_; clear hb ho46) | ((with_reducible refine gate_builtin (b := .append) (xs := #[.tmp 31, .tmp 32]) rfl ?_); at_builtin; refine Kd.R_append_rows k138 (w0 := w) w.heap.size rfl (.tmp 31) (.tmp 32) 51 138 (.agg #[(.int .i64 0), (.int .i64 0), (.int .i64 0), (.int .i64 0), (.int .i64 0)]) 40 rfl Try.underlying51 info138 rfl (by decide) (by omega) v336 y335 l0 _ _ _ (fun k_ => some k_ ≠ (.slice Ao42 y328.length co42 : Value).ownBlock ∧ some k_ ≠ (.slice Ao43 y331.length co43 : Value).ownBlock ∧ k_ ≠ gb319) (fun _ => False) rfl rfl ?aO ?aR (fun _ _ h => h) (fun _ h => h.elim) ?aF ?aB ?aS ?aL ?_; (case aR => exact Kd.qC (Kd.C_below HR0.out HB.out)); (case aB => exact M2); (case aF => exact (fun k_ hk => ⟨Kd.fresh' (Kd.R_lt (Kd.qR HO330.out)) k_ hk, Kd.fresh' (Kd.R_lt (Kd.qR HO333.out)) k_ hk, Kd.freshB (g := gb319) (o := .cells #[.int .i64 a1_0, .int .i64 a1_1, .int .i64 a1_2, .int .i64 a1_3, .int .i64 t321] 138 (0, 0)) (qK BK319.out) k_ hk⟩)); (case aO => exact (by (with_reducible repeat (first | apply Kd.RA | apply Kd.RN | apply Kd.RD)); exact Kd.R_mono HO337.out (fun _ hk => ⟨hk.1.1.2, ⟨hk.1.2, hk.2⟩⟩))); (case aS => exact (bZ M2)); (case aL => have := LMc29.out; omega); intro v339 w47 ho hb hg hat; rw [← Ny338.out] at ho; have n0_ := zK (blk_grown (g := gb319) (o := .cells #[.int .i64 a1_0, .int .i64 a1_1, .int .i64 a1_2, .int .i64 a1_3, .int .i64 t321] 138 (0, 0)) (qK BK319.out) hg (Kd.R_away HO337.out (fun _ hk => hk.2))); have n1_ := zK (Kd.R_after (ok := (fun k_ => some k_ ≠ (.slice Ao43 y331.length co43 : Value).ownBlock ∧ k_ ≠ gb319)) (by (with_reducible repeat (first | apply Kd.RA | apply Kd.RN | apply Kd.RD)); exact Kd.R_mono HO330.out (fun _ hk => ⟨⟨hk.1.2, hk.1.1⟩, hk.2⟩)) hg hat); have n2_ := zK (Kd.R_after (ok := (fun k_ => some k_ ≠ (.slice Ao42 y328.length co42 : Value).ownBlock ∧ k_ ≠ gb319)) (Kd.qR HO333.out) hg hat); have n3_ := zK (hb); have n4_ := zK (ho); clear BK319 HO330 HO333 HB HO337; have BK319 := n0_; have HO330 := n1_; have HO333 := n2_; have HB := n3_; have HO340 := n4_; clear n0_ n1_ n2_ n3_ n4_; clear ho hb hg hat))
   go_ret2
   exact ⟨_, by first | rfl | (simp [errW_none, errW_some] <;> rfl) | (simp [*, errW_none, errW_some] <;> rfl), by (with_reducible repeat (first | apply Kd.RA | apply Kd.RN | apply Kd.RD)); exact Kd.R_mono HO340.out (fun _ hk => trivial), by repeat (first | (with_reducible first | exact HB.out | apply bA | apply bN | apply b1 | refine bS ?_ GE319.out) | exact HB.out)⟩
end Go.Proofs.Ytejhjenlodclpaa.PFnExactSendAll
