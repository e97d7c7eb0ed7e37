/- Walks of functions that FnCustody reaches: written by a tool of the kit for this claim, then shortened by a program of ours. -/
import Derived.Test.YtpkdbkheggfkkaaPFnCustodyx0
import Derived.Test.YtpkdbkheggfkkaaPFnCustodyx4
import Derived.Test.YtpkdbkheggfkkaaPFnCustodyx5
namespace Go.Proofs.Ytpkdbkheggfkkaa.PFnCustody
open Go.RowKit Go.Proofs.YtpkdbkheggfkkaaW.PrintWords Go.Proofs.YtpkdbkheggfkkaaW.PrintLast Go.Proofs.YtpkdbkheggfkkaaW.PrintMore
attribute [local go_sem] max2_int min2_int max_two min_two max_three min_three max_four min_four   -- for this text's walks alone
set_option linter.unusedVariables false
set_option linter.unusedSimpArgs false

abbrev b6A0 : Array Bool := #[bo, bo, bo, bo, bo, bo, bo]
abbrev b6A1 : Array Bool := #[bo, bi, bo, bo, bo, bo, bo]
abbrev b6A2 : Array Bool := #[bo, bi, bo, bi, bo, bo, bo]
abbrev b6A3 : Array Bool := #[bi, bi, bi, bi, bi, bo, bo]
abbrev b6A4 : Array Bool := #[bi, bi, bo, bi, bo, bo, bo]
abbrev b6A5 : Array Bool := #[bo, bi, bo, bi, bi, bo, bo]
abbrev b6A6 : Array Bool := #[bi, bi, bi, bi, bo, bo, bo]
abbrev b6A7 : Array Bool := #[bi, bi, bo, bi, bi, bo, bo]
abbrev b6A8 : Array Bool := #[bi, bi, bi, bi, bi, bi, bo]
abbrev b6A9 : Array Bool := #[bi, bi, bi, bi, bi, bi, bi]
/-! ### spec_AddHand: function 209 -/
def spec_AddHand.j0 : Nat → List (S95) → Int → Int → Int → Int → Int → Int → Option ((List (S95)) × Bool)
  | 0, _, _, _, _, _, _, _ => none
  | k + 1, x0, x6, x197000, x197001, x197002, x197003, x197004 => (spec_HandSeal.f k x6 x197000 x197001 x197002 x197003 x197004).bind fun t198 => ((some (([] : List (S95)) : List (S95))).bind fun y199 => (if y199.length + x0.length < 3518437208883 then ((some (y199 ++ x0 : List (S95))).bind fun y202 => ((some (([(⟨x197000, x197001, x197002, x197003, t198⟩ : S95)] : List (S95)) : List (S95))).bind fun y205 => (if y202.length + y205.length < 3518437208883 then ((some (y202 ++ y205 : List (S95))).bind fun y208 => ((spec_IsChain.f k y208).bind fun t211 => (if t211 = true then (some (y208, true)) else ((some (([] : List (S95)) : List (S95))).bind fun y212 => (if y212.length + x0.length < 3518437208883 then (some ((y212 ++ x0), false)) else (none)))))) else (none)))) else (none)))
def spec_AddHand.f (k : Nat) (l0 : List (S95)) (a1_0 : Int) (a1_1 : Int) (a1_2 : Int) (a1_3 : Int) (a1_4 : Int) : Option ((List (S95)) × Bool) := if (l0.length : Int) > 0 then (if 0 ≤ (wrap64 ((l0.length : Int) - 1)) then (if (wrap64 ((l0.length : Int) - 1)) < (l0.length : Int) then (spec_AddHand.j0 k l0 ((rd_T95 l0 (wrap64 ((l0.length : Int) - 1))).f4) a1_0 a1_1 a1_2 a1_3 a1_4) else (none)) else (none)) else (spec_AddHand.j0 k l0 0 a1_0 a1_1 a1_2 a1_3 a1_4)
set_option maxHeartbeats 8000000 in
set_option maxRecDepth 100000 in
theorem spec_AddHand.calls (k : Nat) (A0 : Option Addr) (c0 : Nat) (l0 : List (S95)) (a1_0 : Int) (a1_1 : Int) (a1_2 : Int) (a1_3 : Int) (a1_4 : Int) (r1 : List (S95)) (r2 : Bool) (w : World) (hr0 : Kd.C k95 w A0 l0.length l0) (hc0 : l0.length ≤ c0) (h : spec_AddHand.f k l0 a1_0 a1_1 a1_2 a1_3 a1_4 = some (r1, r2)) :
    Calls Try.prog 209 #[.slice A0 l0.length c0, .agg #[.int .i64 a1_0, .int .i64 a1_1, .int .i64 a1_2, .int .i64 a1_3, .int .i64 a1_4]] w fun e w' => ∃ v0_ : Value, e = .returned (.tuple #[v0_, .bool r2]) ∧ Kd.R k95 95 w' w.heap.size (fun _ => True) v0_ r1 ∧ Below w.heap.size w w' := by
  have hu95 := Try.underlying95
  have HR0 := zK hr0
  have HC0 := zK hc0
  clear hr0 hc0
  have HB := zK (Below.refl w.heap.size w)
  have H : (if (l0.length : Int) > 0 then (if 0 ≤ (wrap64 ((l0.length : Int) - 1)) then (if (wrap64 ((l0.length : Int) - 1)) < (l0.length : Int) then (spec_AddHand.j0 k l0 ((rd_T95 l0 (wrap64 ((l0.length : Int) - 1))).f4) a1_0 a1_1 a1_2 a1_3 a1_4) else (none)) else (none)) else (spec_AddHand.j0 k l0 0 a1_0 a1_1 a1_2 a1_3 a1_4)) = some (r1, r2) := h
  clear h
  have HC3 := zK H
  clear H
  go_enter Try.func209, Try.ntmps209
  go_upto_if 10 with (first | ((with_reducible refine gate_dst (N := 3) rfl ?_); refine box_event ?hg (N := 3) ?hd (cs := #[.int .i64 a1_0, .int .i64 a1_1, .int .i64 a1_2, .int .i64 a1_3, .int .i64 a1_4]) (t := 95) ?hr ?_; (case hd => rfl); (case hg => rfl); (case hr => first | (go_simp; done) | (go_simp; rfl)); intro gb196 hg w4 hbox hb; have n0_ := zK (bT (by repeat (first | (with_reducible first | exact HB.out | apply bA | apply bN | apply b1) | exact HB.out)) hb); have n1_ := zK (hbox); have n2_ := zK ((by rw [hg]; exact (bZ (by repeat (first | (with_reducible first | exact HB.out | apply bA | apply bN | apply b1) | exact HB.out))) : w.heap.size ≤ gb196)); have n3_ := zK ((by rw [hg]; exact (bZ (by repeat (first | (with_reducible first | exact HB.out | apply bA | apply bN | apply b1) | exact HB.out))) : w.heap.size ≤ gb196)); clear HB; have HB := n0_; have BK196 := n1_; have GW196 := n2_; have GE196 := n3_; clear n0_ n1_ n2_ n3_; clear hb hbox hg))
  (try simp only [Act.put, sA, sZ, sS])
  go_cut [6] (fun v6 wc => ∃ (kq : Nat) (x6_2 : Int), v6 = .int .i64 x6_2 ∧ Aside0 (spec_AddHand.j0 kq l0 x6_2 a1_0 a1_1 a1_2 a1_3 a1_4 = some (r1, r2)) ∧ Aside0 (kq ≤ k) ∧ Aside0 (wc.heap[gb196]? = some (.cells #[.int .i64 a1_0, .int .i64 a1_1, .int .i64 a1_2, .int .i64 a1_3, .int .i64 a1_4] 95 (0, 0))) ∧ Aside0 (Below w.heap.size w wc))
  case first =>
    have H := HC3.out
    clear HC3
    by_cases c5 : (l0.length : Int) > 0
    rotate_left
    · rw [if_neg c5] at H
      have c5b0 : decide (0 < (l0.length : Int)) = false := decide_eq_false c5
      have c5b1 : decide (0 < l0.length) = false := decide_eq_false (by omega)
      clear c5
      (first | rw [c5b0] | rw [c5b1] | (simp only [i64_w, i32_w]; rw [c5b0]) | skip)
      have H' := zK H
      clear H
      go_wp2
      go_meet
      case rel => exact ⟨_, (0), (by first | rfl | (simp; done) | (simp [*]; done)), H', ⟨by first | omega | exact Nat.le_refl _⟩, ⟨by (with_reducible repeat (first | refine kN ?_ _ | refine kD ?_ | refine kA ?_ _)); exact BK196.out⟩, ⟨by repeat (first | (with_reducible first | exact HB.out | apply bA | apply bN | apply b1 | refine bS ?_ GE196.out) | exact HB.out)⟩⟩
    rw [if_pos c5] at H
    have c5b0 : decide (0 < (l0.length : Int)) = true := decide_eq_true c5
    have c5b1 : decide (0 < l0.length) = true := decide_eq_true (by omega)
    clear c5
    (first | rw [c5b0] | rw [c5b1] | (simp only [i64_w, i32_w]; rw [c5b0]) | skip)
    obtain ⟨ji6, hji6⟩ : ∃ j_ : Int, (wrap64 ((l0.length : Int) - 1)) = j_ := ⟨_, rfl⟩
    replace H : (if 0 ≤ (ji6) then (if (ji6) < (l0.length : Int) then (spec_AddHand.j0 k l0 ((rd_T95 l0 (ji6)).f4) a1_0 a1_1 a1_2 a1_3 a1_4) else (none)) else (none)) = some (r1, r2) := by first | (rw [hji6] at H; exact H) | (simp only [hji6] at H ⊢; exact H)
    have hji6w : (IntKind.i64.wrap ((l0.length : Int) - 1)) = ji6 := (i64_w _).trans hji6
    by_cases c7 : 0 ≤ (ji6)
    rotate_left
    · rw [if_neg c7] at H
      exact absurd H (by simp)
    rw [if_pos c7] at H
    have c7b0 : decide (0 ≤ (ji6)) = true := decide_eq_true c7
    clear c7
    by_cases c8 : (ji6) < (l0.length : Int)
    rotate_left
    · rw [if_neg c8] at H
      exact absurd H (by simp)
    rw [if_pos c8] at H
    have c8b0 : decide ((ji6) < (l0.length : Int)) = true := decide_eq_true c8
    clear c8
    have H' := zK H
    clear H
    have p197 : 0 ≤ ((ji6) : Int) := oD (by first | (with_reducible assumption) | assumption)
    have q197 : (ji6) < (l0.length : Int) := oD (by first | (with_reducible assumption) | assumption)
    obtain ⟨ad197, e197, hx197_0, hx197_1, hx197_2, hx197_3, hx197_4⟩ := at_T95 HR0.out (ji6) p197 q197
    cases e197
    replace hx197_0 := (HB.out.cell (bL w hx197_0)).trans hx197_0
    replace hx197_1 := (HB.out.cell (bL w hx197_1)).trans hx197_1
    replace hx197_2 := (HB.out.cell (bL w hx197_2)).trans hx197_2
    replace hx197_3 := (HB.out.cell (bL w hx197_3)).trans hx197_3
    replace hx197_4 := (HB.out.cell (bL w hx197_4)).trans hx197_4
    replace p197 := eq_true p197
    replace q197 := eq_true q197
    go_wp2
    go_meet
    case rel => exact ⟨_, ((rd_T95 l0 (ji6)).f4), (by first | rfl | (simp; done) | (simp only [← hji6] <;> (first | rfl | simp)) | (simp [*]; done)), H', ⟨by first | omega | exact Nat.le_refl _⟩, ⟨by (with_reducible repeat (first | refine kN ?_ _ | refine kD ?_ | refine kA ?_ _)); exact BK196.out⟩, ⟨by repeat (first | (with_reducible first | exact HB.out | apply bA | apply bN | apply b1 | refine bS ?_ GE196.out) | exact HB.out)⟩⟩
  case rest =>
    clear HC3
    try clear p1
    try clear q1
    try clear hx1
    try clear c2
    try clear p2
    try clear c5
    try clear c5b0
    try clear c5b1
    try clear p6
    try clear c7
    try clear c7b0
    try clear c8
    try clear c8b0
    try clear hx197_0
    try clear hx197_1
    try clear hx197_2
    try clear hx197_3
    try clear hx197_4
    try clear p197
    try clear q197
    obtain ⟨kq, x6_2, rfl, HA, HJ2, BK196, HB⟩ := hcut
    cases kq with
    | zero => exact absurd HA.out (by simp [spec_AddHand.j0])
    | succ kj2 =>
      have H := HA.out
      clear HA
      simp only [spec_AddHand.j0] at H
      replace H := Option.bind_eq_some_iff.mp H
      obtain ⟨t198, A90, H⟩ := H
      replace H : ((some (([] : List (S95)) : List (S95))).bind fun y199 => (if y199.length + l0.length < 3518437208883 then ((some (y199 ++ l0 : List (S95))).bind fun y202 => ((some (([(⟨a1_0, a1_1, a1_2, a1_3, t198⟩ : S95)] : List (S95)) : List (S95))).bind fun y205 => (if y202.length + y205.length < 3518437208883 then ((some (y202 ++ y205 : List (S95))).bind fun y208 => ((spec_IsChain.f kj2 y208).bind fun t211 => (if t211 = true then (some (y208, true)) else ((some (([] : List (S95)) : List (S95))).bind fun y212 => (if y212.length + l0.length < 3518437208883 then (some ((y212 ++ l0), false)) else (none)))))) else (none)))) else (none))) = some (r1, r2) := H
      have A9 := zK A90
      clear A90
      obtain ⟨y199, hy199⟩ : ∃ y_ : List (S95), y_ = (([] : List (S95))) := ⟨_, rfl⟩
      replace H : (if y199.length + l0.length < 3518437208883 then ((some (y199 ++ l0 : List (S95))).bind fun y202 => ((some (([(⟨a1_0, a1_1, a1_2, a1_3, t198⟩ : S95)] : List (S95)) : List (S95))).bind fun y205 => (if y202.length + y205.length < 3518437208883 then ((some (y202 ++ y205 : List (S95))).bind fun y208 => ((spec_IsChain.f kj2 y208).bind fun t211 => (if t211 = true then (some (y208, true)) else ((some (([] : List (S95)) : List (S95))).bind fun y212 => (if y212.length + l0.length < 3518437208883 then (some ((y212 ++ l0), false)) else (none)))))) else (none)))) else (none)) = some (r1, r2) := by first | (rw [hy199]; with_reducible exact H) | (have H2_ := (Option.bind_some _ _).symm.trans H; rw [hy199]; with_reducible exact H2_) | (have H2_ := (Option.bind_some _ _).symm.trans H; with_reducible exact H2_) | with_reducible exact H | (rw [hy199]; exact H) | exact H
      have Ny199 := zK hy199
      clear hy199
      by_cases c10 : y199.length + l0.length < 3518437208883
      rotate_left
      · rw [if_neg c10] at H
        exact absurd H (by simp)

      rw [if_pos c10] at H
      have LMc10 := zK c10
      clear c10
      obtain ⟨y202, hy202⟩ : ∃ y_ : List (S95), y_ = (y199 ++ l0) := ⟨_, rfl⟩
      replace H : ((some (([(⟨a1_0, a1_1, a1_2, a1_3, t198⟩ : S95)] : List (S95)) : List (S95))).bind fun y205 => (if y202.length + y205.length < 3518437208883 then ((some (y202 ++ y205 : List (S95))).bind fun y208 => ((spec_IsChain.f kj2 y208).bind fun t211 => (if t211 = true then (some (y208, true)) else ((some (([] : List (S95)) : List (S95))).bind fun y212 => (if y212.length + l0.length < 3518437208883 then (some ((y212 ++ l0), false)) else (none)))))) else (none))) = some (r1, r2) := by first | (rw [hy202]; with_reducible exact H) | (have H2_ := (Option.bind_some _ _).symm.trans H; rw [hy202]; with_reducible exact H2_) | (have H2_ := (Option.bind_some _ _).symm.trans H; with_reducible exact H2_) | with_reducible exact H | (rw [hy202]; exact H) | exact H
      have Ny202 := zK hy202
      clear hy202
      obtain ⟨y205, hy205⟩ : ∃ y_ : List (S95), y_ = (([(⟨a1_0, a1_1, a1_2, a1_3, t198⟩ : S95)] : List (S95))) := ⟨_, rfl⟩
      replace H : (if y202.length + y205.length < 3518437208883 then ((some (y202 ++ y205 : List (S95))).bind fun y208 => ((spec_IsChain.f kj2 y208).bind fun t211 => (if t211 = true then (some (y208, true)) else ((some (([] : List (S95)) : List (S95))).bind fun y212 => (if y212.length + l0.length < 3518437208883 then (some ((y212 ++ l0), false)) else (none)))))) else (none)) = some (r1, r2) := by first | (rw [hy205]; with_reducible exact H) | (have H2_ := (Option.bind_some _ _).symm.trans H; rw [hy205]; with_reducible exact H2_) | (have H2_ := (Option.bind_some _ _).symm.trans H; with_reducible exact H2_) | with_reducible exact H | (rw [hy205]; exact H) | exact H
      have Ny205 := zK hy205
      clear hy205
      by_cases c11 : y202.length + y205.length < 3518437208883
      rotate_left
      · rw [if_neg c11] at H
        exact absurd H (by simp)
      rw [if_pos c11] at H
      have LMc11 := zK c11
      clear c11
      obtain ⟨y208, hy208⟩ : ∃ y_ : List (S95), y_ = (y202 ++ y205) := ⟨_, rfl⟩
      replace H : ((spec_IsChain.f kj2 y208).bind fun t211 => (if t211 = true then (some (y208, true)) else ((some (([] : List (S95)) : List (S95))).bind fun y212 => (if y212.length + l0.length < 3518437208883 then (some ((y212 ++ l0), false)) else (none))))) = some (r1, r2) := by first | (rw [hy208]; with_reducible exact H) | (have H2_ := (Option.bind_some _ _).symm.trans H; rw [hy208]; with_reducible exact H2_) | (have H2_ := (Option.bind_some _ _).symm.trans H; with_reducible exact H2_) | with_reducible exact H | (rw [hy208]; exact H) | exact H
      have Ny208 := zK hy208
      clear hy208
      replace H := Option.bind_eq_some_iff.mp H
      obtain ⟨t211, A120, H⟩ := H
      replace H : (if t211 = true then (some (y208, true)) else ((some (([] : List (S95)) : List (S95))).bind fun y212 => (if y212.length + l0.length < 3518437208883 then (some ((y212 ++ l0), false)) else (none)))) = some (r1, r2) := H
      have A12 := zK A120
      clear A120
      by_cases c13 : t211 = true
      · subst c13
        have H1 : (some (y208, true)) = some (r1, r2) := by rw [if_pos rfl] at H; exact H
        clear H
        have H := H1
        clear H1
        simp only [Option.some.injEq, Prod.mk.injEq] at H
        obtain ⟨rfl, rfl⟩ := H
        have hcz14_0 : wc.cell? ⟨gb196, 0, none⟩ = some (.int .i64 a1_0) := (bc BK196.out 0).trans rfl
        have hcz14_1 : wc.cell? ⟨gb196, 1, none⟩ = some (.int .i64 a1_1) := (bc BK196.out 1).trans rfl
        have hcz14_2 : wc.cell? ⟨gb196, 2, none⟩ = some (.int .i64 a1_2) := (bc BK196.out 2).trans rfl
        have hcz14_3 : wc.cell? ⟨gb196, 3, none⟩ = some (.int .i64 a1_3) := (bc BK196.out 3).trans rfl
        have hcz14_4 : wc.cell? ⟨gb196, 4, none⟩ = some (.int .i64 a1_4) := (bc BK196.out 4).trans rfl
        have hfz14_0 := bf BK196.out 0
        have hfz14_1 := bf BK196.out 1
        have hfz14_2 := bf BK196.out 2
        have hfz14_3 := bf BK196.out 3
        have hfz14_4 := bf BK196.out 4
        try go_wp2_with (first | ((with_reducible refine gate_callee (f := 157) rfl ?_); refine goesL_ (some 20) rfl rfl Try.func157 (by kernel_rfl) rfl #[.int .i64 x6_2, .agg #[.int .i64 a1_0, .int .i64 a1_1, .int .i64 a1_2, .int .i64 a1_3, .int .i64 a1_4]] rfl (by (try simp only [List.map_toArray, List.map_cons, List.map_nil]); first | done | rfl | (simp only [List.length_drop, List.length_take]; rfl)) ?_; (with_reducible refine (spec_HandSeal.calls kj2 x6_2 a1_0 a1_1 a1_2 a1_3 a1_4 t198 _ A9.out).mono ?_); rintro e w15 ⟨rfl, hb⟩; refine ⟨_, rfl, ?_⟩; have n0_ := zK (bB (g := gb196) (o := .cells #[.int .i64 a1_0, .int .i64 a1_1, .int .i64 a1_2, .int .i64 a1_3, .int .i64 a1_4] 95 (0, 0)) (by (with_reducible repeat (first | refine kN ?_ _ | refine kD ?_ | refine kA ?_ _)); exact BK196.out) hb); have n1_ := zK (bT (by repeat (first | (with_reducible first | exact HB.out | apply bA | apply bN | apply b1 | refine bS ?_ GE196.out) | exact HB.out)) hb); clear BK196; clear HB; have BK196 := n0_; have HB := n1_; clear n0_ n1_; (try clear hb); (try clear hb2); (try clear hk); (try clear hi); have hcz16_0 : w15.cell? ⟨gb196, 0, none⟩ = some (.int .i64 a1_0) := (bc BK196.out 0).trans rfl; have hcz16_1 : w15.cell? ⟨gb196, 1, none⟩ = some (.int .i64 a1_1) := (bc BK196.out 1).trans rfl; have hcz16_2 : w15.cell? ⟨gb196, 2, none⟩ = some (.int .i64 a1_2) := (bc BK196.out 2).trans rfl; have hcz16_3 : w15.cell? ⟨gb196, 3, none⟩ = some (.int .i64 a1_3) := (bc BK196.out 3).trans rfl; have hcz16_4 : w15.cell? ⟨gb196, 4, none⟩ = some (.int .i64 a1_4) := (bc BK196.out 4).trans rfl; have hfz16_0 := bf BK196.out 0; have hfz16_1 := bf BK196.out 1; have hfz16_2 := bf BK196.out 2; have hfz16_3 := bf BK196.out 3; have hfz16_4 := bf BK196.out 4))
        have n0_ : Aside0 ((w15.setCell ⟨gb196, 4, none⟩ (.int .i64 t198)).heap[gb196]? = some (.cells #[.int .i64 a1_0, .int .i64 a1_1, .int .i64 a1_2, .int .i64 a1_3, .int .i64 t198] 95 (0, 0))) := ⟨by (with_reducible repeat (first | refine kN ?_ _ | refine kD ?_ | refine kA ?_ _)); refine blk_put (cs := #[.int .i64 a1_0, .int .i64 a1_1, .int .i64 a1_2, .int .i64 a1_3, .int .i64 a1_4]) ?_ 4 _ rfl; (with_reducible repeat (first | refine kN ?_ _ | refine kD ?_ | refine kA ?_ _)); exact BK196.out⟩
        have n1_ : Aside0 (Below w.heap.size w (w15.setCell ⟨gb196, 4, none⟩ (.int .i64 t198))) := ⟨by repeat (first | (with_reducible first | exact HB.out | apply bA | apply bN | apply b1 | refine bS ?_ GE196.out) | exact HB.out)⟩
        (try clear BK196)
        (try clear HB)
        generalize (w15.setCell ⟨gb196, 4, none⟩ (.int .i64 t198)) = w17 at n0_ n1_ ⊢
        have BK196 := n0_
        have HB := n1_
        clear n0_ n1_
        have n0_ := zK (kD BK196.out)
        have n1_ := zK (b1 HB.out)
        clear BK196
        clear HB
        have BK196 := n0_
        have HB := n1_
        clear n0_ n1_
        refine start_ (n := 7) (S := fun w' => w'.cell? ⟨gb196, 0, none⟩ = some (.int .i64 a1_0) ∧ w'.cell? ⟨gb196, 1, none⟩ = some (.int .i64 a1_1) ∧ w'.cell? ⟨gb196, 2, none⟩ = some (.int .i64 a1_2) ∧ w'.cell? ⟨gb196, 3, none⟩ = some (.int .i64 a1_3) ∧ w'.cell? ⟨gb196, 4, none⟩ = some (.int .i64 t198)) (ds := []) b6A0 (by kernel_rfl) rfl rfl ⟨(bc BK196.out 0).trans rfl, (bc BK196.out 1).trans rfl, (bc BK196.out 2).trans rfl, (bc BK196.out 3).trans rfl, (bc BK196.out 4).trans rfl⟩ (fun hHeld => ?_)
        generalize w17.drew = w18 at BK196 HB hHeld ⊢
        refine pure_ (i := 1) (N := some 23) (v := ?_) (a' := ?_) b6A1 rfl rfl (by kernel_rfl) (fun _ _ _ h => h) (Or.inl ⟨by rfl, ?_⟩) ?_ ?_
        rotate_left
        · intro w'
          go_simp
          with_reducible rfl
        rotate_left
        · simp only [Act.put, sA, sZ, sS, i64_w, i32_w]
          rfl
        refine take_ (i := 3) (N := some 25) (v := ?_) (a' := ?_) b6A2 rfl rfl (by kernel_rfl) (fun _ _ _ h => h) (Or.inl ⟨by rfl, ?_⟩) hHeld ?_ ?_
        rotate_left
        · rintro w' ⟨s0, s1, s2, s3, s4⟩
          go_simp
          with_reducible rfl
        rotate_left
        · simp only [Act.put, sA, sZ, sS, i64_w, i32_w]
          rfl
        refine join_ (σ := Value × Value × Value) 2 b6A3 (fun s_ => [(22, s_.1), (24, s_.2.1), (26, s_.2.2)]) (fun s_ w' => (w'.cell? ⟨gb196, 0, none⟩ = some (.int .i64 a1_0) ∧ w'.cell? ⟨gb196, 1, none⟩ = some (.int .i64 a1_1) ∧ w'.cell? ⟨gb196, 2, none⟩ = some (.int .i64 a1_2) ∧ w'.cell? ⟨gb196, 3, none⟩ = some (.int .i64 a1_3) ∧ w'.cell? ⟨gb196, 4, none⟩ = some (.int .i64 t198)) ∧ (Kd.R k95 95 w' w.heap.size (fun k_ => some k_ ≠ (s_.2.2 : Value).ownBlock ∧ k_ ≠ gb196) s_.2.1 y202) ∧ (Kd.R k95 95 w' w.heap.size (fun k_ => some k_ ≠ (s_.2.1 : Value).ownBlock ∧ k_ ≠ gb196) s_.2.2 y205) ∧ (w'.heap[gb196]? = some (.cells #[.int .i64 a1_0, .int .i64 a1_1, .int .i64 a1_2, .int .i64 a1_3, .int .i64 t198] 95 (0, 0))) ∧ (Below w.heap.size w w')) ?_ ?_
        rotate_left
        · intro hCont
          refine two_ (i := 0) (j := 4) (Ni := some 22) (Nj := some 26) b6A4 b6A5 rfl rfl rfl rfl (by kernel_rfl) (by decide) (by decide) (fun K hK => ?_) (fun K hK => ?_)
          rotate_left
          · skip
            refine Kd.R_lit_step k95 _ 95 ?hg (N := 26) ?hd (xs := ([(⟨a1_0, a1_1, a1_2, a1_3, t198⟩ : S95)] : List (S95))) (inner := [.int .i64 a1_0, .int .i64 a1_1, .int .i64 a1_2, .int .i64 a1_3, .int .i64 t198]) (ok := fun _ => True) (okp := fun _ => True) ?hr ?hp (fun _ hk => hk) trivial (Below.refl _ _) (Nat.le_refl _) (by simp) ?_; (case hd => rfl); (case hg => rfl); (case hr => first | (go_simp; done) | (go_simp; rfl)); (case hp => exact (Reps.c5 (show Kd.M k95 _ _ _ (⟨a1_0, a1_1, a1_2, a1_3, t198⟩ : S95) [.int .i64 a1_0, .int .i64 a1_1, .int .i64 a1_2, .int .i64 a1_3, .int .i64 t198] from (k95_mkM _ _ _ (⟨a1_0, a1_1, a1_2, a1_3, t198⟩ : S95) )) (Reps.none _ _)))
            intro v206 w19 ho20 hb hg_ hnew_
            clear hg_ hnew_
            (first | rw [← Ny205.out] at ho20 | (simp only [Int.reduceToNat] at ho20; rw [← Ny205.out] at ho20))
            have n0_ := zK (Kd.R_lower (Kd.R_newB ho20 (g := gb196) (o := .cells #[.int .i64 a1_0, .int .i64 a1_1, .int .i64 a1_2, .int .i64 a1_3, .int .i64 t198] 95 (0, 0)) (by (with_reducible repeat (first | refine kN ?_ _ | refine kD ?_ | refine kA ?_ _)); exact BK196.out)) (bZ (by repeat (first | (with_reducible first | exact HB.out | apply bA | apply bN | apply b1 | refine bS ?_ GE196.out) | exact HB.out))))
            have n1_ := zK (bB (g := gb196) (o := .cells #[.int .i64 a1_0, .int .i64 a1_1, .int .i64 a1_2, .int .i64 a1_3, .int .i64 t198] 95 (0, 0)) (by (with_reducible repeat (first | refine kN ?_ _ | refine kD ?_ | refine kA ?_ _)); exact BK196.out) hb)
            have n2_ := zK (bT (by repeat (first | (with_reducible first | exact HB.out | apply bA | apply bN | apply b1 | refine bS ?_ GE196.out) | exact HB.out)) hb)
            clear BK196
            clear HB
            have HO207 := n0_
            have BK196 := n1_
            have HB := n2_
            clear n0_ n1_ n2_
            clear hb ho20
            refine hK.out _ _ ⟨(bc BK196.out 0).trans rfl, (bc BK196.out 1).trans rfl, (bc BK196.out 2).trans rfl, (bc BK196.out 3).trans rfl, (bc BK196.out 4).trans rfl⟩ (fun hHeld => ?_)
            clear hK K
            refine norm_ (a' := ?_) ?_ ?_
            rotate_left
            · show Act.put _ (some 26) _ = _
              simp only [Act.put, sA, sZ, sS, i64_w, i32_w]
              rfl
            refine one_ (i := 0) (N := some 22) b6A7 rfl rfl (by kernel_rfl) (by decide) (fun K hK => ?_)
            refine Kd.R_lit_step k95 _ 95 ?hg (N := 22) ?hd (xs := ([] : List (S95))) (inner := []) (ok := fun _ => True) (okp := fun _ => True) ?hr ?hp (fun _ hk => hk) trivial (Below.refl _ _) (Nat.le_refl _) (by simp) ?_; (case hd => rfl); (case hg => rfl); (case hr => first | (go_simp; done) | (go_simp; rfl)); (case hp => exact (Reps.none _ _))
            intro v200 w21 ho22 hb hg_ hnew_
            clear hg_ hnew_
            (first | rw [← Ny199.out] at ho22 | (simp only [Int.reduceToNat] at ho22; rw [← Ny199.out] at ho22))
            have n0_ := zK (Kd.R_elder' (by (with_reducible repeat (first | apply Kd.RA | apply Kd.RN | apply Kd.RD)); exact HO207.out) (Kd.R_base ho22) hb)
            have n1_ := zK (Kd.R_lower (Kd.R_newB (Kd.R_new' ho22 (Kd.R_lt (by (with_reducible repeat (first | apply Kd.RA | apply Kd.RN | apply Kd.RD)); exact HO207.out))) (g := gb196) (o := .cells #[.int .i64 a1_0, .int .i64 a1_1, .int .i64 a1_2, .int .i64 a1_3, .int .i64 t198] 95 (0, 0)) (by (with_reducible repeat (first | refine kN ?_ _ | refine kD ?_ | refine kA ?_ _)); exact BK196.out)) (bZ (by repeat (first | (with_reducible first | exact HB.out | apply bA | apply bN | apply b1 | refine bS ?_ GE196.out) | exact HB.out))))
            have n2_ := zK (bB (g := gb196) (o := .cells #[.int .i64 a1_0, .int .i64 a1_1, .int .i64 a1_2, .int .i64 a1_3, .int .i64 t198] 95 (0, 0)) (by (with_reducible repeat (first | refine kN ?_ _ | refine kD ?_ | refine kA ?_ _)); exact BK196.out) hb)
            have n3_ := zK (bT (by repeat (first | (with_reducible first | exact HB.out | apply bA | apply bN | apply b1 | refine bS ?_ GE196.out) | exact HB.out)) hb)
            clear HO207
            clear BK196
            clear HB
            have HO207 := n0_
            have HO201 := n1_
            have BK196 := n2_
            have HB := n3_
            clear n0_ n1_ n2_ n3_
            clear hb ho22
            refine hK.out _ _ ⟨(bc BK196.out 0).trans rfl, (bc BK196.out 1).trans rfl, (bc BK196.out 2).trans rfl, (bc BK196.out 3).trans rfl, (bc BK196.out 4).trans rfl⟩ (fun hHeld => ?_)
            clear hK K
            refine norm_ (a' := ?_) ?_ ?_
            rotate_left
            · show Act.put _ (some 22) _ = _
              simp only [Act.put, sA, sZ, sS, i64_w, i32_w]
              rfl
            refine one_ (i := 2) (N := some 24) b6A3 rfl rfl (by kernel_rfl) (by decide) (fun K hK => ?_)
            refine Kd.R_append_rows_step k95 (w0 := w) w.heap.size (by rfl) (.tmp 22) (.tmp 23) 68 95 (.agg #[(.int .i64 0), (.int .i64 0), (.int .i64 0), (.int .i64 0), (.int .i64 0)]) 40 rfl Try.underlying68 info95 rfl (by decide) (by omega) v200 y199 l0 _ _ _ (fun k_ => some k_ ≠ (v206 : Value).ownBlock ∧ k_ ≠ gb196) (fun _ => False) rfl rfl ?aO ?aR (fun _ _ h => h) (fun _ h => h.elim) ?aF ?aB ?aS ?aL ?_
            (case aR => repeat (first | exact (Kd.C_below HR0.out HB.out) | (with_reducible refine Kd.CA ?_ _) | (with_reducible refine Kd.CN ?_ _) | (with_reducible refine Kd.CD ?_)))
            (case aB => exact (by repeat (first | (with_reducible first | exact HB.out | apply bA | apply bN | apply b1 | refine bS ?_ GE196.out) | exact HB.out)))
            (case aF => exact (fun k_ hk => ⟨Kd.fresh' (Kd.R_lt (by (with_reducible repeat (first | apply Kd.RA | apply Kd.RN | apply Kd.RD)); exact HO207.out)) k_ hk, Kd.freshB (g := gb196) (o := .cells #[.int .i64 a1_0, .int .i64 a1_1, .int .i64 a1_2, .int .i64 a1_3, .int .i64 t198] 95 (0, 0)) (by (with_reducible repeat (first | refine kN ?_ _ | refine kD ?_ | refine kA ?_ _)); exact BK196.out) k_ hk⟩))
            (case aO => exact (by (with_reducible repeat (first | apply Kd.RA | apply Kd.RN | apply Kd.RD)); exact Kd.R_mono HO201.out (fun _ hk => ⟨hk.1.2, hk.2⟩)))
            (case aS => exact (bZ (by repeat (first | (with_reducible first | exact HB.out | apply bA | apply bN | apply b1 | refine bS ?_ GE196.out) | exact HB.out))))
            (case aL => have := LMc10.out; omega)
            intro v203 w23 ho hb hg hat
            rw [← Ny202.out] at ho
            have n0_ := zK (blk_grown (g := gb196) (o := .cells #[.int .i64 a1_0, .int .i64 a1_1, .int .i64 a1_2, .int .i64 a1_3, .int .i64 t198] 95 (0, 0)) (by (with_reducible repeat (first | refine kN ?_ _ | refine kD ?_ | refine kA ?_ _)); exact BK196.out) hg (Kd.R_away HO201.out (fun _ hk => hk.2)))
            have n1_ := zK (Kd.R_after (ok := (fun k_ => k_ ≠ gb196)) (by (with_reducible repeat (first | apply Kd.RA | apply Kd.RN | apply Kd.RD)); exact Kd.R_mono HO207.out (fun _ hk => ⟨hk.1.2, hk.2⟩)) hg hat)
            have n2_ := zK (hb)
            have n3_ := zK (ho)
            clear BK196
            clear HO207
            clear HB
            clear HO201
            have BK196 := n0_
            have HO207 := n1_
            have HB := n2_
            have HO204 := n3_
            clear n0_ n1_ n2_ n3_
            clear ho hb hg hat
            refine hK.out _ _ ⟨(bc BK196.out 0).trans rfl, (bc BK196.out 1).trans rfl, (bc BK196.out 2).trans rfl, (bc BK196.out 3).trans rfl, (bc BK196.out 4).trans rfl⟩ (fun hHeld => ?_)
            clear hK K
            refine norm_ (a' := ?_) ?_ ?_
            rotate_left
            · show Act.put _ (some 24) _ = _
              simp only [Act.put, sA, sZ, sS, i64_w, i32_w]
              rfl
            exact norm_ (by simp only [putAll, Act.put, sA, sZ, sS]) (hCont (v200, v203, v206) _ ⟨hHeld, (by (with_reducible repeat (first | apply Kd.RA | apply Kd.RN | apply Kd.RD)); exact HO204.out), (by (with_reducible repeat (first | apply Kd.RA | apply Kd.RN | apply Kd.RD)); exact Kd.R_mono HO207.out (fun _ hk => ⟨hk.2, hk.1⟩)), (by (with_reducible repeat (first | refine kN ?_ _ | refine kD ?_ | refine kA ?_ _)); exact BK196.out), (by repeat (first | (with_reducible first | exact HB.out | apply bA | apply bN | apply b1 | refine bS ?_ GE196.out) | exact HB.out))⟩)
          skip
          refine Kd.R_lit_step k95 _ 95 ?hg (N := 22) ?hd (xs := ([] : List (S95))) (inner := []) (ok := fun _ => True) (okp := fun _ => True) ?hr ?hp (fun _ hk => hk) trivial (Below.refl _ _) (Nat.le_refl _) (by simp) ?_; (case hd => rfl); (case hg => rfl); (case hr => first | (go_simp; done) | (go_simp; rfl)); (case hp => exact (Reps.none _ _))
          intro v200 w19 ho20 hb hg_ hnew_
          clear hg_ hnew_
          (first | rw [← Ny199.out] at ho20 | (simp only [Int.reduceToNat] at ho20; rw [← Ny199.out] at ho20))
          have n0_ := zK (Kd.R_lower (Kd.R_newB ho20 (g := gb196) (o := .cells #[.int .i64 a1_0, .int .i64 a1_1, .int .i64 a1_2, .int .i64 a1_3, .int .i64 t198] 95 (0, 0)) (by (with_reducible repeat (first | refine kN ?_ _ | refine kD ?_ | refine kA ?_ _)); exact BK196.out)) (bZ (by repeat (first | (with_reducible first | exact HB.out | apply bA | apply bN | apply b1 | refine bS ?_ GE196.out) | exact HB.out))))
          have n1_ := zK (bB (g := gb196) (o := .cells #[.int .i64 a1_0, .int .i64 a1_1, .int .i64 a1_2, .int .i64 a1_3, .int .i64 t198] 95 (0, 0)) (by (with_reducible repeat (first | refine kN ?_ _ | refine kD ?_ | refine kA ?_ _)); exact BK196.out) hb)
          have n2_ := zK (bT (by repeat (first | (with_reducible first | exact HB.out | apply bA | apply bN | apply b1 | refine bS ?_ GE196.out) | exact HB.out)) hb)
          clear BK196
          clear HB
          have HO201 := n0_
          have BK196 := n1_
          have HB := n2_
          clear n0_ n1_ n2_
          clear hb ho20
          refine hK.out _ _ ⟨(bc BK196.out 0).trans rfl, (bc BK196.out 1).trans rfl, (bc BK196.out 2).trans rfl, (bc BK196.out 3).trans rfl, (bc BK196.out 4).trans rfl⟩ (fun hHeld => ?_)
          clear hK K
          refine norm_ (a' := ?_) ?_ ?_
          rotate_left
          · show Act.put _ (some 22) _ = _
            simp only [Act.put, sA, sZ, sS, i64_w, i32_w]
            rfl
          refine two_ (i := 2) (j := 4) (Ni := some 24) (Nj := some 26) b6A6 b6A7 rfl rfl rfl rfl (by kernel_rfl) (by decide) (by decide) (fun K hK => ?_) (fun K hK => ?_)
          · skip
            refine Kd.R_append_rows_step k95 (w0 := w) w.heap.size (by rfl) (.tmp 22) (.tmp 23) 68 95 (.agg #[(.int .i64 0), (.int .i64 0), (.int .i64 0), (.int .i64 0), (.int .i64 0)]) 40 rfl Try.underlying68 info95 rfl (by decide) (by omega) v200 y199 l0 _ _ _ (fun k_ => k_ ≠ gb196) (fun _ => False) rfl rfl ?aO ?aR (fun _ _ h => h) (fun _ h => h.elim) ?aF ?aB ?aS ?aL ?_
            (case aR => repeat (first | exact (Kd.C_below HR0.out HB.out) | (with_reducible refine Kd.CA ?_ _) | (with_reducible refine Kd.CN ?_ _) | (with_reducible refine Kd.CD ?_)))
            (case aB => exact (by repeat (first | (with_reducible first | exact HB.out | apply bA | apply bN | apply b1 | refine bS ?_ GE196.out) | exact HB.out)))
            (case aF => exact (fun k_ hk => Kd.freshB (g := gb196) (o := .cells #[.int .i64 a1_0, .int .i64 a1_1, .int .i64 a1_2, .int .i64 a1_3, .int .i64 t198] 95 (0, 0)) (by (with_reducible repeat (first | refine kN ?_ _ | refine kD ?_ | refine kA ?_ _)); exact BK196.out) k_ hk))
            (case aO => exact (by (with_reducible repeat (first | apply Kd.RA | apply Kd.RN | apply Kd.RD)); exact Kd.R_mono HO201.out (fun _ hk => hk.2)))
            (case aS => exact (bZ (by repeat (first | (with_reducible first | exact HB.out | apply bA | apply bN | apply b1 | refine bS ?_ GE196.out) | exact HB.out))))
            (case aL => have := LMc10.out; omega)
            intro v203 w21 ho hb hg hat
            rw [← Ny202.out] at ho
            have n0_ := zK (blk_grown (g := gb196) (o := .cells #[.int .i64 a1_0, .int .i64 a1_1, .int .i64 a1_2, .int .i64 a1_3, .int .i64 t198] 95 (0, 0)) (by (with_reducible repeat (first | refine kN ?_ _ | refine kD ?_ | refine kA ?_ _)); exact BK196.out) hg (Kd.R_away HO201.out (fun _ hk => hk.2)))
            have n1_ := zK (hb)
            have n2_ := zK (ho)
            clear BK196
            clear HB
            clear HO201
            have BK196 := n0_
            have HB := n1_
            have HO204 := n2_
            clear n0_ n1_ n2_
            clear ho hb hg hat
            refine hK.out _ _ ⟨(bc BK196.out 0).trans rfl, (bc BK196.out 1).trans rfl, (bc BK196.out 2).trans rfl, (bc BK196.out 3).trans rfl, (bc BK196.out 4).trans rfl⟩ (fun hHeld => ?_)
            clear hK K
            refine norm_ (a' := ?_) ?_ ?_
            rotate_left
            · show Act.put _ (some 24) _ = _
              simp only [Act.put, sA, sZ, sS, i64_w, i32_w]
              rfl
            refine one_ (i := 4) (N := some 26) b6A3 rfl rfl (by kernel_rfl) (by decide) (fun K hK => ?_)
            refine Kd.R_lit_step k95 _ 95 ?hg (N := 26) ?hd (xs := ([(⟨a1_0, a1_1, a1_2, a1_3, t198⟩ : S95)] : List (S95))) (inner := [.int .i64 a1_0, .int .i64 a1_1, .int .i64 a1_2, .int .i64 a1_3, .int .i64 t198]) (ok := fun _ => True) (okp := fun _ => True) ?hr ?hp (fun _ hk => hk) trivial (Below.refl _ _) (Nat.le_refl _) (by simp) ?_; (case hd => rfl); (case hg => rfl); (case hr => first | (go_simp; done) | (go_simp; rfl)); (case hp => exact (Reps.c5 (show Kd.M k95 _ _ _ (⟨a1_0, a1_1, a1_2, a1_3, t198⟩ : S95) [.int .i64 a1_0, .int .i64 a1_1, .int .i64 a1_2, .int .i64 a1_3, .int .i64 t198] from (k95_mkM _ _ _ (⟨a1_0, a1_1, a1_2, a1_3, t198⟩ : S95) )) (Reps.none _ _)))
            intro v206 w22 ho23 hb hg_ hnew_
            clear hg_ hnew_
            (first | rw [← Ny205.out] at ho23 | (simp only [Int.reduceToNat] at ho23; rw [← Ny205.out] at ho23))
            have n0_ := zK (Kd.R_elder' (by (with_reducible repeat (first | apply Kd.RA | apply Kd.RN | apply Kd.RD)); exact HO204.out) (Kd.R_base ho23) hb)
            have n1_ := zK (Kd.R_lower (Kd.R_newB (Kd.R_new' ho23 (Kd.R_lt (by (with_reducible repeat (first | apply Kd.RA | apply Kd.RN | apply Kd.RD)); exact HO204.out))) (g := gb196) (o := .cells #[.int .i64 a1_0, .int .i64 a1_1, .int .i64 a1_2, .int .i64 a1_3, .int .i64 t198] 95 (0, 0)) (by (with_reducible repeat (first | refine kN ?_ _ | refine kD ?_ | refine kA ?_ _)); exact BK196.out)) (bZ (by repeat (first | (with_reducible first | exact HB.out | apply bA | apply bN | apply b1 | refine bS ?_ GE196.out) | exact HB.out))))
            have n2_ := zK (bB (g := gb196) (o := .cells #[.int .i64 a1_0, .int .i64 a1_1, .int .i64 a1_2, .int .i64 a1_3, .int .i64 t198] 95 (0, 0)) (by (with_reducible repeat (first | refine kN ?_ _ | refine kD ?_ | refine kA ?_ _)); exact BK196.out) hb)
            have n3_ := zK (bT (by repeat (first | (with_reducible first | exact HB.out | apply bA | apply bN | apply b1 | refine bS ?_ GE196.out) | exact HB.out)) hb)
            clear HO204
            clear BK196
            clear HB
            have HO204 := n0_
            have HO207 := n1_
            have BK196 := n2_
            have HB := n3_
            clear n0_ n1_ n2_ n3_
            clear hb ho23
            refine hK.out _ _ ⟨(bc BK196.out 0).trans rfl, (bc BK196.out 1).trans rfl, (bc BK196.out 2).trans rfl, (bc BK196.out 3).trans rfl, (bc BK196.out 4).trans rfl⟩ (fun hHeld => ?_)
            clear hK K
            refine norm_ (a' := ?_) ?_ ?_
            rotate_left
            · show Act.put _ (some 26) _ = _
              simp only [Act.put, sA, sZ, sS, i64_w, i32_w]
              rfl
            exact norm_ (by simp only [putAll, Act.put, sA, sZ, sS]) (hCont (v200, v203, v206) _ ⟨hHeld, (by (with_reducible repeat (first | apply Kd.RA | apply Kd.RN | apply Kd.RD)); exact Kd.R_mono HO204.out (fun _ hk => ⟨hk.2, hk.1⟩)), (by (with_reducible repeat (first | apply Kd.RA | apply Kd.RN | apply Kd.RD)); exact Kd.R_mono HO207.out (fun _ hk => ⟨hk.1.2, hk.2⟩)), (by (with_reducible repeat (first | refine kN ?_ _ | refine kD ?_ | refine kA ?_ _)); exact BK196.out), (by repeat (first | (with_reducible first | exact HB.out | apply bA | apply bN | apply b1 | refine bS ?_ GE196.out) | exact HB.out))⟩)
          skip
          refine Kd.R_lit_step k95 _ 95 ?hg (N := 26) ?hd (xs := ([(⟨a1_0, a1_1, a1_2, a1_3, t198⟩ : S95)] : List (S95))) (inner := [.int .i64 a1_0, .int .i64 a1_1, .int .i64 a1_2, .int .i64 a1_3, .int .i64 t198]) (ok := fun _ => True) (okp := fun _ => True) ?hr ?hp (fun _ hk => hk) trivial (Below.refl _ _) (Nat.le_refl _) (by simp) ?_; (case hd => rfl); (case hg => rfl); (case hr => first | (go_simp; done) | (go_simp; rfl)); (case hp => exact (Reps.c5 (show Kd.M k95 _ _ _ (⟨a1_0, a1_1, a1_2, a1_3, t198⟩ : S95) [.int .i64 a1_0, .int .i64 a1_1, .int .i64 a1_2, .int .i64 a1_3, .int .i64 t198] from (k95_mkM _ _ _ (⟨a1_0, a1_1, a1_2, a1_3, t198⟩ : S95) )) (Reps.none _ _)))
          intro v206 w21 ho22 hb hg_ hnew_
          clear hg_ hnew_
          (first | rw [← Ny205.out] at ho22 | (simp only [Int.reduceToNat] at ho22; rw [← Ny205.out] at ho22))
          have n0_ := zK (Kd.R_elder' (by (with_reducible repeat (first | apply Kd.RA | apply Kd.RN | apply Kd.RD)); exact HO201.out) (Kd.R_base ho22) hb)
          have n1_ := zK (Kd.R_lower (Kd.R_newB (Kd.R_new' ho22 (Kd.R_lt (by (with_reducible repeat (first | apply Kd.RA | apply Kd.RN | apply Kd.RD)); exact HO201.out))) (g := gb196) (o := .cells #[.int .i64 a1_0, .int .i64 a1_1, .int .i64 a1_2, .int .i64 a1_3, .int .i64 t198] 95 (0, 0)) (by (with_reducible repeat (first | refine kN ?_ _ | refine kD ?_ | refine kA ?_ _)); exact BK196.out)) (bZ (by repeat (first | (with_reducible first | exact HB.out | apply bA | apply bN | apply b1 | refine bS ?_ GE196.out) | exact HB.out))))
          have n2_ := zK (bB (g := gb196) (o := .cells #[.int .i64 a1_0, .int .i64 a1_1, .int .i64 a1_2, .int .i64 a1_3, .int .i64 t198] 95 (0, 0)) (by (with_reducible repeat (first | refine kN ?_ _ | refine kD ?_ | refine kA ?_ _)); exact BK196.out) hb)
          have n3_ := zK (bT (by repeat (first | (with_reducible first | exact HB.out | apply bA | apply bN | apply b1 | refine bS ?_ GE196.out) | exact HB.out)) hb)
          clear HO201
          clear BK196
          clear HB
          have HO201 := n0_
          have HO207 := n1_
          have BK196 := n2_
          have HB := n3_
          clear n0_ n1_ n2_ n3_
          clear hb ho22
          refine hK.out _ _ ⟨(bc BK196.out 0).trans rfl, (bc BK196.out 1).trans rfl, (bc BK196.out 2).trans rfl, (bc BK196.out 3).trans rfl, (bc BK196.out 4).trans rfl⟩ (fun hHeld => ?_)
          clear hK K
          refine norm_ (a' := ?_) ?_ ?_
          rotate_left
          · show Act.put _ (some 26) _ = _
            simp only [Act.put, sA, sZ, sS, i64_w, i32_w]
            rfl
          refine one_ (i := 2) (N := some 24) b6A3 rfl rfl (by kernel_rfl) (by decide) (fun K hK => ?_)
          refine Kd.R_append_rows_step k95 (w0 := w) w.heap.size (by rfl) (.tmp 22) (.tmp 23) 68 95 (.agg #[(.int .i64 0), (.int .i64 0), (.int .i64 0), (.int .i64 0), (.int .i64 0)]) 40 rfl Try.underlying68 info95 rfl (by decide) (by omega) v200 y199 l0 _ _ _ (fun k_ => some k_ ≠ (v206 : Value).ownBlock ∧ k_ ≠ gb196) (fun _ => False) rfl rfl ?aO ?aR (fun _ _ h => h) (fun _ h => h.elim) ?aF ?aB ?aS ?aL ?_
          (case aR => repeat (first | exact (Kd.C_below HR0.out HB.out) | (with_reducible refine Kd.CA ?_ _) | (with_reducible refine Kd.CN ?_ _) | (with_reducible refine Kd.CD ?_)))
          (case aB => exact (by repeat (first | (with_reducible first | exact HB.out | apply bA | apply bN | apply b1 | refine bS ?_ GE196.out) | exact HB.out)))
          (case aF => exact (fun k_ hk => ⟨Kd.fresh' (Kd.R_lt (by (with_reducible repeat (first | apply Kd.RA | apply Kd.RN | apply Kd.RD)); exact HO207.out)) k_ hk, Kd.freshB (g := gb196) (o := .cells #[.int .i64 a1_0, .int .i64 a1_1, .int .i64 a1_2, .int .i64 a1_3, .int .i64 t198] 95 (0, 0)) (by (with_reducible repeat (first | refine kN ?_ _ | refine kD ?_ | refine kA ?_ _)); exact BK196.out) k_ hk⟩))
          (case aO => exact (by (with_reducible repeat (first | apply Kd.RA | apply Kd.RN | apply Kd.RD)); exact Kd.R_mono HO201.out (fun _ hk => ⟨hk.2, hk.1.2⟩)))
          (case aS => exact (bZ (by repeat (first | (with_reducible first | exact HB.out | apply bA | apply bN | apply b1 | refine bS ?_ GE196.out) | exact HB.out))))
          (case aL => have := LMc10.out; omega)
          intro v203 w23 ho hb hg hat
          rw [← Ny202.out] at ho
          have n0_ := zK (blk_grown (g := gb196) (o := .cells #[.int .i64 a1_0, .int .i64 a1_1, .int .i64 a1_2, .int .i64 a1_3, .int .i64 t198] 95 (0, 0)) (by (with_reducible repeat (first | refine kN ?_ _ | refine kD ?_ | refine kA ?_ _)); exact BK196.out) hg (Kd.R_away HO201.out (fun _ hk => hk.1.2)))
          have n1_ := zK (Kd.R_after (ok := (fun k_ => k_ ≠ gb196)) (by (with_reducible repeat (first | apply Kd.RA | apply Kd.RN | apply Kd.RD)); exact Kd.R_mono HO207.out (fun _ hk => ⟨hk.2, hk.1.2⟩)) hg hat)
          have n2_ := zK (hb)
          have n3_ := zK (ho)
          clear BK196
          clear HO207
          clear HB
          clear HO201
          have BK196 := n0_
          have HO207 := n1_
          have HB := n2_
          have HO204 := n3_
          clear n0_ n1_ n2_ n3_
          clear ho hb hg hat
          refine hK.out _ _ ⟨(bc BK196.out 0).trans rfl, (bc BK196.out 1).trans rfl, (bc BK196.out 2).trans rfl, (bc BK196.out 3).trans rfl, (bc BK196.out 4).trans rfl⟩ (fun hHeld => ?_)
          clear hK K
          refine norm_ (a' := ?_) ?_ ?_
          rotate_left
          · show Act.put _ (some 24) _ = _
            simp only [Act.put, sA, sZ, sS, i64_w, i32_w]
            rfl
          exact norm_ (by simp only [putAll, Act.put, sA, sZ, sS]) (hCont (v200, v203, v206) _ ⟨hHeld, (by (with_reducible repeat (first | apply Kd.RA | apply Kd.RN | apply Kd.RD)); exact HO204.out), (by (with_reducible repeat (first | apply Kd.RA | apply Kd.RN | apply Kd.RD)); exact Kd.R_mono HO207.out (fun _ hk => ⟨hk.2, hk.1⟩)), (by (with_reducible repeat (first | refine kN ?_ _ | refine kD ?_ | refine kA ?_ _)); exact BK196.out), (by repeat (first | (with_reducible first | exact HB.out | apply bA | apply bN | apply b1 | refine bS ?_ GE196.out) | exact HB.out))⟩)
        rintro ⟨v200, v203, v206⟩ w24 ⟨hS_, h0_, h1_, h2_, h3_⟩
        have n0_ : Aside0 (Kd.R k95 95 w24 w.heap.size (fun k_ => some k_ ≠ (v206 : Value).ownBlock ∧ k_ ≠ gb196) v203 y202) := ⟨h0_⟩
        have n1_ : Aside0 (Kd.R k95 95 w24 w.heap.size (fun k_ => some k_ ≠ (v203 : Value).ownBlock ∧ k_ ≠ gb196) v206 y205) := ⟨h1_⟩
        have n2_ : Aside0 (w24.heap[gb196]? = some (.cells #[.int .i64 a1_0, .int .i64 a1_1, .int .i64 a1_2, .int .i64 a1_3, .int .i64 t198] 95 (0, 0))) := ⟨h2_⟩
        have n3_ : Aside0 (Below w.heap.size w w24) := ⟨h3_⟩
        clear BK196
        clear HB
        clear h0_ h1_ h2_ h3_
        have HO204 := n0_
        have HO207 := n1_
        have BK196 := n2_
        have HB := n3_
        clear n0_ n1_ n2_ n3_
        have hHeld : w24.cell? ⟨gb196, 0, none⟩ = some (.int .i64 a1_0) ∧ w24.cell? ⟨gb196, 1, none⟩ = some (.int .i64 a1_1) ∧ w24.cell? ⟨gb196, 2, none⟩ = some (.int .i64 a1_2) ∧ w24.cell? ⟨gb196, 3, none⟩ = some (.int .i64 a1_3) ∧ w24.cell? ⟨gb196, 4, none⟩ = some (.int .i64 t198) := hS_
        obtain ⟨Ao26, co26, eo26⟩ := Kd.R_slice HO207.out
        (first | subst eo26 | (injection eo26 with f1_ f2_ f3_; have f4_ := f1_.symm; have f5_ := f3_.symm; clear f1_ f2_ f3_; subst f4_; subst f5_))
        refine norm_ (a' := ?_) ?_ ?_
        rotate_left
        · simp only [putAll, Act.put, sA, sZ, sS]
          rfl
        refine one_ (i := 5) (N := some 27) b6A8 rfl rfl (by kernel_rfl) (by decide) (fun K hK => ?_)
        refine Kd.R_append_rows_step k95 (w0 := w) w.heap.size (by rfl) (.tmp 24) (.tmp 26) 68 95 (.agg #[(.int .i64 0), (.int .i64 0), (.int .i64 0), (.int .i64 0), (.int .i64 0)]) 40 rfl Try.underlying68 info95 rfl (by decide) (by omega) v203 y202 y205 _ _ _ (fun k_ => some k_ ≠ (.slice Ao26 y205.length co26 : Value).ownBlock ∧ k_ ≠ gb196) (fun _ => False) rfl rfl ?aO ?aR (fun _ _ h => h) (fun _ h => h.elim) ?aF ?aB ?aS ?aL ?_
        (case aR => repeat (first | exact (Kd.R_reads' HO207.out).2.2 | (with_reducible refine Kd.CA ?_ _) | (with_reducible refine Kd.CN ?_ _) | (with_reducible refine Kd.CD ?_)))
        (case aB => exact (by repeat (first | (with_reducible first | exact HB.out | apply bA | apply bN | apply b1 | refine bS ?_ GE196.out) | exact HB.out)))
        (case aF => exact (fun k_ hk => ⟨Kd.fresh' (Kd.R_lt (by (with_reducible repeat (first | apply Kd.RA | apply Kd.RN | apply Kd.RD)); exact HO207.out)) k_ hk, Kd.freshB (g := gb196) (o := .cells #[.int .i64 a1_0, .int .i64 a1_1, .int .i64 a1_2, .int .i64 a1_3, .int .i64 t198] 95 (0, 0)) (by (with_reducible repeat (first | refine kN ?_ _ | refine kD ?_ | refine kA ?_ _)); exact BK196.out) k_ hk⟩))
        (case aO => exact (by (with_reducible repeat (first | apply Kd.RA | apply Kd.RN | apply Kd.RD)); exact HO204.out))
        (case aS => exact (bZ (by repeat (first | (with_reducible first | exact HB.out | apply bA | apply bN | apply b1 | refine bS ?_ GE196.out) | exact HB.out))))
        (case aL => have := LMc11.out; omega)
        intro v209 w25 ho hb hg hat
        rw [← Ny208.out] at ho
        have n0_ := zK (blk_grown (g := gb196) (o := .cells #[.int .i64 a1_0, .int .i64 a1_1, .int .i64 a1_2, .int .i64 a1_3, .int .i64 t198] 95 (0, 0)) (by (with_reducible repeat (first | refine kN ?_ _ | refine kD ?_ | refine kA ?_ _)); exact BK196.out) hg (Kd.R_away HO204.out (fun _ hk => hk.2)))
        have n1_ := zK (Kd.R_after (ok := (fun k_ => k_ ≠ gb196)) (by (with_reducible repeat (first | apply Kd.RA | apply Kd.RN | apply Kd.RD)); exact Kd.R_mono HO207.out (fun _ hk => ⟨hk.2, hk.1⟩)) hg hat)
        have n2_ := zK (hb)
        have n3_ := zK (ho)
        clear BK196
        clear HO207
        clear HB
        clear HO204
        have BK196 := n0_
        have HO207 := n1_
        have HB := n2_
        have HO210 := n3_
        clear n0_ n1_ n2_ n3_
        clear ho hb hg hat
        refine hK.out _ _ ⟨(bc BK196.out 0).trans rfl, (bc BK196.out 1).trans rfl, (bc BK196.out 2).trans rfl, (bc BK196.out 3).trans rfl, (bc BK196.out 4).trans rfl⟩ (fun hHeld => ?_)
        clear hK K
        refine norm_ (a' := ?_) ?_ ?_
        rotate_left
        · show Act.put _ (some 27) _ = _
          simp only [Act.put, sA, sZ, sS, i64_w, i32_w]
          rfl
        refine pure_ (i := 6) (N := some 7) (v := ?_) (a' := ?_) b6A9 rfl rfl (by kernel_rfl) (fun _ _ _ h => h) (Or.inl ⟨by rfl, ?_⟩) ?_ ?_
        rotate_left
        · intro w'
          go_simp
          with_reducible rfl
        rotate_left
        · simp only [Act.put, sA, sZ, sS, i64_w, i32_w]
          rfl
        refine done_ (by kernel_rfl) ?_
        obtain ⟨Ao27, co27, eo27⟩ := Kd.R_slice HO210.out
        subst eo27
        try go_wp2_with (first | ((with_reducible refine gate_callee (f := 105) rfl ?_); refine goesL_ (some 29) rfl rfl Try.func105 (by kernel_rfl) rfl #[.slice Ao27 y208.length co27] rfl (by (try simp only [List.map_toArray, List.map_cons, List.map_nil]); first | done | rfl | (simp only [List.length_drop, List.length_take]; rfl)) ?_; (with_reducible refine (spec_IsChain.calls kj2 _ _ y208 true _ ?side1 ?side2 A12.out).mono ?_); (case side1 => repeat (first | exact (Kd.R_reads' HO210.out).2.2 | (with_reducible refine Kd.CA ?_ _) | (with_reducible refine Kd.CN ?_ _) | (with_reducible refine Kd.CD ?_))); (case side2 => exact (Kd.R_reads' HO210.out).2.1); rintro e w28 ⟨rfl, hb⟩; refine ⟨_, rfl, ?_⟩; have n0_ := zK (Kd.R_below (by (with_reducible repeat (first | apply Kd.RA | apply Kd.RN | apply Kd.RD)); exact HO207.out) hb); have n1_ := zK (Kd.R_below (by (with_reducible repeat (first | apply Kd.RA | apply Kd.RN | apply Kd.RD)); exact HO210.out) hb); have n2_ := zK (bB (g := gb196) (o := .cells #[.int .i64 a1_0, .int .i64 a1_1, .int .i64 a1_2, .int .i64 a1_3, .int .i64 t198] 95 (0, 0)) (by (with_reducible repeat (first | refine kN ?_ _ | refine kD ?_ | refine kA ?_ _)); exact BK196.out) hb); have n3_ := zK (bT (by repeat (first | (with_reducible first | exact HB.out | apply bA | apply bN | apply b1 | refine bS ?_ GE196.out) | exact HB.out)) hb); clear HO207; clear HO210; clear BK196; clear HB; have HO207 := n0_; have HO210 := n1_; have BK196 := n2_; have HB := n3_; clear n0_ n1_ n2_ n3_; (try clear hb); (try clear hb2); (try clear hk); (try clear hi)))
        go_ret2
        exact ⟨_, by first | rfl | (simp [errW_none, errW_some] <;> rfl) | (simp [*, errW_none, errW_some] <;> rfl), by (with_reducible repeat (first | apply Kd.RA | apply Kd.RN | apply Kd.RD)); exact Kd.R_mono HO210.out (fun _ hk => trivial), by repeat (first | (with_reducible first | exact HB.out | apply bA | apply bN | apply b1 | refine bS ?_ GE196.out) | exact HB.out)⟩
      replace c13 := Bool.eq_false_iff.mpr c13
      subst c13
      have H1 : ((some (([] : List (S95)) : List (S95))).bind fun y212 => (if y212.length + l0.length < 3518437208883 then (some ((y212 ++ l0), false)) else (none))) = some (r1, r2) := by rw [if_neg (show ¬ (false = true) by decide)] at H; exact H
      clear H
      have H := H1
      clear H1
      obtain ⟨y212, hy212⟩ : ∃ y_ : List (S95), y_ = (([] : List (S95))) := ⟨_, rfl⟩
      replace H : (if y212.length + l0.length < 3518437208883 then (some ((y212 ++ l0), false)) else (none)) = some (r1, r2) := by first | (rw [hy212]; with_reducible exact H) | (have H2_ := (Option.bind_some _ _).symm.trans H; rw [hy212]; with_reducible exact H2_) | (have H2_ := (Option.bind_some _ _).symm.trans H; with_reducible exact H2_) | with_reducible exact H | (rw [hy212]; exact H) | exact H
      have Ny212 := zK hy212
      clear hy212
      by_cases c29 : y212.length + l0.length < 3518437208883
      rotate_left
      · rw [if_neg c29] at H
        exact absurd H (by simp)
      rw [if_pos c29] at H
      have LMc29 := zK c29
      clear c29
      obtain ⟨y215, hy215⟩ : ∃ y_ : List (S95), y_ = (y212 ++ l0) := ⟨_, rfl⟩
      replace H : (some (y215, false)) = some (r1, r2) := by first | (rw [hy215]; with_reducible exact H) | (have H2_ := (Option.bind_some _ _).symm.trans H; rw [hy215]; with_reducible exact H2_) | (have H2_ := (Option.bind_some _ _).symm.trans H; with_reducible exact H2_) | with_reducible exact H | (rw [hy215]; exact H) | exact H
      have Ny215 := zK hy215
      clear hy215
      simp only [Option.some.injEq, Prod.mk.injEq] at H
      obtain ⟨rfl, rfl⟩ := H
      have hcz30_0 : wc.cell? ⟨gb196, 0, none⟩ = some (.int .i64 a1_0) := (bc BK196.out 0).trans rfl
      have hcz30_1 : wc.cell? ⟨gb196, 1, none⟩ = some (.int .i64 a1_1) := (bc BK196.out 1).trans rfl
      have hcz30_2 : wc.cell? ⟨gb196, 2, none⟩ = some (.int .i64 a1_2) := (bc BK196.out 2).trans rfl
      have hcz30_3 : wc.cell? ⟨gb196, 3, none⟩ = some (.int .i64 a1_3) := (bc BK196.out 3).trans rfl
      have hcz30_4 : wc.cell? ⟨gb196, 4, none⟩ = some (.int .i64 a1_4) := (bc BK196.out 4).trans rfl
      have hfz30_0 := bf BK196.out 0
      have hfz30_1 := bf BK196.out 1
      have hfz30_2 := bf BK196.out 2
      have hfz30_3 := bf BK196.out 3
      have hfz30_4 := bf BK196.out 4
      try go_wp2_with (first | ((with_reducible refine gate_callee (f := 157) rfl ?_); refine goesL_ (some 20) rfl rfl Try.func157 (by kernel_rfl) rfl #[.int .i64 x6_2, .agg #[.int .i64 a1_0, .int .i64 a1_1, .int .i64 a1_2, .int .i64 a1_3, .int .i64 a1_4]] rfl (by (try simp only [List.map_toArray, List.map_cons, List.map_nil]); first | done | rfl | (simp only [List.length_drop, List.length_take]; rfl)) ?_; (with_reducible refine (spec_HandSeal.calls kj2 x6_2 a1_0 a1_1 a1_2 a1_3 a1_4 t198 _ A9.out).mono ?_); rintro e w31 ⟨rfl, hb⟩; refine ⟨_, rfl, ?_⟩; have n0_ := zK (bB (g := gb196) (o := .cells #[.int .i64 a1_0, .int .i64 a1_1, .int .i64 a1_2, .int .i64 a1_3, .int .i64 a1_4] 95 (0, 0)) (by (with_reducible repeat (first | refine kN ?_ _ | refine kD ?_ | refine kA ?_ _)); exact BK196.out) hb); have n1_ := zK (bT (by repeat (first | (with_reducible first | exact HB.out | apply bA | apply bN | apply b1 | refine bS ?_ GE196.out) | exact HB.out)) hb); clear BK196; clear HB; have BK196 := n0_; have HB := n1_; clear n0_ n1_; (try clear hb); (try clear hb2); (try clear hk); (try clear hi); have hcz32_0 : w31.cell? ⟨gb196, 0, none⟩ = some (.int .i64 a1_0) := (bc BK196.out 0).trans rfl; have hcz32_1 : w31.cell? ⟨gb196, 1, none⟩ = some (.int .i64 a1_1) := (bc BK196.out 1).trans rfl; have hcz32_2 : w31.cell? ⟨gb196, 2, none⟩ = some (.int .i64 a1_2) := (bc BK196.out 2).trans rfl; have hcz32_3 : w31.cell? ⟨gb196, 3, none⟩ = some (.int .i64 a1_3) := (bc BK196.out 3).trans rfl; have hcz32_4 : w31.cell? ⟨gb196, 4, none⟩ = some (.int .i64 a1_4) := (bc BK196.out 4).trans rfl; have hfz32_0 := bf BK196.out 0; have hfz32_1 := bf BK196.out 1; have hfz32_2 := bf BK196.out 2; have hfz32_3 := bf BK196.out 3; have hfz32_4 := bf BK196.out 4))
      have n0_ : Aside0 ((w31.setCell ⟨gb196, 4, none⟩ (.int .i64 t198)).heap[gb196]? = some (.cells #[.int .i64 a1_0, .int .i64 a1_1, .int .i64 a1_2, .int .i64 a1_3, .int .i64 t198] 95 (0, 0))) := ⟨by (with_reducible repeat (first | refine kN ?_ _ | refine kD ?_ | refine kA ?_ _)); refine blk_put (cs := #[.int .i64 a1_0, .int .i64 a1_1, .int .i64 a1_2, .int .i64 a1_3, .int .i64 a1_4]) ?_ 4 _ rfl; (with_reducible repeat (first | refine kN ?_ _ | refine kD ?_ | refine kA ?_ _)); exact BK196.out⟩
      have n1_ : Aside0 (Below w.heap.size w (w31.setCell ⟨gb196, 4, none⟩ (.int .i64 t198))) := ⟨by repeat (first | (with_reducible first | exact HB.out | apply bA | apply bN | apply b1 | refine bS ?_ GE196.out) | exact HB.out)⟩
      (try clear BK196)
      (try clear HB)
      generalize (w31.setCell ⟨gb196, 4, none⟩ (.int .i64 t198)) = w33 at n0_ n1_ ⊢
      have BK196 := n0_
      have HB := n1_
      clear n0_ n1_
      have n0_ := zK (kD BK196.out)
      have n1_ := zK (b1 HB.out)
      clear BK196
      clear HB
      have BK196 := n0_
      have HB := n1_
      clear n0_ n1_
      refine start_ (n := 7) (S := fun w' => w'.cell? ⟨gb196, 0, none⟩ = some (.int .i64 a1_0) ∧ w'.cell? ⟨gb196, 1, none⟩ = some (.int .i64 a1_1) ∧ w'.cell? ⟨gb196, 2, none⟩ = some (.int .i64 a1_2) ∧ w'.cell? ⟨gb196, 3, none⟩ = some (.int .i64 a1_3) ∧ w'.cell? ⟨gb196, 4, none⟩ = some (.int .i64 t198)) (ds := []) b6A0 (by kernel_rfl) rfl rfl ⟨(bc BK196.out 0).trans rfl, (bc BK196.out 1).trans rfl, (bc BK196.out 2).trans rfl, (bc BK196.out 3).trans rfl, (bc BK196.out 4).trans rfl⟩ (fun hHeld => ?_)
      generalize w33.drew = w34 at BK196 HB hHeld ⊢
      refine pure_ (i := 1) (N := some 23) (v := ?_) (a' := ?_) b6A1 rfl rfl (by kernel_rfl) (fun _ _ _ h => h) (Or.inl ⟨by rfl, ?_⟩) ?_ ?_
      rotate_left
      · intro w'
        go_simp
        with_reducible rfl
      rotate_left
      · simp only [Act.put, sA, sZ, sS, i64_w, i32_w]
        rfl
      refine take_ (i := 3) (N := some 25) (v := ?_) (a' := ?_) b6A2 rfl rfl (by kernel_rfl) (fun _ _ _ h => h) (Or.inl ⟨by rfl, ?_⟩) hHeld ?_ ?_
      rotate_left
      · rintro w' ⟨s0, s1, s2, s3, s4⟩
        go_simp
        with_reducible rfl
      rotate_left
      · simp only [Act.put, sA, sZ, sS, i64_w, i32_w]
        rfl
      refine join_ (σ := Value × Value × Value) 2 b6A3 (fun s_ => [(22, s_.1), (24, s_.2.1), (26, s_.2.2)]) (fun s_ w' => (w'.cell? ⟨gb196, 0, none⟩ = some (.int .i64 a1_0) ∧ w'.cell? ⟨gb196, 1, none⟩ = some (.int .i64 a1_1) ∧ w'.cell? ⟨gb196, 2, none⟩ = some (.int .i64 a1_2) ∧ w'.cell? ⟨gb196, 3, none⟩ = some (.int .i64 a1_3) ∧ w'.cell? ⟨gb196, 4, none⟩ = some (.int .i64 t198)) ∧ (Kd.R k95 95 w' w.heap.size (fun k_ => some k_ ≠ (s_.2.2 : Value).ownBlock ∧ k_ ≠ gb196) s_.2.1 y202) ∧ (Kd.R k95 95 w' w.heap.size (fun k_ => some k_ ≠ (s_.2.1 : Value).ownBlock ∧ k_ ≠ gb196) s_.2.2 y205) ∧ (w'.heap[gb196]? = some (.cells #[.int .i64 a1_0, .int .i64 a1_1, .int .i64 a1_2, .int .i64 a1_3, .int .i64 t198] 95 (0, 0))) ∧ (Below w.heap.size w w')) ?_ ?_
      rotate_left
      · intro hCont
        refine two_ (i := 0) (j := 4) (Ni := some 22) (Nj := some 26) b6A4 b6A5 rfl rfl rfl rfl (by kernel_rfl) (by decide) (by decide) (fun K hK => ?_) (fun K hK => ?_)
        rotate_left
        · skip
          refine Kd.R_lit_step k95 _ 95 ?hg (N := 26) ?hd (xs := ([(⟨a1_0, a1_1, a1_2, a1_3, t198⟩ : S95)] : List (S95))) (inner := [.int .i64 a1_0, .int .i64 a1_1, .int .i64 a1_2, .int .i64 a1_3, .int .i64 t198]) (ok := fun _ => True) (okp := fun _ => True) ?hr ?hp (fun _ hk => hk) trivial (Below.refl _ _) (Nat.le_refl _) (by simp) ?_; (case hd => rfl); (case hg => rfl); (case hr => first | (go_simp; done) | (go_simp; rfl)); (case hp => exact (Reps.c5 (show Kd.M k95 _ _ _ (⟨a1_0, a1_1, a1_2, a1_3, t198⟩ : S95) [.int .i64 a1_0, .int .i64 a1_1, .int .i64 a1_2, .int .i64 a1_3, .int .i64 t198] from (k95_mkM _ _ _ (⟨a1_0, a1_1, a1_2, a1_3, t198⟩ : S95) )) (Reps.none _ _)))
          intro v206 w35 ho36 hb hg_ hnew_
          clear hg_ hnew_
          (first | rw [← Ny205.out] at ho36 | (simp only [Int.reduceToNat] at ho36; rw [← Ny205.out] at ho36))
          have n0_ := zK (Kd.R_lower (Kd.R_newB ho36 (g := gb196) (o := .cells #[.int .i64 a1_0, .int .i64 a1_1, .int .i64 a1_2, .int .i64 a1_3, .int .i64 t198] 95 (0, 0)) (by (with_reducible repeat (first | refine kN ?_ _ | refine kD ?_ | refine kA ?_ _)); exact BK196.out)) (bZ (by repeat (first | (with_reducible first | exact HB.out | apply bA | apply bN | apply b1 | refine bS ?_ GE196.out) | exact HB.out))))
          have n1_ := zK (bB (g := gb196) (o := .cells #[.int .i64 a1_0, .int .i64 a1_1, .int .i64 a1_2, .int .i64 a1_3, .int .i64 t198] 95 (0, 0)) (by (with_reducible repeat (first | refine kN ?_ _ | refine kD ?_ | refine kA ?_ _)); exact BK196.out) hb)
          have n2_ := zK (bT (by repeat (first | (with_reducible first | exact HB.out | apply bA | apply bN | apply b1 | refine bS ?_ GE196.out) | exact HB.out)) hb)
          clear BK196
          clear HB
          have HO207 := n0_
          have BK196 := n1_
          have HB := n2_
          clear n0_ n1_ n2_
          clear hb ho36
          refine hK.out _ _ ⟨(bc BK196.out 0).trans rfl, (bc BK196.out 1).trans rfl, (bc BK196.out 2).trans rfl, (bc BK196.out 3).trans rfl, (bc BK196.out 4).trans rfl⟩ (fun hHeld => ?_)
          clear hK K
          refine norm_ (a' := ?_) ?_ ?_
          rotate_left
          · show Act.put _ (some 26) _ = _
            simp only [Act.put, sA, sZ, sS, i64_w, i32_w]
            rfl
          refine one_ (i := 0) (N := some 22) b6A7 rfl rfl (by kernel_rfl) (by decide) (fun K hK => ?_)
          refine Kd.R_lit_step k95 _ 95 ?hg (N := 22) ?hd (xs := ([] : List (S95))) (inner := []) (ok := fun _ => True) (okp := fun _ => True) ?hr ?hp (fun _ hk => hk) trivial (Below.refl _ _) (Nat.le_refl _) (by simp) ?_; (case hd => rfl); (case hg => rfl); (case hr => first | (go_simp; done) | (go_simp; rfl)); (case hp => exact (Reps.none _ _))
          intro v200 w37 ho38 hb hg_ hnew_
          clear hg_ hnew_
          (first | rw [← Ny199.out] at ho38 | (simp only [Int.reduceToNat] at ho38; rw [← Ny199.out] at ho38))
          have n0_ := zK (Kd.R_elder' (by (with_reducible repeat (first | apply Kd.RA | apply Kd.RN | apply Kd.RD)); exact HO207.out) (Kd.R_base ho38) hb)
          have n1_ := zK (Kd.R_lower (Kd.R_newB (Kd.R_new' ho38 (Kd.R_lt (by (with_reducible repeat (first | apply Kd.RA | apply Kd.RN | apply Kd.RD)); exact HO207.out))) (g := gb196) (o := .cells #[.int .i64 a1_0, .int .i64 a1_1, .int .i64 a1_2, .int .i64 a1_3, .int .i64 t198] 95 (0, 0)) (by (with_reducible repeat (first | refine kN ?_ _ | refine kD ?_ | refine kA ?_ _)); exact BK196.out)) (bZ (by repeat (first | (with_reducible first | exact HB.out | apply bA | apply bN | apply b1 | refine bS ?_ GE196.out) | exact HB.out))))
          have n2_ := zK (bB (g := gb196) (o := .cells #[.int .i64 a1_0, .int .i64 a1_1, .int .i64 a1_2, .int .i64 a1_3, .int .i64 t198] 95 (0, 0)) (by (with_reducible repeat (first | refine kN ?_ _ | refine kD ?_ | refine kA ?_ _)); exact BK196.out) hb)
          have n3_ := zK (bT (by repeat (first | (with_reducible first | exact HB.out | apply bA | apply bN | apply b1 | refine bS ?_ GE196.out) | exact HB.out)) hb)
          clear HO207
          clear BK196
          clear HB
          have HO207 := n0_
          have HO201 := n1_
          have BK196 := n2_
          have HB := n3_
          clear n0_ n1_ n2_ n3_
          clear hb ho38
          refine hK.out _ _ ⟨(bc BK196.out 0).trans rfl, (bc BK196.out 1).trans rfl, (bc BK196.out 2).trans rfl, (bc BK196.out 3).trans rfl, (bc BK196.out 4).trans rfl⟩ (fun hHeld => ?_)
          clear hK K
          refine norm_ (a' := ?_) ?_ ?_
          rotate_left
          · show Act.put _ (some 22) _ = _
            simp only [Act.put, sA, sZ, sS, i64_w, i32_w]
            rfl
          refine one_ (i := 2) (N := some 24) b6A3 rfl rfl (by kernel_rfl) (by decide) (fun K hK => ?_)
          refine Kd.R_append_rows_step k95 (w0 := w) w.heap.size (by rfl) (.tmp 22) (.tmp 23) 68 95 (.agg #[(.int .i64 0), (.int .i64 0), (.int .i64 0), (.int .i64 0), (.int .i64 0)]) 40 rfl Try.underlying68 info95 rfl (by decide) (by omega) v200 y199 l0 _ _ _ (fun k_ => some k_ ≠ (v206 : Value).ownBlock ∧ k_ ≠ gb196) (fun _ => False) rfl rfl ?aO ?aR (fun _ _ h => h) (fun _ h => h.elim) ?aF ?aB ?aS ?aL ?_
          (case aR => repeat (first | exact (Kd.C_below HR0.out HB.out) | (with_reducible refine Kd.CA ?_ _) | (with_reducible refine Kd.CN ?_ _) | (with_reducible refine Kd.CD ?_)))
          (case aB => exact (by repeat (first | (with_reducible first | exact HB.out | apply bA | apply bN | apply b1 | refine bS ?_ GE196.out) | exact HB.out)))
          (case aF => exact (fun k_ hk => ⟨Kd.fresh' (Kd.R_lt (by (with_reducible repeat (first | apply Kd.RA | apply Kd.RN | apply Kd.RD)); exact HO207.out)) k_ hk, Kd.freshB (g := gb196) (o := .cells #[.int .i64 a1_0, .int .i64 a1_1, .int .i64 a1_2, .int .i64 a1_3, .int .i64 t198] 95 (0, 0)) (by (with_reducible repeat (first | refine kN ?_ _ | refine kD ?_ | refine kA ?_ _)); exact BK196.out) k_ hk⟩))
          (case aO => exact (by (with_reducible repeat (first | apply Kd.RA | apply Kd.RN | apply Kd.RD)); exact Kd.R_mono HO201.out (fun _ hk => ⟨hk.1.2, hk.2⟩)))
          (case aS => exact (bZ (by repeat (first | (with_reducible first | exact HB.out | apply bA | apply bN | apply b1 | refine bS ?_ GE196.out) | exact HB.out))))
          (case aL => have := LMc10.out; omega)
          intro v203 w39 ho hb hg hat
          rw [← Ny202.out] at ho
          have n0_ := zK (blk_grown (g := gb196) (o := .cells #[.int .i64 a1_0, .int .i64 a1_1, .int .i64 a1_2, .int .i64 a1_3, .int .i64 t198] 95 (0, 0)) (by (with_reducible repeat (first | refine kN ?_ _ | refine kD ?_ | refine kA ?_ _)); exact BK196.out) hg (Kd.R_away HO201.out (fun _ hk => hk.2)))
          have n1_ := zK (Kd.R_after (ok := (fun k_ => k_ ≠ gb196)) (by (with_reducible repeat (first | apply Kd.RA | apply Kd.RN | apply Kd.RD)); exact Kd.R_mono HO207.out (fun _ hk => ⟨hk.1.2, hk.2⟩)) hg hat)
          have n2_ := zK (hb)
          have n3_ := zK (ho)
          clear BK196
          clear HO207
          clear HB
          clear HO201
          have BK196 := n0_
          have HO207 := n1_
          have HB := n2_
          have HO204 := n3_
          clear n0_ n1_ n2_ n3_
          clear ho hb hg hat
          refine hK.out _ _ ⟨(bc BK196.out 0).trans rfl, (bc BK196.out 1).trans rfl, (bc BK196.out 2).trans rfl, (bc BK196.out 3).trans rfl, (bc BK196.out 4).trans rfl⟩ (fun hHeld => ?_)
          clear hK K
          refine norm_ (a' := ?_) ?_ ?_
          rotate_left
          · show Act.put _ (some 24) _ = _
            simp only [Act.put, sA, sZ, sS, i64_w, i32_w]
            rfl
          exact norm_ (by simp only [putAll, Act.put, sA, sZ, sS]) (hCont (v200, v203, v206) _ ⟨hHeld, (by (with_reducible repeat (first | apply Kd.RA | apply Kd.RN | apply Kd.RD)); exact HO204.out), (by (with_reducible repeat (first | apply Kd.RA | apply Kd.RN | apply Kd.RD)); exact Kd.R_mono HO207.out (fun _ hk => ⟨hk.2, hk.1⟩)), (by (with_reducible repeat (first | refine kN ?_ _ | refine kD ?_ | refine kA ?_ _)); exact BK196.out), (by repeat (first | (with_reducible first | exact HB.out | apply bA | apply bN | apply b1 | refine bS ?_ GE196.out) | exact HB.out))⟩)
        skip
        refine Kd.R_lit_step k95 _ 95 ?hg (N := 22) ?hd (xs := ([] : List (S95))) (inner := []) (ok := fun _ => True) (okp := fun _ => True) ?hr ?hp (fun _ hk => hk) trivial (Below.refl _ _) (Nat.le_refl _) (by simp) ?_; (case hd => rfl); (case hg => rfl); (case hr => first | (go_simp; done) | (go_simp; rfl)); (case hp => exact (Reps.none _ _))
        intro v200 w35 ho36 hb hg_ hnew_
        clear hg_ hnew_
        (first | rw [← Ny199.out] at ho36 | (simp only [Int.reduceToNat] at ho36; rw [← Ny199.out] at ho36))
        have n0_ := zK (Kd.R_lower (Kd.R_newB ho36 (g := gb196) (o := .cells #[.int .i64 a1_0, .int .i64 a1_1, .int .i64 a1_2, .int .i64 a1_3, .int .i64 t198] 95 (0, 0)) (by (with_reducible repeat (first | refine kN ?_ _ | refine kD ?_ | refine kA ?_ _)); exact BK196.out)) (bZ (by repeat (first | (with_reducible first | exact HB.out | apply bA | apply bN | apply b1 | refine bS ?_ GE196.out) | exact HB.out))))
        have n1_ := zK (bB (g := gb196) (o := .cells #[.int .i64 a1_0, .int .i64 a1_1, .int .i64 a1_2, .int .i64 a1_3, .int .i64 t198] 95 (0, 0)) (by (with_reducible repeat (first | refine kN ?_ _ | refine kD ?_ | refine kA ?_ _)); exact BK196.out) hb)
        have n2_ := zK (bT (by repeat (first | (with_reducible first | exact HB.out | apply bA | apply bN | apply b1 | refine bS ?_ GE196.out) | exact HB.out)) hb)
        clear BK196
        clear HB
        have HO201 := n0_
        have BK196 := n1_
        have HB := n2_
        clear n0_ n1_ n2_
        clear hb ho36
        refine hK.out _ _ ⟨(bc BK196.out 0).trans rfl, (bc BK196.out 1).trans rfl, (bc BK196.out 2).trans rfl, (bc BK196.out 3).trans rfl, (bc BK196.out 4).trans rfl⟩ (fun hHeld => ?_)
        clear hK K
        refine norm_ (a' := ?_) ?_ ?_
        rotate_left
        · show Act.put _ (some 22) _ = _
          simp only [Act.put, sA, sZ, sS, i64_w, i32_w]
          rfl
        refine two_ (i := 2) (j := 4) (Ni := some 24) (Nj := some 26) b6A6 b6A7 rfl rfl rfl rfl (by kernel_rfl) (by decide) (by decide) (fun K hK => ?_) (fun K hK => ?_)
        · skip
          refine Kd.R_append_rows_step k95 (w0 := w) w.heap.size (by rfl) (.tmp 22) (.tmp 23) 68 95 (.agg #[(.int .i64 0), (.int .i64 0), (.int .i64 0), (.int .i64 0), (.int .i64 0)]) 40 rfl Try.underlying68 info95 rfl (by decide) (by omega) v200 y199 l0 _ _ _ (fun k_ => k_ ≠ gb196) (fun _ => False) rfl rfl ?aO ?aR (fun _ _ h => h) (fun _ h => h.elim) ?aF ?aB ?aS ?aL ?_
          (case aR => repeat (first | exact (Kd.C_below HR0.out HB.out) | (with_reducible refine Kd.CA ?_ _) | (with_reducible refine Kd.CN ?_ _) | (with_reducible refine Kd.CD ?_)))
          (case aB => exact (by repeat (first | (with_reducible first | exact HB.out | apply bA | apply bN | apply b1 | refine bS ?_ GE196.out) | exact HB.out)))
          (case aF => exact (fun k_ hk => Kd.freshB (g := gb196) (o := .cells #[.int .i64 a1_0, .int .i64 a1_1, .int .i64 a1_2, .int .i64 a1_3, .int .i64 t198] 95 (0, 0)) (by (with_reducible repeat (first | refine kN ?_ _ | refine kD ?_ | refine kA ?_ _)); exact BK196.out) k_ hk))
          (case aO => exact (by (with_reducible repeat (first | apply Kd.RA | apply Kd.RN | apply Kd.RD)); exact Kd.R_mono HO201.out (fun _ hk => hk.2)))
          (case aS => exact (bZ (by repeat (first | (with_reducible first | exact HB.out | apply bA | apply bN | apply b1 | refine bS ?_ GE196.out) | exact HB.out))))
          (case aL => have := LMc10.out; omega)
          intro v203 w37 ho hb hg hat
          rw [← Ny202.out] at ho
          have n0_ := zK (blk_grown (g := gb196) (o := .cells #[.int .i64 a1_0, .int .i64 a1_1, .int .i64 a1_2, .int .i64 a1_3, .int .i64 t198] 95 (0, 0)) (by (with_reducible repeat (first | refine kN ?_ _ | refine kD ?_ | refine kA ?_ _)); exact BK196.out) hg (Kd.R_away HO201.out (fun _ hk => hk.2)))
          have n1_ := zK (hb)
          have n2_ := zK (ho)
          clear BK196
          clear HB
          clear HO201
          have BK196 := n0_
          have HB := n1_
          have HO204 := n2_
          clear n0_ n1_ n2_
          clear ho hb hg hat
          refine hK.out _ _ ⟨(bc BK196.out 0).trans rfl, (bc BK196.out 1).trans rfl, (bc BK196.out 2).trans rfl, (bc BK196.out 3).trans rfl, (bc BK196.out 4).trans rfl⟩ (fun hHeld => ?_)
          clear hK K
          refine norm_ (a' := ?_) ?_ ?_
          rotate_left
          · show Act.put _ (some 24) _ = _
            simp only [Act.put, sA, sZ, sS, i64_w, i32_w]
            rfl
          refine one_ (i := 4) (N := some 26) b6A3 rfl rfl (by kernel_rfl) (by decide) (fun K hK => ?_)
          refine Kd.R_lit_step k95 _ 95 ?hg (N := 26) ?hd (xs := ([(⟨a1_0, a1_1, a1_2, a1_3, t198⟩ : S95)] : List (S95))) (inner := [.int .i64 a1_0, .int .i64 a1_1, .int .i64 a1_2, .int .i64 a1_3, .int .i64 t198]) (ok := fun _ => True) (okp := fun _ => True) ?hr ?hp (fun _ hk => hk) trivial (Below.refl _ _) (Nat.le_refl _) (by simp) ?_; (case hd => rfl); (case hg => rfl); (case hr => first | (go_simp; done) | (go_simp; rfl)); (case hp => exact (Reps.c5 (show Kd.M k95 _ _ _ (⟨a1_0, a1_1, a1_2, a1_3, t198⟩ : S95) [.int .i64 a1_0, .int .i64 a1_1, .int .i64 a1_2, .int .i64 a1_3, .int .i64 t198] from (k95_mkM _ _ _ (⟨a1_0, a1_1, a1_2, a1_3, t198⟩ : S95) )) (Reps.none _ _)))
          intro v206 w38 ho39 hb hg_ hnew_
          clear hg_ hnew_
          (first | rw [← Ny205.out] at ho39 | (simp only [Int.reduceToNat] at ho39; rw [← Ny205.out] at ho39))
          have n0_ := zK (Kd.R_elder' (by (with_reducible repeat (first | apply Kd.RA | apply Kd.RN | apply Kd.RD)); exact HO204.out) (Kd.R_base ho39) hb)
          have n1_ := zK (Kd.R_lower (Kd.R_newB (Kd.R_new' ho39 (Kd.R_lt (by (with_reducible repeat (first | apply Kd.RA | apply Kd.RN | apply Kd.RD)); exact HO204.out))) (g := gb196) (o := .cells #[.int .i64 a1_0, .int .i64 a1_1, .int .i64 a1_2, .int .i64 a1_3, .int .i64 t198] 95 (0, 0)) (by (with_reducible repeat (first | refine kN ?_ _ | refine kD ?_ | refine kA ?_ _)); exact BK196.out)) (bZ (by repeat (first | (with_reducible first | exact HB.out | apply bA | apply bN | apply b1 | refine bS ?_ GE196.out) | exact HB.out))))
          have n2_ := zK (bB (g := gb196) (o := .cells #[.int .i64 a1_0, .int .i64 a1_1, .int .i64 a1_2, .int .i64 a1_3, .int .i64 t198] 95 (0, 0)) (by (with_reducible repeat (first | refine kN ?_ _ | refine kD ?_ | refine kA ?_ _)); exact BK196.out) hb)
          have n3_ := zK (bT (by repeat (first | (with_reducible first | exact HB.out | apply bA | apply bN | apply b1 | refine bS ?_ GE196.out) | exact HB.out)) hb)
          clear HO204
          clear BK196
          clear HB
          have HO204 := n0_
          have HO207 := n1_
          have BK196 := n2_
          have HB := n3_
          clear n0_ n1_ n2_ n3_
          clear hb ho39
          refine hK.out _ _ ⟨(bc BK196.out 0).trans rfl, (bc BK196.out 1).trans rfl, (bc BK196.out 2).trans rfl, (bc BK196.out 3).trans rfl, (bc BK196.out 4).trans rfl⟩ (fun hHeld => ?_)
          clear hK K
          refine norm_ (a' := ?_) ?_ ?_
          rotate_left
          · show Act.put _ (some 26) _ = _
            simp only [Act.put, sA, sZ, sS, i64_w, i32_w]
            rfl
          exact norm_ (by simp only [putAll, Act.put, sA, sZ, sS]) (hCont (v200, v203, v206) _ ⟨hHeld, (by (with_reducible repeat (first | apply Kd.RA | apply Kd.RN | apply Kd.RD)); exact Kd.R_mono HO204.out (fun _ hk => ⟨hk.2, hk.1⟩)), (by (with_reducible repeat (first | apply Kd.RA | apply Kd.RN | apply Kd.RD)); exact Kd.R_mono HO207.out (fun _ hk => ⟨hk.1.2, hk.2⟩)), (by (with_reducible repeat (first | refine kN ?_ _ | refine kD ?_ | refine kA ?_ _)); exact BK196.out), (by repeat (first | (with_reducible first | exact HB.out | apply bA | apply bN | apply b1 | refine bS ?_ GE196.out) | exact HB.out))⟩)
        skip
        refine Kd.R_lit_step k95 _ 95 ?hg (N := 26) ?hd (xs := ([(⟨a1_0, a1_1, a1_2, a1_3, t198⟩ : S95)] : List (S95))) (inner := [.int .i64 a1_0, .int .i64 a1_1, .int .i64 a1_2, .int .i64 a1_3, .int .i64 t198]) (ok := fun _ => True) (okp := fun _ => True) ?hr ?hp (fun _ hk => hk) trivial (Below.refl _ _) (Nat.le_refl _) (by simp) ?_; (case hd => rfl); (case hg => rfl); (case hr => first | (go_simp; done) | (go_simp; rfl)); (case hp => exact (Reps.c5 (show Kd.M k95 _ _ _ (⟨a1_0, a1_1, a1_2, a1_3, t198⟩ : S95) [.int .i64 a1_0, .int .i64 a1_1, .int .i64 a1_2, .int .i64 a1_3, .int .i64 t198] from (k95_mkM _ _ _ (⟨a1_0, a1_1, a1_2, a1_3, t198⟩ : S95) )) (Reps.none _ _)))
        intro v206 w37 ho38 hb hg_ hnew_
        clear hg_ hnew_
        (first | rw [← Ny205.out] at ho38 | (simp only [Int.reduceToNat] at ho38; rw [← Ny205.out] at ho38))
        have n0_ := zK (Kd.R_elder' (by (with_reducible repeat (first | apply Kd.RA | apply Kd.RN | apply Kd.RD)); exact HO201.out) (Kd.R_base ho38) hb)
        have n1_ := zK (Kd.R_lower (Kd.R_newB (Kd.R_new' ho38 (Kd.R_lt (by (with_reducible repeat (first | apply Kd.RA | apply Kd.RN | apply Kd.RD)); exact HO201.out))) (g := gb196) (o := .cells #[.int .i64 a1_0, .int .i64 a1_1, .int .i64 a1_2, .int .i64 a1_3, .int .i64 t198] 95 (0, 0)) (by (with_reducible repeat (first | refine kN ?_ _ | refine kD ?_ | refine kA ?_ _)); exact BK196.out)) (bZ (by repeat (first | (with_reducible first | exact HB.out | apply bA | apply bN | apply b1 | refine bS ?_ GE196.out) | exact HB.out))))
        have n2_ := zK (bB (g := gb196) (o := .cells #[.int .i64 a1_0, .int .i64 a1_1, .int .i64 a1_2, .int .i64 a1_3, .int .i64 t198] 95 (0, 0)) (by (with_reducible repeat (first | refine kN ?_ _ | refine kD ?_ | refine kA ?_ _)); exact BK196.out) hb)
        have n3_ := zK (bT (by repeat (first | (with_reducible first | exact HB.out | apply bA | apply bN | apply b1 | refine bS ?_ GE196.out) | exact HB.out)) hb)
        clear HO201
        clear BK196
        clear HB
        have HO201 := n0_
        have HO207 := n1_
        have BK196 := n2_
        have HB := n3_
        clear n0_ n1_ n2_ n3_
        clear hb ho38
        refine hK.out _ _ ⟨(bc BK196.out 0).trans rfl, (bc BK196.out 1).trans rfl, (bc BK196.out 2).trans rfl, (bc BK196.out 3).trans rfl, (bc BK196.out 4).trans rfl⟩ (fun hHeld => ?_)
        clear hK K
        refine norm_ (a' := ?_) ?_ ?_
        rotate_left
        · show Act.put _ (some 26) _ = _
          simp only [Act.put, sA, sZ, sS, i64_w, i32_w]
          rfl
        refine one_ (i := 2) (N := some 24) b6A3 rfl rfl (by kernel_rfl) (by decide) (fun K hK => ?_)
        refine Kd.R_append_rows_step k95 (w0 := w) w.heap.size (by rfl) (.tmp 22) (.tmp 23) 68 95 (.agg #[(.int .i64 0), (.int .i64 0), (.int .i64 0), (.int .i64 0), (.int .i64 0)]) 40 rfl Try.underlying68 info95 rfl (by decide) (by omega) v200 y199 l0 _ _ _ (fun k_ => some k_ ≠ (v206 : Value).ownBlock ∧ k_ ≠ gb196) (fun _ => False) rfl rfl ?aO ?aR (fun _ _ h => h) (fun _ h => h.elim) ?aF ?aB ?aS ?aL ?_
        (case aR => repeat (first | exact (Kd.C_below HR0.out HB.out) | (with_reducible refine Kd.CA ?_ _) | (with_reducible refine Kd.CN ?_ _) | (with_reducible refine Kd.CD ?_)))
        (case aB => exact (by repeat (first | (with_reducible first | exact HB.out | apply bA | apply bN | apply b1 | refine bS ?_ GE196.out) | exact HB.out)))
        (case aF => exact (fun k_ hk => ⟨Kd.fresh' (Kd.R_lt (by (with_reducible repeat (first | apply Kd.RA | apply Kd.RN | apply Kd.RD)); exact HO207.out)) k_ hk, Kd.freshB (g := gb196) (o := .cells #[.int .i64 a1_0, .int .i64 a1_1, .int .i64 a1_2, .int .i64 a1_3, .int .i64 t198] 95 (0, 0)) (by (with_reducible repeat (first | refine kN ?_ _ | refine kD ?_ | refine kA ?_ _)); exact BK196.out) k_ hk⟩))
        (case aO => exact (by (with_reducible repeat (first | apply Kd.RA | apply Kd.RN | apply Kd.RD)); exact Kd.R_mono HO201.out (fun _ hk => ⟨hk.2, hk.1.2⟩)))
        (case aS => exact (bZ (by repeat (first | (with_reducible first | exact HB.out | apply bA | apply bN | apply b1 | refine bS ?_ GE196.out) | exact HB.out))))
        (case aL => have := LMc10.out; omega)
        intro v203 w39 ho hb hg hat
        rw [← Ny202.out] at ho
        have n0_ := zK (blk_grown (g := gb196) (o := .cells #[.int .i64 a1_0, .int .i64 a1_1, .int .i64 a1_2, .int .i64 a1_3, .int .i64 t198] 95 (0, 0)) (by (with_reducible repeat (first | refine kN ?_ _ | refine kD ?_ | refine kA ?_ _)); exact BK196.out) hg (Kd.R_away HO201.out (fun _ hk => hk.1.2)))
        have n1_ := zK (Kd.R_after (ok := (fun k_ => k_ ≠ gb196)) (by (with_reducible repeat (first | apply Kd.RA | apply Kd.RN | apply Kd.RD)); exact Kd.R_mono HO207.out (fun _ hk => ⟨hk.2, hk.1.2⟩)) hg hat)
        have n2_ := zK (hb)
        have n3_ := zK (ho)
        clear BK196
        clear HO207
        clear HB
        clear HO201
        have BK196 := n0_
        have HO207 := n1_
        have HB := n2_
        have HO204 := n3_
        clear n0_ n1_ n2_ n3_
        clear ho hb hg hat
        refine hK.out _ _ ⟨(bc BK196.out 0).trans rfl, (bc BK196.out 1).trans rfl, (bc BK196.out 2).trans rfl, (bc BK196.out 3).trans rfl, (bc BK196.out 4).trans rfl⟩ (fun hHeld => ?_)
        clear hK K
        refine norm_ (a' := ?_) ?_ ?_
        rotate_left
        · show Act.put _ (some 24) _ = _
          simp only [Act.put, sA, sZ, sS, i64_w, i32_w]
          rfl
        exact norm_ (by simp only [putAll, Act.put, sA, sZ, sS]) (hCont (v200, v203, v206) _ ⟨hHeld, (by (with_reducible repeat (first | apply Kd.RA | apply Kd.RN | apply Kd.RD)); exact HO204.out), (by (with_reducible repeat (first | apply Kd.RA | apply Kd.RN | apply Kd.RD)); exact Kd.R_mono HO207.out (fun _ hk => ⟨hk.2, hk.1⟩)), (by (with_reducible repeat (first | refine kN ?_ _ | refine kD ?_ | refine kA ?_ _)); exact BK196.out), (by repeat (first | (with_reducible first | exact HB.out | apply bA | apply bN | apply b1 | refine bS ?_ GE196.out) | exact HB.out))⟩)
      rintro ⟨v200, v203, v206⟩ w40 ⟨hS_, h0_, h1_, h2_, h3_⟩
      have n0_ : Aside0 (Kd.R k95 95 w40 w.heap.size (fun k_ => some k_ ≠ (v206 : Value).ownBlock ∧ k_ ≠ gb196) v203 y202) := ⟨h0_⟩
      have n1_ : Aside0 (Kd.R k95 95 w40 w.heap.size (fun k_ => some k_ ≠ (v203 : Value).ownBlock ∧ k_ ≠ gb196) v206 y205) := ⟨h1_⟩
      have n2_ : Aside0 (w40.heap[gb196]? = some (.cells #[.int .i64 a1_0, .int .i64 a1_1, .int .i64 a1_2, .int .i64 a1_3, .int .i64 t198] 95 (0, 0))) := ⟨h2_⟩
      have n3_ : Aside0 (Below w.heap.size w w40) := ⟨h3_⟩
      clear BK196
      clear HB
      clear h0_ h1_ h2_ h3_
      have HO204 := n0_
      have HO207 := n1_
      have BK196 := n2_
      have HB := n3_
      clear n0_ n1_ n2_ n3_
      have hHeld : w40.cell? ⟨gb196, 0, none⟩ = some (.int .i64 a1_0) ∧ w40.cell? ⟨gb196, 1, none⟩ = some (.int .i64 a1_1) ∧ w40.cell? ⟨gb196, 2, none⟩ = some (.int .i64 a1_2) ∧ w40.cell? ⟨gb196, 3, none⟩ = some (.int .i64 a1_3) ∧ w40.cell? ⟨gb196, 4, none⟩ = some (.int .i64 t198) := hS_
      obtain ⟨Ao42, co42, eo42⟩ := Kd.R_slice HO207.out
      (first | subst eo42 | (injection eo42 with f1_ f2_ f3_; have f4_ := f1_.symm; have f5_ := f3_.symm; clear f1_ f2_ f3_; subst f4_; subst f5_))
      refine norm_ (a' := ?_) ?_ ?_
      rotate_left
      · simp only [putAll, Act.put, sA, sZ, sS]
        rfl
      refine one_ (i := 5) (N := some 27) b6A8 rfl rfl (by kernel_rfl) (by decide) (fun K hK => ?_)
      refine Kd.R_append_rows_step k95 (w0 := w) w.heap.size (by rfl) (.tmp 24) (.tmp 26) 68 95 (.agg #[(.int .i64 0), (.int .i64 0), (.int .i64 0), (.int .i64 0), (.int .i64 0)]) 40 rfl Try.underlying68 info95 rfl (by decide) (by omega) v203 y202 y205 _ _ _ (fun k_ => some k_ ≠ (.slice Ao42 y205.length co42 : Value).ownBlock ∧ k_ ≠ gb196) (fun _ => False) rfl rfl ?aO ?aR (fun _ _ h => h) (fun _ h => h.elim) ?aF ?aB ?aS ?aL ?_
      (case aR => repeat (first | exact (Kd.R_reads' HO207.out).2.2 | (with_reducible refine Kd.CA ?_ _) | (with_reducible refine Kd.CN ?_ _) | (with_reducible refine Kd.CD ?_)))
      (case aB => exact (by repeat (first | (with_reducible first | exact HB.out | apply bA | apply bN | apply b1 | refine bS ?_ GE196.out) | exact HB.out)))
      (case aF => exact (fun k_ hk => ⟨Kd.fresh' (Kd.R_lt (by (with_reducible repeat (first | apply Kd.RA | apply Kd.RN | apply Kd.RD)); exact HO207.out)) k_ hk, Kd.freshB (g := gb196) (o := .cells #[.int .i64 a1_0, .int .i64 a1_1, .int .i64 a1_2, .int .i64 a1_3, .int .i64 t198] 95 (0, 0)) (by (with_reducible repeat (first | refine kN ?_ _ | refine kD ?_ | refine kA ?_ _)); exact BK196.out) k_ hk⟩))
      (case aO => exact (by (with_reducible repeat (first | apply Kd.RA | apply Kd.RN | apply Kd.RD)); exact HO204.out))
      (case aS => exact (bZ (by repeat (first | (with_reducible first | exact HB.out | apply bA | apply bN | apply b1 | refine bS ?_ GE196.out) | exact HB.out))))
      (case aL => have := LMc11.out; omega)
      intro v209 w41 ho hb hg hat
      rw [← Ny208.out] at ho
      have n0_ := zK (blk_grown (g := gb196) (o := .cells #[.int .i64 a1_0, .int .i64 a1_1, .int .i64 a1_2, .int .i64 a1_3, .int .i64 t198] 95 (0, 0)) (by (with_reducible repeat (first | refine kN ?_ _ | refine kD ?_ | refine kA ?_ _)); exact BK196.out) hg (Kd.R_away HO204.out (fun _ hk => hk.2)))
      have n1_ := zK (Kd.R_after (ok := (fun k_ => k_ ≠ gb196)) (by (with_reducible repeat (first | apply Kd.RA | apply Kd.RN | apply Kd.RD)); exact Kd.R_mono HO207.out (fun _ hk => ⟨hk.2, hk.1⟩)) hg hat)
      have n2_ := zK (hb)
      have n3_ := zK (ho)
      clear BK196
      clear HO207
      clear HB
      clear HO204
      have BK196 := n0_
      have HO207 := n1_
      have HB := n2_
      have HO210 := n3_
      clear n0_ n1_ n2_ n3_
      clear ho hb hg hat
      refine hK.out _ _ ⟨(bc BK196.out 0).trans rfl, (bc BK196.out 1).trans rfl, (bc BK196.out 2).trans rfl, (bc BK196.out 3).trans rfl, (bc BK196.out 4).trans rfl⟩ (fun hHeld => ?_)
      clear hK K
      refine norm_ (a' := ?_) ?_ ?_
      rotate_left
      · show Act.put _ (some 27) _ = _
        simp only [Act.put, sA, sZ, sS, i64_w, i32_w]
        rfl
      refine pure_ (i := 6) (N := some 7) (v := ?_) (a' := ?_) b6A9 rfl rfl (by kernel_rfl) (fun _ _ _ h => h) (Or.inl ⟨by rfl, ?_⟩) ?_ ?_
      rotate_left
      · intro w'
        go_simp
        with_reducible rfl
      rotate_left
      · simp only [Act.put, sA, sZ, sS, i64_w, i32_w]
        rfl
      refine done_ (by kernel_rfl) ?_
      obtain ⟨Ao43, co43, eo43⟩ := Kd.R_slice HO210.out
      subst eo43
      try go_wp2_with (first | ((with_reducible refine gate_callee (f := 105) rfl ?_); refine goesL_ (some 29) rfl rfl Try.func105 (by kernel_rfl) rfl #[.slice Ao43 y208.length co43] rfl (by (try simp only [List.map_toArray, List.map_cons, List.map_nil]); first | done | rfl | (simp only [List.length_drop, List.length_take]; rfl)) ?_; (with_reducible refine (spec_IsChain.calls kj2 _ _ y208 false _ ?side1 ?side2 A12.out).mono ?_); (case side1 => repeat (first | exact (Kd.R_reads' HO210.out).2.2 | (with_reducible refine Kd.CA ?_ _) | (with_reducible refine Kd.CN ?_ _) | (with_reducible refine Kd.CD ?_))); (case side2 => exact (Kd.R_reads' HO210.out).2.1); rintro e w44 ⟨rfl, hb⟩; refine ⟨_, rfl, ?_⟩; have n0_ := zK (Kd.R_below (by (with_reducible repeat (first | apply Kd.RA | apply Kd.RN | apply Kd.RD)); exact HO207.out) hb); have n1_ := zK (Kd.R_below (by (with_reducible repeat (first | apply Kd.RA | apply Kd.RN | apply Kd.RD)); exact HO210.out) hb); have n2_ := zK (bB (g := gb196) (o := .cells #[.int .i64 a1_0, .int .i64 a1_1, .int .i64 a1_2, .int .i64 a1_3, .int .i64 t198] 95 (0, 0)) (by (with_reducible repeat (first | refine kN ?_ _ | refine kD ?_ | refine kA ?_ _)); exact BK196.out) hb); have n3_ := zK (bT (by repeat (first | (with_reducible first | exact HB.out | apply bA | apply bN | apply b1 | refine bS ?_ GE196.out) | exact HB.out)) hb); clear HO207; clear HO210; clear BK196; clear HB; have HO207 := n0_; have HO210 := n1_; have BK196 := n2_; have HB := n3_; clear n0_ n1_ n2_ n3_; (try clear hb); (try clear hb2); (try clear hk); (try clear hi)) | ((with_reducible refine gate_dst (N := 31) rfl ?_); refine Kd.R_lit k95 _ 95 ?hg (N := 31) ?hd (xs := ([] : List (S95))) (inner := []) (ok := fun _ => True) (okp := fun _ => True) ?hr ?hp (fun _ hk => hk) trivial (Below.refl _ _) (Nat.le_refl _) (by simp) ?_; (case hd => rfl); (case hg => rfl); (case hr => first | (go_simp; done) | (go_simp; rfl)); (case hp => exact (Reps.none _ _)); intro v213 w45 ho46 hb hg_ hnew_; clear hg_ hnew_; (first | rw [← Ny212.out] at ho46 | (simp only [Int.reduceToNat] at ho46; rw [← Ny212.out] at ho46)); have n0_ := zK (Kd.R_elder' (by (with_reducible repeat (first | apply Kd.RA | apply Kd.RN | apply Kd.RD)); exact HO207.out) (Kd.R_base ho46) hb); have n1_ := zK (Kd.R_elder' (by (with_reducible repeat (first | apply Kd.RA | apply Kd.RN | apply Kd.RD)); exact HO210.out) (Kd.R_base ho46) hb); have n2_ := zK (Kd.R_lower (Kd.R_newB (Kd.R_new' (Kd.R_new' ho46 (Kd.R_lt (by (with_reducible repeat (first | apply Kd.RA | apply Kd.RN | apply Kd.RD)); exact HO207.out))) (Kd.R_lt (by (with_reducible repeat (first | apply Kd.RA | apply Kd.RN | apply Kd.RD)); exact HO210.out))) (g := gb196) (o := .cells #[.int .i64 a1_0, .int .i64 a1_1, .int .i64 a1_2, .int .i64 a1_3, .int .i64 t198] 95 (0, 0)) (by (with_reducible repeat (first | refine kN ?_ _ | refine kD ?_ | refine kA ?_ _)); exact BK196.out)) (bZ (by repeat (first | (with_reducible first | exact HB.out | apply bA | apply bN | apply b1 | refine bS ?_ GE196.out) | exact HB.out)))); have n3_ := zK (bB (g := gb196) (o := .cells #[.int .i64 a1_0, .int .i64 a1_1, .int .i64 a1_2, .int .i64 a1_3, .int .i64 t198] 95 (0, 0)) (by (with_reducible repeat (first | refine kN ?_ _ | refine kD ?_ | refine kA ?_ _)); exact BK196.out) hb); have n4_ := zK (bT (by repeat (first | (with_reducible first | exact HB.out | apply bA | apply bN | apply b1 | refine bS ?_ GE196.out) | exact HB.out)) hb); clear HO207; clear HO210; clear BK196; clear HB; have HO207 := n0_; have HO210 := n1_; have HO214 := n2_; have BK196 := n3_; have HB := n4_; clear n0_ n1_ n2_ n3_ n4_; clear hb ho46) | ((with_reducible refine gate_builtin (b := .append) (xs := #[.tmp 31, .tmp 32]) rfl ?_); at_builtin; refine Kd.R_append_rows k95 (w0 := w) w.heap.size rfl (.tmp 31) (.tmp 32) 68 95 (.agg #[(.int .i64 0), (.int .i64 0), (.int .i64 0), (.int .i64 0), (.int .i64 0)]) 40 rfl Try.underlying68 info95 rfl (by decide) (by omega) v213 y212 l0 _ _ _ (fun k_ => some k_ ≠ (.slice Ao42 y205.length co42 : Value).ownBlock ∧ some k_ ≠ (.slice Ao43 y208.length co43 : Value).ownBlock ∧ k_ ≠ gb196) (fun _ => False) rfl rfl ?aO ?aR (fun _ _ h => h) (fun _ h => h.elim) ?aF ?aB ?aS ?aL ?_; (case aR => repeat (first | exact (Kd.C_below HR0.out HB.out) | (with_reducible refine Kd.CA ?_ _) | (with_reducible refine Kd.CN ?_ _) | (with_reducible refine Kd.CD ?_))); (case aB => exact (by repeat (first | (with_reducible first | exact HB.out | apply bA | apply bN | apply b1 | refine bS ?_ GE196.out) | exact HB.out))); (case aF => exact (fun k_ hk => ⟨Kd.fresh' (Kd.R_lt (by (with_reducible repeat (first | apply Kd.RA | apply Kd.RN | apply Kd.RD)); exact HO207.out)) k_ hk, Kd.fresh' (Kd.R_lt (by (with_reducible repeat (first | apply Kd.RA | apply Kd.RN | apply Kd.RD)); exact HO210.out)) k_ hk, Kd.freshB (g := gb196) (o := .cells #[.int .i64 a1_0, .int .i64 a1_1, .int .i64 a1_2, .int .i64 a1_3, .int .i64 t198] 95 (0, 0)) (by (with_reducible repeat (first | refine kN ?_ _ | refine kD ?_ | refine kA ?_ _)); exact BK196.out) k_ hk⟩)); (case aO => exact (by (with_reducible repeat (first | apply Kd.RA | apply Kd.RN | apply Kd.RD)); exact Kd.R_mono HO214.out (fun _ hk => ⟨hk.1.1.2, ⟨hk.1.2, hk.2⟩⟩))); (case aS => exact (bZ (by repeat (first | (with_reducible first | exact HB.out | apply bA | apply bN | apply b1 | refine bS ?_ GE196.out) | exact HB.out)))); (case aL => have := LMc29.out; omega); intro v216 w47 ho hb hg hat; rw [← Ny215.out] at ho; have n0_ := zK (blk_grown (g := gb196) (o := .cells #[.int .i64 a1_0, .int .i64 a1_1, .int .i64 a1_2, .int .i64 a1_3, .int .i64 t198] 95 (0, 0)) (by (with_reducible repeat (first | refine kN ?_ _ | refine kD ?_ | refine kA ?_ _)); exact BK196.out) hg (Kd.R_away HO214.out (fun _ hk => hk.2))); have n1_ := zK (Kd.R_after (ok := (fun k_ => some k_ ≠ (.slice Ao43 y208.length co43 : Value).ownBlock ∧ k_ ≠ gb196)) (by (with_reducible repeat (first | apply Kd.RA | apply Kd.RN | apply Kd.RD)); exact Kd.R_mono HO207.out (fun _ hk => ⟨⟨hk.1.2, hk.1.1⟩, hk.2⟩)) hg hat); have n2_ := zK (Kd.R_after (ok := (fun k_ => some k_ ≠ (.slice Ao42 y205.length co42 : Value).ownBlock ∧ k_ ≠ gb196)) (by (with_reducible repeat (first | apply Kd.RA | apply Kd.RN | apply Kd.RD)); exact HO210.out) hg hat); have n3_ := zK (hb); have n4_ := zK (ho); clear BK196; clear HO207; clear HO210; clear HB; clear HO214; have BK196 := n0_; have HO207 := n1_; have HO210 := n2_; have HB := n3_; have HO217 := n4_; clear n0_ n1_ n2_ n3_ n4_; clear ho hb hg hat))
      go_ret2
      exact ⟨_, by first | rfl | (simp [errW_none, errW_some] <;> rfl) | (simp [*, errW_none, errW_some] <;> rfl), by (with_reducible repeat (first | apply Kd.RA | apply Kd.RN | apply Kd.RD)); exact Kd.R_mono HO217.out (fun _ hk => trivial), by repeat (first | (with_reducible first | exact HB.out | apply bA | apply bN | apply b1 | refine bS ?_ GE196.out) | exact HB.out)⟩
end Go.Proofs.Ytpkdbkheggfkkaa.PFnCustody
