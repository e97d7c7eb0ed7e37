/- Walks of functions that FnCustody reaches: written by a tool of the kit for this claim, then shortened by a program of ours. -/
import Derived.Test.YtpkdbkheggfkkaaPFnCustodyx0
import Derived.Test.YtpkdbkheggfkkaaPFnCustodyx1
import Derived.Test.YtpkdbkheggfkkaaPFnCustodyx2
import Derived.Test.YtpkdbkheggfkkaaPFnCustodyx7
namespace Go.Proofs.Ytpkdbkheggfkkaa.PFnCustody
open Go.RowKit Go.Proofs.YtpkdbkheggfkkaaW.PrintWords Go.Proofs.YtpkdbkheggfkkaaW.PrintLast Go.Proofs.YtpkdbkheggfkkaaW.PrintMore
attribute [local go_sem] max2_int min2_int max_two min_two max_three min_three max_four min_four   -- for this text's walks alone
set_option linter.unusedVariables false
set_option linter.unusedSimpArgs false

abbrev b8A0 : Array Bool := #[bo, bo, bo, bo, bo, bo]
abbrev b8A1 : Array Bool := #[bi, bo, bo, bo, bo, bo]
abbrev b8A2 : Array Bool := #[bi, bo, bi, bo, bo, bo]
abbrev b8A3 : Array Bool := #[bi, bi, bi, bo, bo, bo]
abbrev b8A4 : Array Bool := #[bi, bo, bi, bi, bo, bo]
/-! ### impl_AddHand: function 63 -/
def impl_AddHand.j0 : Nat → List (S95) → Int → Int → Int → Int → Int → Int → Option ((List (S95)) × Bool)
  | 0, _, _, _, _, _, _, _ => none
  | k + 1, x0, x6, x298000, x298001, x298002, x298003, x298004 => (impl_HandSeal.f k x6 x298000 x298001 x298002 x298003 x298004).bind fun t299 => ((impl_Hand.f x0).bind fun t300 => ((some (([(⟨x298000, x298001, x298002, x298003, t299⟩ : S95)] : List (S95)) : List (S95))).bind fun y303 => (if t300.length + y303.length < 3518437208883 then ((some (t300 ++ y303 : List (S95))).bind fun y306 => ((impl_IsChain.f k y306).bind fun t309 => (if t309 = true then (some (y306, true)) else ((impl_Hand.f x0).bind fun t310 => (some (t310, false)))))) else (none))))
def impl_AddHand.f (k : Nat) (l0 : List (S95)) (a1_0 : Int) (a1_1 : Int) (a1_2 : Int) (a1_3 : Int) (a1_4 : Int) : Option ((List (S95)) × Bool) := if (l0.length : Int) > 0 then (if 0 ≤ (wrap64 ((l0.length : Int) - 1)) then (if (wrap64 ((l0.length : Int) - 1)) < (l0.length : Int) then (impl_AddHand.j0 k l0 ((rd_T95 l0 (wrap64 ((l0.length : Int) - 1))).f4) a1_0 a1_1 a1_2 a1_3 a1_4) else (none)) else (none)) else (impl_AddHand.j0 k l0 0 a1_0 a1_1 a1_2 a1_3 a1_4)
set_option maxHeartbeats 8000000 in
set_option maxRecDepth 100000 in
theorem impl_AddHand.calls (k : Nat) (A0 : Option Addr) (c0 : Nat) (l0 : List (S95)) (a1_0 : Int) (a1_1 : Int) (a1_2 : Int) (a1_3 : Int) (a1_4 : Int) (r1 : List (S95)) (r2 : Bool) (w : World) (hr0 : Kd.C k95 w A0 l0.length l0) (hc0 : l0.length ≤ c0) (h : impl_AddHand.f k l0 a1_0 a1_1 a1_2 a1_3 a1_4 = some (r1, r2)) :
    Calls Try.prog 63 #[.slice A0 l0.length c0, .agg #[.int .i64 a1_0, .int .i64 a1_1, .int .i64 a1_2, .int .i64 a1_3, .int .i64 a1_4]] w fun e w' => ∃ v0_ : Value, e = .returned (.tuple #[v0_, .bool r2]) ∧ Kd.R k95 95 w' w.heap.size (fun _ => True) v0_ r1 ∧ Below w.heap.size w w' := by
  have hu95 := Try.underlying95
  have HR0 := zK hr0
  have HC0 := zK hc0
  clear hr0 hc0
  have HB := zK (Below.refl w.heap.size w)
  have H : (if (l0.length : Int) > 0 then (if 0 ≤ (wrap64 ((l0.length : Int) - 1)) then (if (wrap64 ((l0.length : Int) - 1)) < (l0.length : Int) then (impl_AddHand.j0 k l0 ((rd_T95 l0 (wrap64 ((l0.length : Int) - 1))).f4) a1_0 a1_1 a1_2 a1_3 a1_4) else (none)) else (none)) else (impl_AddHand.j0 k l0 0 a1_0 a1_1 a1_2 a1_3 a1_4)) = some (r1, r2) := h
  clear h
  have HC3 := zK H
  clear H
  go_enter Try.func63, Try.ntmps63
  go_upto_if 10 with (first | ((with_reducible refine gate_dst (N := 3) rfl ?_); refine box_event ?hg (N := 3) ?hd (cs := #[.int .i64 a1_0, .int .i64 a1_1, .int .i64 a1_2, .int .i64 a1_3, .int .i64 a1_4]) (t := 95) ?hr ?_; (case hd => rfl); (case hg => rfl); (case hr => first | (go_simp; done) | (go_simp; rfl)); intro gb297 hg w4 hbox hb; have n0_ := zK (bT (by repeat (first | (with_reducible first | exact HB.out | apply bA | apply bN | apply b1) | exact HB.out)) hb); have n1_ := zK (hbox); have n2_ := zK ((by rw [hg]; exact (bZ (by repeat (first | (with_reducible first | exact HB.out | apply bA | apply bN | apply b1) | exact HB.out))) : w.heap.size ≤ gb297)); have n3_ := zK ((by rw [hg]; exact (bZ (by repeat (first | (with_reducible first | exact HB.out | apply bA | apply bN | apply b1) | exact HB.out))) : w.heap.size ≤ gb297)); clear HB; have HB := n0_; have BK297 := n1_; have GW297 := n2_; have GE297 := n3_; clear n0_ n1_ n2_ n3_; clear hb hbox hg))
  (try simp only [Act.put, sA, sZ, sS])
  go_cut [6] (fun v6 wc => ∃ (kq : Nat) (x6_2 : Int), v6 = .int .i64 x6_2 ∧ Aside0 (impl_AddHand.j0 kq l0 x6_2 a1_0 a1_1 a1_2 a1_3 a1_4 = some (r1, r2)) ∧ Aside0 (kq ≤ k) ∧ Aside0 (wc.heap[gb297]? = some (.cells #[.int .i64 a1_0, .int .i64 a1_1, .int .i64 a1_2, .int .i64 a1_3, .int .i64 a1_4] 95 (0, 0))) ∧ Aside0 (Below w.heap.size w wc))
  case first =>
    have H := HC3.out
    clear HC3
    by_cases c5 : (l0.length : Int) > 0
    rotate_left
    · rw [if_neg c5] at H
      have c5b0 : decide (0 < (l0.length : Int)) = false := decide_eq_false c5
      have c5b1 : decide (0 < l0.length) = false := decide_eq_false (by omega)
      clear c5
      (first | rw [c5b0] | rw [c5b1] | (simp only [i64_w, i32_w]; rw [c5b0]) | skip)
      have H' := zK H
      clear H
      go_wp2
      go_meet
      case rel => exact ⟨_, (0), (by first | rfl | (simp; done) | (simp [*]; done)), H', ⟨by first | omega | exact Nat.le_refl _⟩, ⟨by (with_reducible repeat (first | refine kN ?_ _ | refine kD ?_ | refine kA ?_ _)); exact BK297.out⟩, ⟨by repeat (first | (with_reducible first | exact HB.out | apply bA | apply bN | apply b1 | refine bS ?_ GE297.out) | exact HB.out)⟩⟩
    rw [if_pos c5] at H
    have c5b0 : decide (0 < (l0.length : Int)) = true := decide_eq_true c5
    have c5b1 : decide (0 < l0.length) = true := decide_eq_true (by omega)
    clear c5
    (first | rw [c5b0] | rw [c5b1] | (simp only [i64_w, i32_w]; rw [c5b0]) | skip)
    obtain ⟨ji6, hji6⟩ : ∃ j_ : Int, (wrap64 ((l0.length : Int) - 1)) = j_ := ⟨_, rfl⟩
    replace H : (if 0 ≤ (ji6) then (if (ji6) < (l0.length : Int) then (impl_AddHand.j0 k l0 ((rd_T95 l0 (ji6)).f4) a1_0 a1_1 a1_2 a1_3 a1_4) else (none)) else (none)) = some (r1, r2) := by first | (rw [hji6] at H; exact H) | (simp only [hji6] at H ⊢; exact H)
    have hji6w : (IntKind.i64.wrap ((l0.length : Int) - 1)) = ji6 := (i64_w _).trans hji6
    by_cases c7 : 0 ≤ (ji6)
    rotate_left
    · rw [if_neg c7] at H
      exact absurd H (by simp)
    rw [if_pos c7] at H
    have c7b0 : decide (0 ≤ (ji6)) = true := decide_eq_true c7
    clear c7
    by_cases c8 : (ji6) < (l0.length : Int)
    rotate_left
    · rw [if_neg c8] at H
      exact absurd H (by simp)
    rw [if_pos c8] at H
    have c8b0 : decide ((ji6) < (l0.length : Int)) = true := decide_eq_true c8
    clear c8
    have H' := zK H
    clear H
    have p298 : 0 ≤ ((ji6) : Int) := oD (by first | (with_reducible assumption) | assumption)
    have q298 : (ji6) < (l0.length : Int) := oD (by first | (with_reducible assumption) | assumption)
    obtain ⟨ad298, e298, hx298_0, hx298_1, hx298_2, hx298_3, hx298_4⟩ := at_T95 HR0.out (ji6) p298 q298
    cases e298
    replace hx298_0 := (HB.out.cell (bL w hx298_0)).trans hx298_0
    replace hx298_1 := (HB.out.cell (bL w hx298_1)).trans hx298_1
    replace hx298_2 := (HB.out.cell (bL w hx298_2)).trans hx298_2
    replace hx298_3 := (HB.out.cell (bL w hx298_3)).trans hx298_3
    replace hx298_4 := (HB.out.cell (bL w hx298_4)).trans hx298_4
    replace p298 := eq_true p298
    replace q298 := eq_true q298
    go_wp2
    go_meet
    case rel => exact ⟨_, ((rd_T95 l0 (ji6)).f4), (by first | rfl | (simp; done) | (simp only [← hji6] <;> (first | rfl | simp)) | (simp [*]; done)), H', ⟨by first | omega | exact Nat.le_refl _⟩, ⟨by (with_reducible repeat (first | refine kN ?_ _ | refine kD ?_ | refine kA ?_ _)); exact BK297.out⟩, ⟨by repeat (first | (with_reducible first | exact HB.out | apply bA | apply bN | apply b1 | refine bS ?_ GE297.out) | exact HB.out)⟩⟩
  case rest =>
    clear HC3
    try clear p2
    try clear q2
    try clear hx2
    try clear c5
    try clear c5b0
    try clear c5b1
    try clear c6
    try clear p6
    try clear c7
    try clear c7b0
    try clear c8
    try clear c8b0
    try clear hx298_0
    try clear hx298_1
    try clear hx298_2
    try clear hx298_3
    try clear hx298_4
    try clear p298
    try clear q298
    obtain ⟨kq, x6_2, rfl, HA, HJ2, BK297, HB⟩ := hcut
    cases kq with
    | zero => exact absurd HA.out (by simp [impl_AddHand.j0])
    | succ kj2 =>
      have H := HA.out
      clear HA
      simp only [impl_AddHand.j0] at H
      replace H := Option.bind_eq_some_iff.mp H
      obtain ⟨t299, A90, H⟩ := H
      replace H : ((impl_Hand.f l0).bind fun t300 => ((some (([(⟨a1_0, a1_1, a1_2, a1_3, t299⟩ : S95)] : List (S95)) : List (S95))).bind fun y303 => (if t300.length + y303.length < 3518437208883 then ((some (t300 ++ y303 : List (S95))).bind fun y306 => ((impl_IsChain.f kj2 y306).bind fun t309 => (if t309 = true then (some (y306, true)) else ((impl_Hand.f l0).bind fun t310 => (some (t310, false)))))) else (none)))) = some (r1, r2) := H
      have A9 := zK A90
      clear A90
      replace H := Option.bind_eq_some_iff.mp H
      obtain ⟨t300, A100, H⟩ := H
      replace H : ((some (([(⟨a1_0, a1_1, a1_2, a1_3, t299⟩ : S95)] : List (S95)) : List (S95))).bind fun y303 => (if t300.length + y303.length < 3518437208883 then ((some (t300 ++ y303 : List (S95))).bind fun y306 => ((impl_IsChain.f kj2 y306).bind fun t309 => (if t309 = true then (some (y306, true)) else ((impl_Hand.f l0).bind fun t310 => (some (t310, false)))))) else (none))) = some (r1, r2) := H
      have A10 := zK A100
      clear A100
      obtain ⟨y303, hy303⟩ : ∃ y_ : List (S95), y_ = (([(⟨a1_0, a1_1, a1_2, a1_3, t299⟩ : S95)] : List (S95))) := ⟨_, rfl⟩
      replace H : (if t300.length + y303.length < 3518437208883 then ((some (t300 ++ y303 : List (S95))).bind fun y306 => ((impl_IsChain.f kj2 y306).bind fun t309 => (if t309 = true then (some (y306, true)) else ((impl_Hand.f l0).bind fun t310 => (some (t310, false)))))) else (none)) = some (r1, r2) := by first | (rw [hy303]; with_reducible exact H) | (have H2_ := (Option.bind_some _ _).symm.trans H; rw [hy303]; with_reducible exact H2_) | (have H2_ := (Option.bind_some _ _).symm.trans H; with_reducible exact H2_) | with_reducible exact H | (rw [hy303]; exact H) | exact H
      have Ny303 := zK hy303
      clear hy303
      by_cases c11 : t300.length + y303.length < 3518437208883
      rotate_left
      · rw [if_neg c11] at H
        exact absurd H (by simp)
      rw [if_pos c11] at H
      have LMc11 := zK c11
      clear c11
      obtain ⟨y306, hy306⟩ : ∃ y_ : List (S95), y_ = (t300 ++ y303) := ⟨_, rfl⟩
      replace H : ((impl_IsChain.f kj2 y306).bind fun t309 => (if t309 = true then (some (y306, true)) else ((impl_Hand.f l0).bind fun t310 => (some (t310, false))))) = some (r1, r2) := by first | (rw [hy306]; with_reducible exact H) | (have H2_ := (Option.bind_some _ _).symm.trans H; rw [hy306]; with_reducible exact H2_) | (have H2_ := (Option.bind_some _ _).symm.trans H; with_reducible exact H2_) | with_reducible exact H | (rw [hy306]; exact H) | exact H
      have Ny306 := zK hy306
      clear hy306
      replace H := Option.bind_eq_some_iff.mp H
      obtain ⟨t309, A120, H⟩ := H
      replace H : (if t309 = true then (some (y306, true)) else ((impl_Hand.f l0).bind fun t310 => (some (t310, false)))) = some (r1, r2) := H
      have A12 := zK A120
      clear A120
      by_cases c13 : t309 = true
      · subst c13
        have H1 : (some (y306, true)) = some (r1, r2) := by rw [if_pos rfl] at H; exact H
        clear H
        have H := H1
        clear H1
        simp only [Option.some.injEq, Prod.mk.injEq] at H
        obtain ⟨rfl, rfl⟩ := H
        have hcz14_0 : wc.cell? ⟨gb297, 0, none⟩ = some (.int .i64 a1_0) := (bc BK297.out 0).trans rfl
        have hcz14_1 : wc.cell? ⟨gb297, 1, none⟩ = some (.int .i64 a1_1) := (bc BK297.out 1).trans rfl
        have hcz14_2 : wc.cell? ⟨gb297, 2, none⟩ = some (.int .i64 a1_2) := (bc BK297.out 2).trans rfl
        have hcz14_3 : wc.cell? ⟨gb297, 3, none⟩ = some (.int .i64 a1_3) := (bc BK297.out 3).trans rfl
        have hcz14_4 : wc.cell? ⟨gb297, 4, none⟩ = some (.int .i64 a1_4) := (bc BK297.out 4).trans rfl
        have hfz14_0 := bf BK297.out 0
        have hfz14_1 := bf BK297.out 1
        have hfz14_2 := bf BK297.out 2
        have hfz14_3 := bf BK297.out 3
        have hfz14_4 := bf BK297.out 4
        try go_wp2_with (first | ((with_reducible refine gate_callee (f := 66) rfl ?_); refine goesL_ (some 20) rfl rfl Try.func66 (by kernel_rfl) rfl #[.int .i64 x6_2, .agg #[.int .i64 a1_0, .int .i64 a1_1, .int .i64 a1_2, .int .i64 a1_3, .int .i64 a1_4]] rfl (by (try simp only [List.map_toArray, List.map_cons, List.map_nil]); first | done | rfl | (simp only [List.length_drop, List.length_take]; rfl)) ?_; (with_reducible refine (impl_HandSeal.calls kj2 x6_2 a1_0 a1_1 a1_2 a1_3 a1_4 t299 _ A9.out).mono ?_); rintro e w15 ⟨rfl, hb⟩; refine ⟨_, rfl, ?_⟩; have n0_ := zK (bB (g := gb297) (o := .cells #[.int .i64 a1_0, .int .i64 a1_1, .int .i64 a1_2, .int .i64 a1_3, .int .i64 a1_4] 95 (0, 0)) (by (with_reducible repeat (first | refine kN ?_ _ | refine kD ?_ | refine kA ?_ _)); exact BK297.out) hb); have n1_ := zK (bT (by repeat (first | (with_reducible first | exact HB.out | apply bA | apply bN | apply b1 | refine bS ?_ GE297.out) | exact HB.out)) hb); clear BK297; clear HB; have BK297 := n0_; have HB := n1_; clear n0_ n1_; (try clear hb); (try clear hb2); (try clear hk); (try clear hi); have hcz16_0 : w15.cell? ⟨gb297, 0, none⟩ = some (.int .i64 a1_0) := (bc BK297.out 0).trans rfl; have hcz16_1 : w15.cell? ⟨gb297, 1, none⟩ = some (.int .i64 a1_1) := (bc BK297.out 1).trans rfl; have hcz16_2 : w15.cell? ⟨gb297, 2, none⟩ = some (.int .i64 a1_2) := (bc BK297.out 2).trans rfl; have hcz16_3 : w15.cell? ⟨gb297, 3, none⟩ = some (.int .i64 a1_3) := (bc BK297.out 3).trans rfl; have hcz16_4 : w15.cell? ⟨gb297, 4, none⟩ = some (.int .i64 a1_4) := (bc BK297.out 4).trans rfl; have hfz16_0 := bf BK297.out 0; have hfz16_1 := bf BK297.out 1; have hfz16_2 := bf BK297.out 2; have hfz16_3 := bf BK297.out 3; have hfz16_4 := bf BK297.out 4))
        have n0_ : Aside0 ((w15.setCell ⟨gb297, 4, none⟩ (.int .i64 t299)).heap[gb297]? = some (.cells #[.int .i64 a1_0, .int .i64 a1_1, .int .i64 a1_2, .int .i64 a1_3, .int .i64 t299] 95 (0, 0))) := ⟨by (with_reducible repeat (first | refine kN ?_ _ | refine kD ?_ | refine kA ?_ _)); refine blk_put (cs := #[.int .i64 a1_0, .int .i64 a1_1, .int .i64 a1_2, .int .i64 a1_3, .int .i64 a1_4]) ?_ 4 _ rfl; (with_reducible repeat (first | refine kN ?_ _ | refine kD ?_ | refine kA ?_ _)); exact BK297.out⟩
        have n1_ : Aside0 (Below w.heap.size w (w15.setCell ⟨gb297, 4, none⟩ (.int .i64 t299))) := ⟨by repeat (first | (with_reducible first | exact HB.out | apply bA | apply bN | apply b1 | refine bS ?_ GE297.out) | exact HB.out)⟩
        (try clear BK297)
        (try clear HB)
        generalize (w15.setCell ⟨gb297, 4, none⟩ (.int .i64 t299)) = w17 at n0_ n1_ ⊢
        have BK297 := n0_
        have HB := n1_
        clear n0_ n1_
        have n0_ := zK (kD BK297.out)
        have n1_ := zK (b1 HB.out)
        clear BK297
        clear HB
        have BK297 := n0_
        have HB := n1_
        clear n0_ n1_
        refine start_ (n := 6) (S := fun w' => w'.cell? ⟨gb297, 0, none⟩ = some (.int .i64 a1_0) ∧ w'.cell? ⟨gb297, 1, none⟩ = some (.int .i64 a1_1) ∧ w'.cell? ⟨gb297, 2, none⟩ = some (.int .i64 a1_2) ∧ w'.cell? ⟨gb297, 3, none⟩ = some (.int .i64 a1_3) ∧ w'.cell? ⟨gb297, 4, none⟩ = some (.int .i64 t299)) (ds := []) b8A0 (by kernel_rfl) rfl rfl ⟨(bc BK297.out 0).trans rfl, (bc BK297.out 1).trans rfl, (bc BK297.out 2).trans rfl, (bc BK297.out 3).trans rfl, (bc BK297.out 4).trans rfl⟩ (fun hHeld => ?_)
        generalize w17.drew = w18 at BK297 HB hHeld ⊢
        refine pure_ (i := 0) (N := some 22) (v := ?_) (a' := ?_) b8A1 rfl rfl (by kernel_rfl) (fun _ _ _ h => h) (Or.inl ⟨by rfl, ?_⟩) ?_ ?_
        rotate_left
        · intro w'
          go_simp
          with_reducible rfl
        rotate_left
        · simp only [Act.put, sA, sZ, sS, i64_w, i32_w]
          rfl
        refine take_ (i := 2) (N := some 24) (v := ?_) (a' := ?_) b8A2 rfl rfl (by kernel_rfl) (fun _ _ _ h => h) (Or.inl ⟨by rfl, ?_⟩) hHeld ?_ ?_
        rotate_left
        · rintro w' ⟨s0, s1, s2, s3, s4⟩
          go_simp
          with_reducible rfl
        rotate_left
        · simp only [Act.put, sA, sZ, sS, i64_w, i32_w]
          rfl
        refine join_ (σ := Value × Value) 2 #[true, true, true, true, false, false] (fun s_ => [(23, s_.1), (25, s_.2)]) (fun s_ w' => (w'.cell? ⟨gb297, 0, none⟩ = some (.int .i64 a1_0) ∧ w'.cell? ⟨gb297, 1, none⟩ = some (.int .i64 a1_1) ∧ w'.cell? ⟨gb297, 2, none⟩ = some (.int .i64 a1_2) ∧ w'.cell? ⟨gb297, 3, none⟩ = some (.int .i64 a1_3) ∧ w'.cell? ⟨gb297, 4, none⟩ = some (.int .i64 t299)) ∧ (Kd.R k95 95 w' w.heap.size (fun k_ => some k_ ≠ (s_.2 : Value).ownBlock ∧ k_ ≠ gb297) s_.1 t300) ∧ (Kd.R k95 95 w' w.heap.size (fun k_ => some k_ ≠ (s_.1 : Value).ownBlock ∧ k_ ≠ gb297) s_.2 y303) ∧ (w'.heap[gb297]? = some (.cells #[.int .i64 a1_0, .int .i64 a1_1, .int .i64 a1_2, .int .i64 a1_3, .int .i64 t299] 95 (0, 0))) ∧ (Below w.heap.size w w')) ?_ ?_
        rotate_left
        · intro hCont
          refine two_ (i := 1) (j := 3) (Ni := some 23) (Nj := some 25) b8A3 b8A4 rfl rfl rfl rfl (by kernel_rfl) (by decide) (by decide) (fun K hK => ?_) (fun K hK => ?_)
          rotate_left
          · skip
            refine Kd.R_lit_step k95 _ 95 ?hg (N := 25) ?hd (xs := ([(⟨a1_0, a1_1, a1_2, a1_3, t299⟩ : S95)] : List (S95))) (inner := [.int .i64 a1_0, .int .i64 a1_1, .int .i64 a1_2, .int .i64 a1_3, .int .i64 t299]) (ok := fun _ => True) (okp := fun _ => True) ?hr ?hp (fun _ hk => hk) trivial (Below.refl _ _) (Nat.le_refl _) (by simp) ?_; (case hd => rfl); (case hg => rfl); (case hr => first | (go_simp; done) | (go_simp; rfl)); (case hp => exact (Reps.c5 (show Kd.M k95 _ _ _ (⟨a1_0, a1_1, a1_2, a1_3, t299⟩ : S95) [.int .i64 a1_0, .int .i64 a1_1, .int .i64 a1_2, .int .i64 a1_3, .int .i64 t299] from (k95_mkM _ _ _ (⟨a1_0, a1_1, a1_2, a1_3, t299⟩ : S95) )) (Reps.none _ _)))
            intro v304 w19 ho20 hb hg_ hnew_
            clear hg_ hnew_
            (first | rw [← Ny303.out] at ho20 | (simp only [Int.reduceToNat] at ho20; rw [← Ny303.out] at ho20))
            have n0_ := zK (Kd.R_lower (Kd.R_newB ho20 (g := gb297) (o := .cells #[.int .i64 a1_0, .int .i64 a1_1, .int .i64 a1_2, .int .i64 a1_3, .int .i64 t299] 95 (0, 0)) (by (with_reducible repeat (first | refine kN ?_ _ | refine kD ?_ | refine kA ?_ _)); exact BK297.out)) (bZ (by repeat (first | (with_reducible first | exact HB.out | apply bA | apply bN | apply b1 | refine bS ?_ GE297.out) | exact HB.out))))
            have n1_ := zK (bB (g := gb297) (o := .cells #[.int .i64 a1_0, .int .i64 a1_1, .int .i64 a1_2, .int .i64 a1_3, .int .i64 t299] 95 (0, 0)) (by (with_reducible repeat (first | refine kN ?_ _ | refine kD ?_ | refine kA ?_ _)); exact BK297.out) hb)
            have n2_ := zK (bT (by repeat (first | (with_reducible first | exact HB.out | apply bA | apply bN | apply b1 | refine bS ?_ GE297.out) | exact HB.out)) hb)
            clear BK297
            clear HB
            have HO305 := n0_
            have BK297 := n1_
            have HB := n2_
            clear n0_ n1_ n2_
            clear hb ho20
            refine hK.out _ _ ⟨(bc BK297.out 0).trans rfl, (bc BK297.out 1).trans rfl, (bc BK297.out 2).trans rfl, (bc BK297.out 3).trans rfl, (bc BK297.out 4).trans rfl⟩ (fun hHeld => ?_)
            clear hK K
            refine norm_ (a' := ?_) ?_ ?_
            rotate_left
            · show Act.put _ (some 25) _ = _
              simp only [Act.put, sA, sZ, sS, i64_w, i32_w]
              rfl
            refine one_ (i := 1) (N := some 23) #[true, true, true, true, false, false] rfl rfl (by kernel_rfl) (by decide) (fun K hK => ?_)
            refine goes_ Try.func127 (by kernel_rfl) rfl #[.slice A0 l0.length c0] (by rfl) rfl rfl (by (try simp only [List.map_toArray, List.map_cons, List.map_nil]); first | done | rfl | (simp only [List.length_drop, List.length_take]; rfl)) ?_
            with_reducible refine (impl_Hand.calls _ _ l0 t300 _ ?side1 ?side2 A10.out).mono ?_
            (case side1 => repeat (first | exact (Kd.C_below HR0.out HB.out) | (with_reducible refine Kd.CA ?_ _) | (with_reducible refine Kd.CN ?_ _) | (with_reducible refine Kd.CD ?_)))
            (case side2 => exact HC0.out)
            rintro e w21 ⟨v301, rfl, ho0, hb⟩
            refine ⟨_, rfl, ?_⟩
            have n0_ := zK (Kd.R_elder' (by (with_reducible repeat (first | apply Kd.RA | apply Kd.RN | apply Kd.RD)); exact HO305.out) (Kd.R_base ho0) hb)
            have n1_ := zK (Kd.R_lower (Kd.R_newB (Kd.R_new' ho0 (Kd.R_lt (by (with_reducible repeat (first | apply Kd.RA | apply Kd.RN | apply Kd.RD)); exact HO305.out))) (g := gb297) (o := .cells #[.int .i64 a1_0, .int .i64 a1_1, .int .i64 a1_2, .int .i64 a1_3, .int .i64 t299] 95 (0, 0)) (by (with_reducible repeat (first | refine kN ?_ _ | refine kD ?_ | refine kA ?_ _)); exact BK297.out)) (bZ (by repeat (first | (with_reducible first | exact HB.out | apply bA | apply bN | apply b1 | refine bS ?_ GE297.out) | exact HB.out))))
            have n2_ := zK (bB (g := gb297) (o := .cells #[.int .i64 a1_0, .int .i64 a1_1, .int .i64 a1_2, .int .i64 a1_3, .int .i64 t299] 95 (0, 0)) (by (with_reducible repeat (first | refine kN ?_ _ | refine kD ?_ | refine kA ?_ _)); exact BK297.out) hb)
            have n3_ := zK (bT (by repeat (first | (with_reducible first | exact HB.out | apply bA | apply bN | apply b1 | refine bS ?_ GE297.out) | exact HB.out)) hb)
            clear HO305
            clear BK297
            clear HB
            have HO305 := n0_
            have HO302 := n1_
            have BK297 := n2_
            have HB := n3_
            clear n0_ n1_ n2_ n3_
            (try clear hb)
            (try clear hb2)
            (try clear hk)
            (try clear hi)
            (try clear ho0)
            refine hK.out _ _ ⟨(bc BK297.out 0).trans rfl, (bc BK297.out 1).trans rfl, (bc BK297.out 2).trans rfl, (bc BK297.out 3).trans rfl, (bc BK297.out 4).trans rfl⟩ (fun hHeld => ?_)
            clear hK K
            refine norm_ (a' := ?_) ?_ ?_
            rotate_left
            · show Act.put _ (some 23) _ = _
              simp only [Act.put, sA, sZ, sS, i64_w, i32_w]
              rfl
            exact norm_ (by simp only [putAll, Act.put, sA, sZ, sS]) (hCont (v301, v304) _ ⟨hHeld, (by (with_reducible repeat (first | apply Kd.RA | apply Kd.RN | apply Kd.RD)); exact Kd.R_mono HO302.out (fun _ hk => ⟨hk.1.2, hk.2⟩)), (by (with_reducible repeat (first | apply Kd.RA | apply Kd.RN | apply Kd.RD)); exact Kd.R_mono HO305.out (fun _ hk => ⟨hk.2, hk.1.2⟩)), (by (with_reducible repeat (first | refine kN ?_ _ | refine kD ?_ | refine kA ?_ _)); exact BK297.out), (by repeat (first | (with_reducible first | exact HB.out | apply bA | apply bN | apply b1 | refine bS ?_ GE297.out) | exact HB.out))⟩)
          skip
          refine goes_ Try.func127 (by kernel_rfl) rfl #[.slice A0 l0.length c0] (by rfl) rfl rfl (by (try simp only [List.map_toArray, List.map_cons, List.map_nil]); first | done | rfl | (simp only [List.length_drop, List.length_take]; rfl)) ?_
          with_reducible refine (impl_Hand.calls _ _ l0 t300 _ ?side1 ?side2 A10.out).mono ?_
          (case side1 => repeat (first | exact (Kd.C_below HR0.out HB.out) | (with_reducible refine Kd.CA ?_ _) | (with_reducible refine Kd.CN ?_ _) | (with_reducible refine Kd.CD ?_)))
          (case side2 => exact HC0.out)
          rintro e w19 ⟨v301, rfl, ho0, hb⟩
          refine ⟨_, rfl, ?_⟩
          have n0_ := zK (Kd.R_lower (Kd.R_newB ho0 (g := gb297) (o := .cells #[.int .i64 a1_0, .int .i64 a1_1, .int .i64 a1_2, .int .i64 a1_3, .int .i64 t299] 95 (0, 0)) (by (with_reducible repeat (first | refine kN ?_ _ | refine kD ?_ | refine kA ?_ _)); exact BK297.out)) (bZ (by repeat (first | (with_reducible first | exact HB.out | apply bA | apply bN | apply b1 | refine bS ?_ GE297.out) | exact HB.out))))
          have n1_ := zK (bB (g := gb297) (o := .cells #[.int .i64 a1_0, .int .i64 a1_1, .int .i64 a1_2, .int .i64 a1_3, .int .i64 t299] 95 (0, 0)) (by (with_reducible repeat (first | refine kN ?_ _ | refine kD ?_ | refine kA ?_ _)); exact BK297.out) hb)
          have n2_ := zK (bT (by repeat (first | (with_reducible first | exact HB.out | apply bA | apply bN | apply b1 | refine bS ?_ GE297.out) | exact HB.out)) hb)
          clear BK297
          clear HB
          have HO302 := n0_
          have BK297 := n1_
          have HB := n2_
          clear n0_ n1_ n2_
          (try clear hb)
          (try clear hb2)
          (try clear hk)
          (try clear hi)
          (try clear ho0)
          refine hK.out _ _ ⟨(bc BK297.out 0).trans rfl, (bc BK297.out 1).trans rfl, (bc BK297.out 2).trans rfl, (bc BK297.out 3).trans rfl, (bc BK297.out 4).trans rfl⟩ (fun hHeld => ?_)
          clear hK K
          refine norm_ (a' := ?_) ?_ ?_
          rotate_left
          · show Act.put _ (some 23) _ = _
            simp only [Act.put, sA, sZ, sS, i64_w, i32_w]
            rfl
          refine one_ (i := 3) (N := some 25) #[true, true, true, true, false, false] rfl rfl (by kernel_rfl) (by decide) (fun K hK => ?_)
          refine Kd.R_lit_step k95 _ 95 ?hg (N := 25) ?hd (xs := ([(⟨a1_0, a1_1, a1_2, a1_3, t299⟩ : S95)] : List (S95))) (inner := [.int .i64 a1_0, .int .i64 a1_1, .int .i64 a1_2, .int .i64 a1_3, .int .i64 t299]) (ok := fun _ => True) (okp := fun _ => True) ?hr ?hp (fun _ hk => hk) trivial (Below.refl _ _) (Nat.le_refl _) (by simp) ?_; (case hd => rfl); (case hg => rfl); (case hr => first | (go_simp; done) | (go_simp; rfl)); (case hp => exact (Reps.c5 (show Kd.M k95 _ _ _ (⟨a1_0, a1_1, a1_2, a1_3, t299⟩ : S95) [.int .i64 a1_0, .int .i64 a1_1, .int .i64 a1_2, .int .i64 a1_3, .int .i64 t299] from (k95_mkM _ _ _ (⟨a1_0, a1_1, a1_2, a1_3, t299⟩ : S95) )) (Reps.none _ _)))
          intro v304 w20 ho21 hb hg_ hnew_
          clear hg_ hnew_
          (first | rw [← Ny303.out] at ho21 | (simp only [Int.reduceToNat] at ho21; rw [← Ny303.out] at ho21))
          have n0_ := zK (Kd.R_elder' (by (with_reducible repeat (first | apply Kd.RA | apply Kd.RN | apply Kd.RD)); exact HO302.out) (Kd.R_base ho21) hb)
          have n1_ := zK (Kd.R_lower (Kd.R_newB (Kd.R_new' ho21 (Kd.R_lt (by (with_reducible repeat (first | apply Kd.RA | apply Kd.RN | apply Kd.RD)); exact HO302.out))) (g := gb297) (o := .cells #[.int .i64 a1_0, .int .i64 a1_1, .int .i64 a1_2, .int .i64 a1_3, .int .i64 t299] 95 (0, 0)) (by (with_reducible repeat (first | refine kN ?_ _ | refine kD ?_ | refine kA ?_ _)); exact BK297.out)) (bZ (by repeat (first | (with_reducible first | exact HB.out | apply bA | apply bN | apply b1 | refine bS ?_ GE297.out) | exact HB.out))))
          have n2_ := zK (bB (g := gb297) (o := .cells #[.int .i64 a1_0, .int .i64 a1_1, .int .i64 a1_2, .int .i64 a1_3, .int .i64 t299] 95 (0, 0)) (by (with_reducible repeat (first | refine kN ?_ _ | refine kD ?_ | refine kA ?_ _)); exact BK297.out) hb)
          have n3_ := zK (bT (by repeat (first | (with_reducible first | exact HB.out | apply bA | apply bN | apply b1 | refine bS ?_ GE297.out) | exact HB.out)) hb)
          clear HO302
          clear BK297
          clear HB
          have HO302 := n0_
          have HO305 := n1_
          have BK297 := n2_
          have HB := n3_
          clear n0_ n1_ n2_ n3_
          clear hb ho21
          refine hK.out _ _ ⟨(bc BK297.out 0).trans rfl, (bc BK297.out 1).trans rfl, (bc BK297.out 2).trans rfl, (bc BK297.out 3).trans rfl, (bc BK297.out 4).trans rfl⟩ (fun hHeld => ?_)
          clear hK K
          refine norm_ (a' := ?_) ?_ ?_
          rotate_left
          · show Act.put _ (some 25) _ = _
            simp only [Act.put, sA, sZ, sS, i64_w, i32_w]
            rfl
          exact norm_ (by simp only [putAll, Act.put, sA, sZ, sS]) (hCont (v301, v304) _ ⟨hHeld, (by (with_reducible repeat (first | apply Kd.RA | apply Kd.RN | apply Kd.RD)); exact Kd.R_mono HO302.out (fun _ hk => ⟨hk.2, hk.1.2⟩)), (by (with_reducible repeat (first | apply Kd.RA | apply Kd.RN | apply Kd.RD)); exact Kd.R_mono HO305.out (fun _ hk => ⟨hk.1.2, hk.2⟩)), (by (with_reducible repeat (first | refine kN ?_ _ | refine kD ?_ | refine kA ?_ _)); exact BK297.out), (by repeat (first | (with_reducible first | exact HB.out | apply bA | apply bN | apply b1 | refine bS ?_ GE297.out) | exact HB.out))⟩)
        rintro ⟨v301, v304⟩ w22 ⟨hS_, h0_, h1_, h2_, h3_⟩
        have n0_ : Aside0 (Kd.R k95 95 w22 w.heap.size (fun k_ => some k_ ≠ (v304 : Value).ownBlock ∧ k_ ≠ gb297) v301 t300) := ⟨h0_⟩
        have n1_ : Aside0 (Kd.R k95 95 w22 w.heap.size (fun k_ => some k_ ≠ (v301 : Value).ownBlock ∧ k_ ≠ gb297) v304 y303) := ⟨h1_⟩
        have n2_ : Aside0 (w22.heap[gb297]? = some (.cells #[.int .i64 a1_0, .int .i64 a1_1, .int .i64 a1_2, .int .i64 a1_3, .int .i64 t299] 95 (0, 0))) := ⟨h2_⟩
        have n3_ : Aside0 (Below w.heap.size w w22) := ⟨h3_⟩
        clear BK297
        clear HB
        clear h0_ h1_ h2_ h3_
        have HO302 := n0_
        have HO305 := n1_
        have BK297 := n2_
        have HB := n3_
        clear n0_ n1_ n2_ n3_
        have hHeld : w22.cell? ⟨gb297, 0, none⟩ = some (.int .i64 a1_0) ∧ w22.cell? ⟨gb297, 1, none⟩ = some (.int .i64 a1_1) ∧ w22.cell? ⟨gb297, 2, none⟩ = some (.int .i64 a1_2) ∧ w22.cell? ⟨gb297, 3, none⟩ = some (.int .i64 a1_3) ∧ w22.cell? ⟨gb297, 4, none⟩ = some (.int .i64 t299) := hS_
        obtain ⟨Ao24, co24, eo24⟩ := Kd.R_slice HO305.out
        (first | subst eo24 | (injection eo24 with f1_ f2_ f3_; have f4_ := f1_.symm; have f5_ := f3_.symm; clear f1_ f2_ f3_; subst f4_; subst f5_))
        refine norm_ (a' := ?_) ?_ ?_
        rotate_left
        · simp only [putAll, Act.put, sA, sZ, sS]
          rfl
        refine one_ (i := 4) (N := some 26) #[true, true, true, true, true, false] rfl rfl (by kernel_rfl) (by decide) (fun K hK => ?_)
        refine Kd.R_append_rows_step k95 (w0 := w) w.heap.size (by rfl) (.tmp 23) (.tmp 25) 68 95 (.agg #[(.int .i64 0), (.int .i64 0), (.int .i64 0), (.int .i64 0), (.int .i64 0)]) 40 rfl Try.underlying68 info95 rfl (by decide) (by omega) v301 t300 y303 _ _ _ (fun k_ => some k_ ≠ (.slice Ao24 y303.length co24 : Value).ownBlock ∧ k_ ≠ gb297) (fun _ => False) rfl rfl ?aO ?aR (fun _ _ h => h) (fun _ h => h.elim) ?aF ?aB ?aS ?aL ?_
        (case aR => repeat (first | exact (Kd.R_reads' HO305.out).2.2 | (with_reducible refine Kd.CA ?_ _) | (with_reducible refine Kd.CN ?_ _) | (with_reducible refine Kd.CD ?_)))
        (case aB => exact (by repeat (first | (with_reducible first | exact HB.out | apply bA | apply bN | apply b1 | refine bS ?_ GE297.out) | exact HB.out)))
        (case aF => exact (fun k_ hk => ⟨Kd.fresh' (Kd.R_lt (by (with_reducible repeat (first | apply Kd.RA | apply Kd.RN | apply Kd.RD)); exact HO305.out)) k_ hk, Kd.freshB (g := gb297) (o := .cells #[.int .i64 a1_0, .int .i64 a1_1, .int .i64 a1_2, .int .i64 a1_3, .int .i64 t299] 95 (0, 0)) (by (with_reducible repeat (first | refine kN ?_ _ | refine kD ?_ | refine kA ?_ _)); exact BK297.out) k_ hk⟩))
        (case aO => exact (by (with_reducible repeat (first | apply Kd.RA | apply Kd.RN | apply Kd.RD)); exact HO302.out))
        (case aS => exact (bZ (by repeat (first | (with_reducible first | exact HB.out | apply bA | apply bN | apply b1 | refine bS ?_ GE297.out) | exact HB.out))))
        (case aL => have := LMc11.out; omega)
        intro v307 w23 ho hb hg hat
        rw [← Ny306.out] at ho
        have n0_ := zK (blk_grown (g := gb297) (o := .cells #[.int .i64 a1_0, .int .i64 a1_1, .int .i64 a1_2, .int .i64 a1_3, .int .i64 t299] 95 (0, 0)) (by (with_reducible repeat (first | refine kN ?_ _ | refine kD ?_ | refine kA ?_ _)); exact BK297.out) hg (Kd.R_away HO302.out (fun _ hk => hk.2)))
        have n1_ := zK (Kd.R_after (ok := (fun k_ => k_ ≠ gb297)) (by (with_reducible repeat (first | apply Kd.RA | apply Kd.RN | apply Kd.RD)); exact Kd.R_mono HO305.out (fun _ hk => ⟨hk.2, hk.1⟩)) hg hat)
        have n2_ := zK (hb)
        have n3_ := zK (ho)
        clear BK297
        clear HO305
        clear HB
        clear HO302
        have BK297 := n0_
        have HO305 := n1_
        have HB := n2_
        have HO308 := n3_
        clear n0_ n1_ n2_ n3_
        clear ho hb hg hat
        refine hK.out _ _ ⟨(bc BK297.out 0).trans rfl, (bc BK297.out 1).trans rfl, (bc BK297.out 2).trans rfl, (bc BK297.out 3).trans rfl, (bc BK297.out 4).trans rfl⟩ (fun hHeld => ?_)
        clear hK K
        refine norm_ (a' := ?_) ?_ ?_
        rotate_left
        · show Act.put _ (some 26) _ = _
          simp only [Act.put, sA, sZ, sS, i64_w, i32_w]
          rfl
        refine pure_ (i := 5) (N := some 7) (v := ?_) (a' := ?_) #[true, true, true, true, true, true] rfl rfl (by kernel_rfl) (fun _ _ _ h => h) (Or.inl ⟨by rfl, ?_⟩) ?_ ?_
        rotate_left
        · intro w'
          go_simp
          with_reducible rfl
        rotate_left
        · simp only [Act.put, sA, sZ, sS, i64_w, i32_w]
          rfl
        refine done_ (by kernel_rfl) ?_
        obtain ⟨Ao25, co25, eo25⟩ := Kd.R_slice HO308.out
        subst eo25
        try go_wp2_with (first | ((with_reducible refine gate_callee (f := 65) rfl ?_); refine goesL_ (some 28) rfl rfl Try.func65 (by kernel_rfl) rfl #[.slice Ao25 y306.length co25] rfl (by (try simp only [List.map_toArray, List.map_cons, List.map_nil]); first | done | rfl | (simp only [List.length_drop, List.length_take]; rfl)) ?_; (with_reducible refine (impl_IsChain.calls kj2 _ _ y306 true _ ?side1 ?side2 A12.out).mono ?_); (case side1 => repeat (first | exact (Kd.R_reads' HO308.out).2.2 | (with_reducible refine Kd.CA ?_ _) | (with_reducible refine Kd.CN ?_ _) | (with_reducible refine Kd.CD ?_))); (case side2 => exact (Kd.R_reads' HO308.out).2.1); rintro e w26 ⟨rfl, hb⟩; refine ⟨_, rfl, ?_⟩; have n0_ := zK (Kd.R_below (by (with_reducible repeat (first | apply Kd.RA | apply Kd.RN | apply Kd.RD)); exact HO305.out) hb); have n1_ := zK (Kd.R_below (by (with_reducible repeat (first | apply Kd.RA | apply Kd.RN | apply Kd.RD)); exact HO308.out) hb); have n2_ := zK (bB (g := gb297) (o := .cells #[.int .i64 a1_0, .int .i64 a1_1, .int .i64 a1_2, .int .i64 a1_3, .int .i64 t299] 95 (0, 0)) (by (with_reducible repeat (first | refine kN ?_ _ | refine kD ?_ | refine kA ?_ _)); exact BK297.out) hb); have n3_ := zK (bT (by repeat (first | (with_reducible first | exact HB.out | apply bA | apply bN | apply b1 | refine bS ?_ GE297.out) | exact HB.out)) hb); clear HO305; clear HO308; clear BK297; clear HB; have HO305 := n0_; have HO308 := n1_; have BK297 := n2_; have HB := n3_; clear n0_ n1_ n2_ n3_; (try clear hb); (try clear hb2); (try clear hk); (try clear hi)))
        go_ret2
        exact ⟨_, by first | rfl | (simp [errW_none, errW_some] <;> rfl) | (simp [*, errW_none, errW_some] <;> rfl), by (with_reducible repeat (first | apply Kd.RA | apply Kd.RN | apply Kd.RD)); exact Kd.R_mono HO308.out (fun _ hk => trivial), by repeat (first | (with_reducible first | exact HB.out | apply bA | apply bN | apply b1 | refine bS ?_ GE297.out) | exact HB.out)⟩
      replace c13 := Bool.eq_false_iff.mpr c13
      subst c13
      have H1 : ((impl_Hand.f l0).bind fun t310 => (some (t310, false))) = some (r1, r2) := by rw [if_neg (show ¬ (false = true) by decide)] at H; exact H
      clear H
      have H := H1
      clear H1
      replace H := Option.bind_eq_some_iff.mp H
      obtain ⟨t310, A270, H⟩ := H
      replace H : (some (t310, false)) = some (r1, r2) := H
      have A27 := zK A270
      clear A270
      simp only [Option.some.injEq, Prod.mk.injEq] at H
      obtain ⟨rfl, rfl⟩ := H
      have hcz28_0 : wc.cell? ⟨gb297, 0, none⟩ = some (.int .i64 a1_0) := (bc BK297.out 0).trans rfl
      have hcz28_1 : wc.cell? ⟨gb297, 1, none⟩ = some (.int .i64 a1_1) := (bc BK297.out 1).trans rfl
      have hcz28_2 : wc.cell? ⟨gb297, 2, none⟩ = some (.int .i64 a1_2) := (bc BK297.out 2).trans rfl
      have hcz28_3 : wc.cell? ⟨gb297, 3, none⟩ = some (.int .i64 a1_3) := (bc BK297.out 3).trans rfl
      have hcz28_4 : wc.cell? ⟨gb297, 4, none⟩ = some (.int .i64 a1_4) := (bc BK297.out 4).trans rfl
      have hfz28_0 := bf BK297.out 0
      have hfz28_1 := bf BK297.out 1
      have hfz28_2 := bf BK297.out 2
      have hfz28_3 := bf BK297.out 3
      have hfz28_4 := bf BK297.out 4
      try go_wp2_with (first | ((with_reducible refine gate_callee (f := 66) rfl ?_); refine goesL_ (some 20) rfl rfl Try.func66 (by kernel_rfl) rfl #[.int .i64 x6_2, .agg #[.int .i64 a1_0, .int .i64 a1_1, .int .i64 a1_2, .int .i64 a1_3, .int .i64 a1_4]] rfl (by (try simp only [List.map_toArray, List.map_cons, List.map_nil]); first | done | rfl | (simp only [List.length_drop, List.length_take]; rfl)) ?_; (with_reducible refine (impl_HandSeal.calls kj2 x6_2 a1_0 a1_1 a1_2 a1_3 a1_4 t299 _ A9.out).mono ?_); rintro e w29 ⟨rfl, hb⟩; refine ⟨_, rfl, ?_⟩; have n0_ := zK (bB (g := gb297) (o := .cells #[.int .i64 a1_0, .int .i64 a1_1, .int .i64 a1_2, .int .i64 a1_3, .int .i64 a1_4] 95 (0, 0)) (by (with_reducible repeat (first | refine kN ?_ _ | refine kD ?_ | refine kA ?_ _)); exact BK297.out) hb); have n1_ := zK (bT (by repeat (first | (with_reducible first | exact HB.out | apply bA | apply bN | apply b1 | refine bS ?_ GE297.out) | exact HB.out)) hb); clear BK297; clear HB; have BK297 := n0_; have HB := n1_; clear n0_ n1_; (try clear hb); (try clear hb2); (try clear hk); (try clear hi); have hcz30_0 : w29.cell? ⟨gb297, 0, none⟩ = some (.int .i64 a1_0) := (bc BK297.out 0).trans rfl; have hcz30_1 : w29.cell? ⟨gb297, 1, none⟩ = some (.int .i64 a1_1) := (bc BK297.out 1).trans rfl; have hcz30_2 : w29.cell? ⟨gb297, 2, none⟩ = some (.int .i64 a1_2) := (bc BK297.out 2).trans rfl; have hcz30_3 : w29.cell? ⟨gb297, 3, none⟩ = some (.int .i64 a1_3) := (bc BK297.out 3).trans rfl; have hcz30_4 : w29.cell? ⟨gb297, 4, none⟩ = some (.int .i64 a1_4) := (bc BK297.out 4).trans rfl; have hfz30_0 := bf BK297.out 0; have hfz30_1 := bf BK297.out 1; have hfz30_2 := bf BK297.out 2; have hfz30_3 := bf BK297.out 3; have hfz30_4 := bf BK297.out 4))
      have n0_ : Aside0 ((w29.setCell ⟨gb297, 4, none⟩ (.int .i64 t299)).heap[gb297]? = some (.cells #[.int .i64 a1_0, .int .i64 a1_1, .int .i64 a1_2, .int .i64 a1_3, .int .i64 t299] 95 (0, 0))) := ⟨by (with_reducible repeat (first | refine kN ?_ _ | refine kD ?_ | refine kA ?_ _)); refine blk_put (cs := #[.int .i64 a1_0, .int .i64 a1_1, .int .i64 a1_2, .int .i64 a1_3, .int .i64 a1_4]) ?_ 4 _ rfl; (with_reducible repeat (first | refine kN ?_ _ | refine kD ?_ | refine kA ?_ _)); exact BK297.out⟩
      have n1_ : Aside0 (Below w.heap.size w (w29.setCell ⟨gb297, 4, none⟩ (.int .i64 t299))) := ⟨by repeat (first | (with_reducible first | exact HB.out | apply bA | apply bN | apply b1 | refine bS ?_ GE297.out) | exact HB.out)⟩
      (try clear BK297)
      (try clear HB)
      generalize (w29.setCell ⟨gb297, 4, none⟩ (.int .i64 t299)) = w31 at n0_ n1_ ⊢
      have BK297 := n0_
      have HB := n1_
      clear n0_ n1_
      have n0_ := zK (kD BK297.out)
      have n1_ := zK (b1 HB.out)
      clear BK297
      clear HB
      have BK297 := n0_
      have HB := n1_
      clear n0_ n1_
      refine start_ (n := 6) (S := fun w' => w'.cell? ⟨gb297, 0, none⟩ = some (.int .i64 a1_0) ∧ w'.cell? ⟨gb297, 1, none⟩ = some (.int .i64 a1_1) ∧ w'.cell? ⟨gb297, 2, none⟩ = some (.int .i64 a1_2) ∧ w'.cell? ⟨gb297, 3, none⟩ = some (.int .i64 a1_3) ∧ w'.cell? ⟨gb297, 4, none⟩ = some (.int .i64 t299)) (ds := []) b8A0 (by kernel_rfl) rfl rfl ⟨(bc BK297.out 0).trans rfl, (bc BK297.out 1).trans rfl, (bc BK297.out 2).trans rfl, (bc BK297.out 3).trans rfl, (bc BK297.out 4).trans rfl⟩ (fun hHeld => ?_)
      generalize w31.drew = w32 at BK297 HB hHeld ⊢
      refine pure_ (i := 0) (N := some 22) (v := ?_) (a' := ?_) b8A1 rfl rfl (by kernel_rfl) (fun _ _ _ h => h) (Or.inl ⟨by rfl, ?_⟩) ?_ ?_
      rotate_left
      · intro w'
        go_simp
        with_reducible rfl
      rotate_left
      · simp only [Act.put, sA, sZ, sS, i64_w, i32_w]
        rfl
      refine take_ (i := 2) (N := some 24) (v := ?_) (a' := ?_) b8A2 rfl rfl (by kernel_rfl) (fun _ _ _ h => h) (Or.inl ⟨by rfl, ?_⟩) hHeld ?_ ?_
      rotate_left
      · rintro w' ⟨s0, s1, s2, s3, s4⟩
        go_simp
        with_reducible rfl
      rotate_left
      · simp only [Act.put, sA, sZ, sS, i64_w, i32_w]
        rfl
      refine join_ (σ := Value × Value) 2 #[true, true, true, true, false, false] (fun s_ => [(23, s_.1), (25, s_.2)]) (fun s_ w' => (w'.cell? ⟨gb297, 0, none⟩ = some (.int .i64 a1_0) ∧ w'.cell? ⟨gb297, 1, none⟩ = some (.int .i64 a1_1) ∧ w'.cell? ⟨gb297, 2, none⟩ = some (.int .i64 a1_2) ∧ w'.cell? ⟨gb297, 3, none⟩ = some (.int .i64 a1_3) ∧ w'.cell? ⟨gb297, 4, none⟩ = some (.int .i64 t299)) ∧ (Kd.R k95 95 w' w.heap.size (fun k_ => some k_ ≠ (s_.2 : Value).ownBlock ∧ k_ ≠ gb297) s_.1 t300) ∧ (Kd.R k95 95 w' w.heap.size (fun k_ => some k_ ≠ (s_.1 : Value).ownBlock ∧ k_ ≠ gb297) s_.2 y303) ∧ (w'.heap[gb297]? = some (.cells #[.int .i64 a1_0, .int .i64 a1_1, .int .i64 a1_2, .int .i64 a1_3, .int .i64 t299] 95 (0, 0))) ∧ (Below w.heap.size w w')) ?_ ?_
      rotate_left
      · intro hCont
        refine two_ (i := 1) (j := 3) (Ni := some 23) (Nj := some 25) b8A3 b8A4 rfl rfl rfl rfl (by kernel_rfl) (by decide) (by decide) (fun K hK => ?_) (fun K hK => ?_)
        rotate_left
        · skip
          refine Kd.R_lit_step k95 _ 95 ?hg (N := 25) ?hd (xs := ([(⟨a1_0, a1_1, a1_2, a1_3, t299⟩ : S95)] : List (S95))) (inner := [.int .i64 a1_0, .int .i64 a1_1, .int .i64 a1_2, .int .i64 a1_3, .int .i64 t299]) (ok := fun _ => True) (okp := fun _ => True) ?hr ?hp (fun _ hk => hk) trivial (Below.refl _ _) (Nat.le_refl _) (by simp) ?_; (case hd => rfl); (case hg => rfl); (case hr => first | (go_simp; done) | (go_simp; rfl)); (case hp => exact (Reps.c5 (show Kd.M k95 _ _ _ (⟨a1_0, a1_1, a1_2, a1_3, t299⟩ : S95) [.int .i64 a1_0, .int .i64 a1_1, .int .i64 a1_2, .int .i64 a1_3, .int .i64 t299] from (k95_mkM _ _ _ (⟨a1_0, a1_1, a1_2, a1_3, t299⟩ : S95) )) (Reps.none _ _)))
          intro v304 w33 ho34 hb hg_ hnew_
          clear hg_ hnew_
          (first | rw [← Ny303.out] at ho34 | (simp only [Int.reduceToNat] at ho34; rw [← Ny303.out] at ho34))
          have n0_ := zK (Kd.R_lower (Kd.R_newB ho34 (g := gb297) (o := .cells #[.int .i64 a1_0, .int .i64 a1_1, .int .i64 a1_2, .int .i64 a1_3, .int .i64 t299] 95 (0, 0)) (by (with_reducible repeat (first | refine kN ?_ _ | refine kD ?_ | refine kA ?_ _)); exact BK297.out)) (bZ (by repeat (first | (with_reducible first | exact HB.out | apply bA | apply bN | apply b1 | refine bS ?_ GE297.out) | exact HB.out))))
          have n1_ := zK (bB (g := gb297) (o := .cells #[.int .i64 a1_0, .int .i64 a1_1, .int .i64 a1_2, .int .i64 a1_3, .int .i64 t299] 95 (0, 0)) (by (with_reducible repeat (first | refine kN ?_ _ | refine kD ?_ | refine kA ?_ _)); exact BK297.out) hb)
          have n2_ := zK (bT (by repeat (first | (with_reducible first | exact HB.out | apply bA | apply bN | apply b1 | refine bS ?_ GE297.out) | exact HB.out)) hb)
          clear BK297
          clear HB
          have HO305 := n0_
          have BK297 := n1_
          have HB := n2_
          clear n0_ n1_ n2_
          clear hb ho34
          refine hK.out _ _ ⟨(bc BK297.out 0).trans rfl, (bc BK297.out 1).trans rfl, (bc BK297.out 2).trans rfl, (bc BK297.out 3).trans rfl, (bc BK297.out 4).trans rfl⟩ (fun hHeld => ?_)
          clear hK K
          refine norm_ (a' := ?_) ?_ ?_
          rotate_left
          · show Act.put _ (some 25) _ = _
            simp only [Act.put, sA, sZ, sS, i64_w, i32_w]
            rfl
          refine one_ (i := 1) (N := some 23) #[true, true, true, true, false, false] rfl rfl (by kernel_rfl) (by decide) (fun K hK => ?_)
          refine goes_ Try.func127 (by kernel_rfl) rfl #[.slice A0 l0.length c0] (by rfl) rfl rfl (by (try simp only [List.map_toArray, List.map_cons, List.map_nil]); first | done | rfl | (simp only [List.length_drop, List.length_take]; rfl)) ?_
          with_reducible refine (impl_Hand.calls _ _ l0 t300 _ ?side1 ?side2 A10.out).mono ?_
          (case side1 => repeat (first | exact (Kd.C_below HR0.out HB.out) | (with_reducible refine Kd.CA ?_ _) | (with_reducible refine Kd.CN ?_ _) | (with_reducible refine Kd.CD ?_)))
          (case side2 => exact HC0.out)
          rintro e w35 ⟨v301, rfl, ho0, hb⟩
          refine ⟨_, rfl, ?_⟩
          have n0_ := zK (Kd.R_elder' (by (with_reducible repeat (first | apply Kd.RA | apply Kd.RN | apply Kd.RD)); exact HO305.out) (Kd.R_base ho0) hb)
          have n1_ := zK (Kd.R_lower (Kd.R_newB (Kd.R_new' ho0 (Kd.R_lt (by (with_reducible repeat (first | apply Kd.RA | apply Kd.RN | apply Kd.RD)); exact HO305.out))) (g := gb297) (o := .cells #[.int .i64 a1_0, .int .i64 a1_1, .int .i64 a1_2, .int .i64 a1_3, .int .i64 t299] 95 (0, 0)) (by (with_reducible repeat (first | refine kN ?_ _ | refine kD ?_ | refine kA ?_ _)); exact BK297.out)) (bZ (by repeat (first | (with_reducible first | exact HB.out | apply bA | apply bN | apply b1 | refine bS ?_ GE297.out) | exact HB.out))))
          have n2_ := zK (bB (g := gb297) (o := .cells #[.int .i64 a1_0, .int .i64 a1_1, .int .i64 a1_2, .int .i64 a1_3, .int .i64 t299] 95 (0, 0)) (by (with_reducible repeat (first | refine kN ?_ _ | refine kD ?_ | refine kA ?_ _)); exact BK297.out) hb)
          have n3_ := zK (bT (by repeat (first | (with_reducible first | exact HB.out | apply bA | apply bN | apply b1 | refine bS ?_ GE297.out) | exact HB.out)) hb)
          clear HO305
          clear BK297
          clear HB
          have HO305 := n0_
          have HO302 := n1_
          have BK297 := n2_
          have HB := n3_
          clear n0_ n1_ n2_ n3_
          (try clear hb)
          (try clear hb2)
          (try clear hk)
          (try clear hi)
          (try clear ho0)
          refine hK.out _ _ ⟨(bc BK297.out 0).trans rfl, (bc BK297.out 1).trans rfl, (bc BK297.out 2).trans rfl, (bc BK297.out 3).trans rfl, (bc BK297.out 4).trans rfl⟩ (fun hHeld => ?_)
          clear hK K
          refine norm_ (a' := ?_) ?_ ?_
          rotate_left
          · show Act.put _ (some 23) _ = _
            simp only [Act.put, sA, sZ, sS, i64_w, i32_w]
            rfl
          exact norm_ (by simp only [putAll, Act.put, sA, sZ, sS]) (hCont (v301, v304) _ ⟨hHeld, (by (with_reducible repeat (first | apply Kd.RA | apply Kd.RN | apply Kd.RD)); exact Kd.R_mono HO302.out (fun _ hk => ⟨hk.1.2, hk.2⟩)), (by (with_reducible repeat (first | apply Kd.RA | apply Kd.RN | apply Kd.RD)); exact Kd.R_mono HO305.out (fun _ hk => ⟨hk.2, hk.1.2⟩)), (by (with_reducible repeat (first | refine kN ?_ _ | refine kD ?_ | refine kA ?_ _)); exact BK297.out), (by repeat (first | (with_reducible first | exact HB.out | apply bA | apply bN | apply b1 | refine bS ?_ GE297.out) | exact HB.out))⟩)
        skip
        refine goes_ Try.func127 (by kernel_rfl) rfl #[.slice A0 l0.length c0] (by rfl) rfl rfl (by (try simp only [List.map_toArray, List.map_cons, List.map_nil]); first | done | rfl | (simp only [List.length_drop, List.length_take]; rfl)) ?_
        with_reducible refine (impl_Hand.calls _ _ l0 t300 _ ?side1 ?side2 A10.out).mono ?_
        (case side1 => repeat (first | exact (Kd.C_below HR0.out HB.out) | (with_reducible refine Kd.CA ?_ _) | (with_reducible refine Kd.CN ?_ _) | (with_reducible refine Kd.CD ?_)))
        (case side2 => exact HC0.out)
        rintro e w33 ⟨v301, rfl, ho0, hb⟩
        refine ⟨_, rfl, ?_⟩
        have n0_ := zK (Kd.R_lower (Kd.R_newB ho0 (g := gb297) (o := .cells #[.int .i64 a1_0, .int .i64 a1_1, .int .i64 a1_2, .int .i64 a1_3, .int .i64 t299] 95 (0, 0)) (by (with_reducible repeat (first | refine kN ?_ _ | refine kD ?_ | refine kA ?_ _)); exact BK297.out)) (bZ (by repeat (first | (with_reducible first | exact HB.out | apply bA | apply bN | apply b1 | refine bS ?_ GE297.out) | exact HB.out))))
        have n1_ := zK (bB (g := gb297) (o := .cells #[.int .i64 a1_0, .int .i64 a1_1, .int .i64 a1_2, .int .i64 a1_3, .int .i64 t299] 95 (0, 0)) (by (with_reducible repeat (first | refine kN ?_ _ | refine kD ?_ | refine kA ?_ _)); exact BK297.out) hb)
        have n2_ := zK (bT (by repeat (first | (with_reducible first | exact HB.out | apply bA | apply bN | apply b1 | refine bS ?_ GE297.out) | exact HB.out)) hb)
        clear BK297
        clear HB
        have HO302 := n0_
        have BK297 := n1_
        have HB := n2_
        clear n0_ n1_ n2_
        (try clear hb)
        (try clear hb2)
        (try clear hk)
        (try clear hi)
        (try clear ho0)
        refine hK.out _ _ ⟨(bc BK297.out 0).trans rfl, (bc BK297.out 1).trans rfl, (bc BK297.out 2).trans rfl, (bc BK297.out 3).trans rfl, (bc BK297.out 4).trans rfl⟩ (fun hHeld => ?_)
        clear hK K
        refine norm_ (a' := ?_) ?_ ?_
        rotate_left
        · show Act.put _ (some 23) _ = _
          simp only [Act.put, sA, sZ, sS, i64_w, i32_w]
          rfl
        refine one_ (i := 3) (N := some 25) #[true, true, true, true, false, false] rfl rfl (by kernel_rfl) (by decide) (fun K hK => ?_)
        refine Kd.R_lit_step k95 _ 95 ?hg (N := 25) ?hd (xs := ([(⟨a1_0, a1_1, a1_2, a1_3, t299⟩ : S95)] : List (S95))) (inner := [.int .i64 a1_0, .int .i64 a1_1, .int .i64 a1_2, .int .i64 a1_3, .int .i64 t299]) (ok := fun _ => True) (okp := fun _ => True) ?hr ?hp (fun _ hk => hk) trivial (Below.refl _ _) (Nat.le_refl _) (by simp) ?_; (case hd => rfl); (case hg => rfl); (case hr => first | (go_simp; done) | (go_simp; rfl)); (case hp => exact (Reps.c5 (show Kd.M k95 _ _ _ (⟨a1_0, a1_1, a1_2, a1_3, t299⟩ : S95) [.int .i64 a1_0, .int .i64 a1_1, .int .i64 a1_2, .int .i64 a1_3, .int .i64 t299] from (k95_mkM _ _ _ (⟨a1_0, a1_1, a1_2, a1_3, t299⟩ : S95) )) (Reps.none _ _)))
        intro v304 w34 ho35 hb hg_ hnew_
        clear hg_ hnew_
        (first | rw [← Ny303.out] at ho35 | (simp only [Int.reduceToNat] at ho35; rw [← Ny303.out] at ho35))
        have n0_ := zK (Kd.R_elder' (by (with_reducible repeat (first | apply Kd.RA | apply Kd.RN | apply Kd.RD)); exact HO302.out) (Kd.R_base ho35) hb)
        have n1_ := zK (Kd.R_lower (Kd.R_newB (Kd.R_new' ho35 (Kd.R_lt (by (with_reducible repeat (first | apply Kd.RA | apply Kd.RN | apply Kd.RD)); exact HO302.out))) (g := gb297) (o := .cells #[.int .i64 a1_0, .int .i64 a1_1, .int .i64 a1_2, .int .i64 a1_3, .int .i64 t299] 95 (0, 0)) (by (with_reducible repeat (first | refine kN ?_ _ | refine kD ?_ | refine kA ?_ _)); exact BK297.out)) (bZ (by repeat (first | (with_reducible first | exact HB.out | apply bA | apply bN | apply b1 | refine bS ?_ GE297.out) | exact HB.out))))
        have n2_ := zK (bB (g := gb297) (o := .cells #[.int .i64 a1_0, .int .i64 a1_1, .int .i64 a1_2, .int .i64 a1_3, .int .i64 t299] 95 (0, 0)) (by (with_reducible repeat (first | refine kN ?_ _ | refine kD ?_ | refine kA ?_ _)); exact BK297.out) hb)
        have n3_ := zK (bT (by repeat (first | (with_reducible first | exact HB.out | apply bA | apply bN | apply b1 | refine bS ?_ GE297.out) | exact HB.out)) hb)
        clear HO302
        clear BK297
        clear HB
        have HO302 := n0_
        have HO305 := n1_
        have BK297 := n2_
        have HB := n3_
        clear n0_ n1_ n2_ n3_
        clear hb ho35
        refine hK.out _ _ ⟨(bc BK297.out 0).trans rfl, (bc BK297.out 1).trans rfl, (bc BK297.out 2).trans rfl, (bc BK297.out 3).trans rfl, (bc BK297.out 4).trans rfl⟩ (fun hHeld => ?_)
        clear hK K
        refine norm_ (a' := ?_) ?_ ?_
        rotate_left
        · show Act.put _ (some 25) _ = _
          simp only [Act.put, sA, sZ, sS, i64_w, i32_w]
          rfl
        exact norm_ (by simp only [putAll, Act.put, sA, sZ, sS]) (hCont (v301, v304) _ ⟨hHeld, (by (with_reducible repeat (first | apply Kd.RA | apply Kd.RN | apply Kd.RD)); exact Kd.R_mono HO302.out (fun _ hk => ⟨hk.2, hk.1.2⟩)), (by (with_reducible repeat (first | apply Kd.RA | apply Kd.RN | apply Kd.RD)); exact Kd.R_mono HO305.out (fun _ hk => ⟨hk.1.2, hk.2⟩)), (by (with_reducible repeat (first | refine kN ?_ _ | refine kD ?_ | refine kA ?_ _)); exact BK297.out), (by repeat (first | (with_reducible first | exact HB.out | apply bA | apply bN | apply b1 | refine bS ?_ GE297.out) | exact HB.out))⟩)
      rintro ⟨v301, v304⟩ w36 ⟨hS_, h0_, h1_, h2_, h3_⟩
      have n0_ : Aside0 (Kd.R k95 95 w36 w.heap.size (fun k_ => some k_ ≠ (v304 : Value).ownBlock ∧ k_ ≠ gb297) v301 t300) := ⟨h0_⟩
      have n1_ : Aside0 (Kd.R k95 95 w36 w.heap.size (fun k_ => some k_ ≠ (v301 : Value).ownBlock ∧ k_ ≠ gb297) v304 y303) := ⟨h1_⟩
      have n2_ : Aside0 (w36.heap[gb297]? = some (.cells #[.int .i64 a1_0, .int .i64 a1_1, .int .i64 a1_2, .int .i64 a1_3, .int .i64 t299] 95 (0, 0))) := ⟨h2_⟩
      have n3_ : Aside0 (Below w.heap.size w w36) := ⟨h3_⟩
      clear BK297
      clear HB
      clear h0_ h1_ h2_ h3_
      have HO302 := n0_
      have HO305 := n1_
      have BK297 := n2_
      have HB := n3_
      clear n0_ n1_ n2_ n3_
      have hHeld : w36.cell? ⟨gb297, 0, none⟩ = some (.int .i64 a1_0) ∧ w36.cell? ⟨gb297, 1, none⟩ = some (.int .i64 a1_1) ∧ w36.cell? ⟨gb297, 2, none⟩ = some (.int .i64 a1_2) ∧ w36.cell? ⟨gb297, 3, none⟩ = some (.int .i64 a1_3) ∧ w36.cell? ⟨gb297, 4, none⟩ = some (.int .i64 t299) := hS_
      obtain ⟨Ao38, co38, eo38⟩ := Kd.R_slice HO305.out
      (first | subst eo38 | (injection eo38 with f1_ f2_ f3_; have f4_ := f1_.symm; have f5_ := f3_.symm; clear f1_ f2_ f3_; subst f4_; subst f5_))
      refine norm_ (a' := ?_) ?_ ?_
      rotate_left
      · simp only [putAll, Act.put, sA, sZ, sS]
        rfl
      refine one_ (i := 4) (N := some 26) #[true, true, true, true, true, false] rfl rfl (by kernel_rfl) (by decide) (fun K hK => ?_)
      refine Kd.R_append_rows_step k95 (w0 := w) w.heap.size (by rfl) (.tmp 23) (.tmp 25) 68 95 (.agg #[(.int .i64 0), (.int .i64 0), (.int .i64 0), (.int .i64 0), (.int .i64 0)]) 40 rfl Try.underlying68 info95 rfl (by decide) (by omega) v301 t300 y303 _ _ _ (fun k_ => some k_ ≠ (.slice Ao38 y303.length co38 : Value).ownBlock ∧ k_ ≠ gb297) (fun _ => False) rfl rfl ?aO ?aR (fun _ _ h => h) (fun _ h => h.elim) ?aF ?aB ?aS ?aL ?_
      (case aR => repeat (first | exact (Kd.R_reads' HO305.out).2.2 | (with_reducible refine Kd.CA ?_ _) | (with_reducible refine Kd.CN ?_ _) | (with_reducible refine Kd.CD ?_)))
      (case aB => exact (by repeat (first | (with_reducible first | exact HB.out | apply bA | apply bN | apply b1 | refine bS ?_ GE297.out) | exact HB.out)))
      (case aF => exact (fun k_ hk => ⟨Kd.fresh' (Kd.R_lt (by (with_reducible repeat (first | apply Kd.RA | apply Kd.RN | apply Kd.RD)); exact HO305.out)) k_ hk, Kd.freshB (g := gb297) (o := .cells #[.int .i64 a1_0, .int .i64 a1_1, .int .i64 a1_2, .int .i64 a1_3, .int .i64 t299] 95 (0, 0)) (by (with_reducible repeat (first | refine kN ?_ _ | refine kD ?_ | refine kA ?_ _)); exact BK297.out) k_ hk⟩))
      (case aO => exact (by (with_reducible repeat (first | apply Kd.RA | apply Kd.RN | apply Kd.RD)); exact HO302.out))
      (case aS => exact (bZ (by repeat (first | (with_reducible first | exact HB.out | apply bA | apply bN | apply b1 | refine bS ?_ GE297.out) | exact HB.out))))
      (case aL => have := LMc11.out; omega)
      intro v307 w37 ho hb hg hat
      rw [← Ny306.out] at ho
      have n0_ := zK (blk_grown (g := gb297) (o := .cells #[.int .i64 a1_0, .int .i64 a1_1, .int .i64 a1_2, .int .i64 a1_3, .int .i64 t299] 95 (0, 0)) (by (with_reducible repeat (first | refine kN ?_ _ | refine kD ?_ | refine kA ?_ _)); exact BK297.out) hg (Kd.R_away HO302.out (fun _ hk => hk.2)))
      have n1_ := zK (Kd.R_after (ok := (fun k_ => k_ ≠ gb297)) (by (with_reducible repeat (first | apply Kd.RA | apply Kd.RN | apply Kd.RD)); exact Kd.R_mono HO305.out (fun _ hk => ⟨hk.2, hk.1⟩)) hg hat)
      have n2_ := zK (hb)
      have n3_ := zK (ho)
      clear BK297
      clear HO305
      clear HB
      clear HO302
      have BK297 := n0_
      have HO305 := n1_
      have HB := n2_
      have HO308 := n3_
      clear n0_ n1_ n2_ n3_
      clear ho hb hg hat
      refine hK.out _ _ ⟨(bc BK297.out 0).trans rfl, (bc BK297.out 1).trans rfl, (bc BK297.out 2).trans rfl, (bc BK297.out 3).trans rfl, (bc BK297.out 4).trans rfl⟩ (fun hHeld => ?_)
      clear hK K
      refine norm_ (a' := ?_) ?_ ?_
      rotate_left
      · show Act.put _ (some 26) _ = _
        simp only [Act.put, sA, sZ, sS, i64_w, i32_w]
        rfl
      refine pure_ (i := 5) (N := some 7) (v := ?_) (a' := ?_) #[true, true, true, true, true, true] rfl rfl (by kernel_rfl) (fun _ _ _ h => h) (Or.inl ⟨by rfl, ?_⟩) ?_ ?_
      rotate_left
      · intro w'
        go_simp
        with_reducible rfl
      rotate_left
      · simp only [Act.put, sA, sZ, sS, i64_w, i32_w]
        rfl
      refine done_ (by kernel_rfl) ?_
      obtain ⟨Ao39, co39, eo39⟩ := Kd.R_slice HO308.out
      subst eo39
      try go_wp2_with (first | ((with_reducible refine gate_callee (f := 65) rfl ?_); refine goesL_ (some 28) rfl rfl Try.func65 (by kernel_rfl) rfl #[.slice Ao39 y306.length co39] rfl (by (try simp only [List.map_toArray, List.map_cons, List.map_nil]); first | done | rfl | (simp only [List.length_drop, List.length_take]; rfl)) ?_; (with_reducible refine (impl_IsChain.calls kj2 _ _ y306 false _ ?side1 ?side2 A12.out).mono ?_); (case side1 => repeat (first | exact (Kd.R_reads' HO308.out).2.2 | (with_reducible refine Kd.CA ?_ _) | (with_reducible refine Kd.CN ?_ _) | (with_reducible refine Kd.CD ?_))); (case side2 => exact (Kd.R_reads' HO308.out).2.1); rintro e w40 ⟨rfl, hb⟩; refine ⟨_, rfl, ?_⟩; have n0_ := zK (Kd.R_below (by (with_reducible repeat (first | apply Kd.RA | apply Kd.RN | apply Kd.RD)); exact HO305.out) hb); have n1_ := zK (Kd.R_below (by (with_reducible repeat (first | apply Kd.RA | apply Kd.RN | apply Kd.RD)); exact HO308.out) hb); have n2_ := zK (bB (g := gb297) (o := .cells #[.int .i64 a1_0, .int .i64 a1_1, .int .i64 a1_2, .int .i64 a1_3, .int .i64 t299] 95 (0, 0)) (by (with_reducible repeat (first | refine kN ?_ _ | refine kD ?_ | refine kA ?_ _)); exact BK297.out) hb); have n3_ := zK (bT (by repeat (first | (with_reducible first | exact HB.out | apply bA | apply bN | apply b1 | refine bS ?_ GE297.out) | exact HB.out)) hb); clear HO305; clear HO308; clear BK297; clear HB; have HO305 := n0_; have HO308 := n1_; have BK297 := n2_; have HB := n3_; clear n0_ n1_ n2_ n3_; (try clear hb); (try clear hb2); (try clear hk); (try clear hi)) | ((with_reducible refine gate_callee (f := 127) rfl ?_); refine goesL_ (some 31) rfl rfl Try.func127 (by kernel_rfl) rfl #[.slice A0 l0.length c0] rfl (by (try simp only [List.map_toArray, List.map_cons, List.map_nil]); first | done | rfl | (simp only [List.length_drop, List.length_take]; rfl)) ?_; (with_reducible refine (impl_Hand.calls _ _ l0 t310 _ ?side1 ?side2 A27.out).mono ?_); (case side1 => repeat (first | exact (Kd.C_below HR0.out HB.out) | (with_reducible refine Kd.CA ?_ _) | (with_reducible refine Kd.CN ?_ _) | (with_reducible refine Kd.CD ?_))); (case side2 => exact HC0.out); rintro e w41 ⟨v311, rfl, ho0, hb⟩; refine ⟨_, rfl, ?_⟩; have n0_ := zK (Kd.R_elder' (by (with_reducible repeat (first | apply Kd.RA | apply Kd.RN | apply Kd.RD)); exact HO305.out) (Kd.R_base ho0) hb); have n1_ := zK (Kd.R_elder' (by (with_reducible repeat (first | apply Kd.RA | apply Kd.RN | apply Kd.RD)); exact HO308.out) (Kd.R_base ho0) hb); have n2_ := zK (Kd.R_lower (Kd.R_newB (Kd.R_new' (Kd.R_new' ho0 (Kd.R_lt (by (with_reducible repeat (first | apply Kd.RA | apply Kd.RN | apply Kd.RD)); exact HO305.out))) (Kd.R_lt (by (with_reducible repeat (first | apply Kd.RA | apply Kd.RN | apply Kd.RD)); exact HO308.out))) (g := gb297) (o := .cells #[.int .i64 a1_0, .int .i64 a1_1, .int .i64 a1_2, .int .i64 a1_3, .int .i64 t299] 95 (0, 0)) (by (with_reducible repeat (first | refine kN ?_ _ | refine kD ?_ | refine kA ?_ _)); exact BK297.out)) (bZ (by repeat (first | (with_reducible first | exact HB.out | apply bA | apply bN | apply b1 | refine bS ?_ GE297.out) | exact HB.out)))); have n3_ := zK (bB (g := gb297) (o := .cells #[.int .i64 a1_0, .int .i64 a1_1, .int .i64 a1_2, .int .i64 a1_3, .int .i64 t299] 95 (0, 0)) (by (with_reducible repeat (first | refine kN ?_ _ | refine kD ?_ | refine kA ?_ _)); exact BK297.out) hb); have n4_ := zK (bT (by repeat (first | (with_reducible first | exact HB.out | apply bA | apply bN | apply b1 | refine bS ?_ GE297.out) | exact HB.out)) hb); clear HO305; clear HO308; clear BK297; clear HB; have HO305 := n0_; have HO308 := n1_; have HO312 := n2_; have BK297 := n3_; have HB := n4_; clear n0_ n1_ n2_ n3_ n4_; (try clear hb); (try clear hb2); (try clear hk); (try clear hi); (try clear ho0)))
      go_ret2
      exact ⟨_, by first | rfl | (simp [errW_none, errW_some] <;> rfl) | (simp [*, errW_none, errW_some] <;> rfl), by (with_reducible repeat (first | apply Kd.RA | apply Kd.RN | apply Kd.RD)); exact Kd.R_mono HO312.out (fun _ hk => trivial), by repeat (first | (with_reducible first | exact HB.out | apply bA | apply bN | apply b1 | refine bS ?_ GE297.out) | exact HB.out)⟩
/-! ### impl_HolderAt: function 64 -/
def impl_HolderAt.l0 : Nat → List (S95) → Int → Int → Int → Option (Int × Int)
  | 0, _, _, _, _ => none
  | k + 1, x0, x1, x2, x8 => if x8 ≥ 0 then (if 0 ≤ x8 then (if x8 < (x0.length : Int) then (if ((rd_T95 x0 x8).f0) = x1 then (if ((rd_T95 x0 x8).f3) ≤ x2 then (some ((rd_T95 x0 x8).f1, (rd_T95 x0 x8).f2)) else (impl_HolderAt.l0 k x0 x1 x2 (wrap64 (x8 - 1)))) else (impl_HolderAt.l0 k x0 x1 x2 (wrap64 (x8 - 1)))) else (none)) else (none)) else (some (0, 0))
def impl_HolderAt.f (k : Nat) (l0 : List (S95)) (a1 : Int) (a2 : Int) : Option (Int × Int) := (impl_IsChain.f k l0).bind fun t313 => (if t313 = true then (impl_HolderAt.l0 k l0 a1 a2 (wrap64 ((l0.length : Int) - 1))) else (some (0, 0)))
set_option maxHeartbeats 8000000 in
set_option maxRecDepth 100000 in
theorem impl_HolderAt.calls (k : Nat) (A0 : Option Addr) (c0 : Nat) (l0 : List (S95)) (a1 : Int) (a2 : Int) (r1 : Int) (r2 : Int) (w : World) (hr0 : Kd.C k95 w A0 l0.length l0) (hc0 : l0.length ≤ c0) (h : impl_HolderAt.f k l0 a1 a2 = some (r1, r2)) :
    Calls Try.prog 64 #[.slice A0 l0.length c0, .int .i64 a1, .int .i64 a2] w fun e w' => e = .returned (.tuple #[.int .i64 r1, .int .i64 r2]) ∧ Below w.heap.size w w' := by
  have HR0 := zK hr0
  have HC0 := zK hc0
  clear hr0 hc0
  have HB := zK (Below.refl w.heap.size w)
  have H : ((impl_IsChain.f k l0).bind fun t313 => (if t313 = true then (impl_HolderAt.l0 k l0 a1 a2 (wrap64 ((l0.length : Int) - 1))) else (some (0, 0)))) = some (r1, r2) := h
  clear h
  replace H := Option.bind_eq_some_iff.mp H
  obtain ⟨t313, A40, H⟩ := H
  replace H : (if t313 = true then (impl_HolderAt.l0 k l0 a1 a2 (wrap64 ((l0.length : Int) - 1))) else (some (0, 0))) = some (r1, r2) := H
  have A4 := zK A40
  clear A40
  by_cases c5 : t313 = true
  rotate_left
  · replace c5 := Bool.eq_false_iff.mpr c5
    subst c5
    have H1 : (some (0, 0)) = some (r1, r2) := by rw [if_neg (show ¬ (false = true) by decide)] at H; exact H
    clear H
    have H := H1
    clear H1
    simp only [Option.some.injEq, Prod.mk.injEq] at H
    obtain ⟨rfl, rfl⟩ := H
    go_enter Try.func64, Try.ntmps64
    go_wp2_with (first | (go_at_call 65; (with_reducible refine (impl_IsChain.calls k _ _ l0 false _ ?side1 ?side2 A4.out).mono ?_); (case side1 => repeat (first | exact HR0.out | (with_reducible refine Kd.CA ?_ _) | (with_reducible refine Kd.CN ?_ _) | (with_reducible refine Kd.CD ?_))); (case side2 => exact HC0.out); rintro e w12 ⟨rfl, hb⟩; have n0_ := zK (bT (by repeat (first | (with_reducible first | exact HB.out | apply bA | apply bN | apply b1) | exact HB.out)) hb); clear HB; have HB := n0_; clear n0_; (try clear hb); (try clear hb2); (try clear hk); (try clear hi)))
    repeat (go_quiet (first | (go_at_call 65; (with_reducible refine (impl_IsChain.calls k _ _ l0 false _ ?side1 ?side2 A4.out).mono ?_); (case side1 => repeat (first | exact HR0.out | (with_reducible refine Kd.CA ?_ _) | (with_reducible refine Kd.CN ?_ _) | (with_reducible refine Kd.CD ?_))); (case side2 => exact HC0.out); rintro e w12 ⟨rfl, hb⟩; have n0_ := zK (bT (by repeat (first | (with_reducible first | exact HB.out | apply bA | apply bN | apply b1) | exact HB.out)) hb); clear HB; have HB := n0_; clear n0_; (try clear hb); (try clear hb2); (try clear hk); (try clear hi))); try go_wp2_with (first | (go_at_call 65; (with_reducible refine (impl_IsChain.calls k _ _ l0 false _ ?side1 ?side2 A4.out).mono ?_); (case side1 => repeat (first | exact HR0.out | (with_reducible refine Kd.CA ?_ _) | (with_reducible refine Kd.CN ?_ _) | (with_reducible refine Kd.CD ?_))); (case side2 => exact HC0.out); rintro e w12 ⟨rfl, hb⟩; have n0_ := zK (bT (by repeat (first | (with_reducible first | exact HB.out | apply bA | apply bN | apply b1) | exact HB.out)) hb); clear HB; have HB := n0_; clear n0_; (try clear hb); (try clear hb2); (try clear hk); (try clear hi))))
    go_ret2
    exact ⟨by first | rfl | (simp [errW_none, errW_some] <;> rfl) | (simp [*, errW_none, errW_some] <;> rfl), by repeat (first | (with_reducible first | exact HB.out | apply bA | apply bN | apply b1) | exact HB.out)⟩

  subst c5
  have H1 : (impl_HolderAt.l0 k l0 a1 a2 (wrap64 ((l0.length : Int) - 1))) = some (r1, r2) := by rw [if_pos rfl] at H; exact H
  clear H
  have H := H1
  clear H1
  have H' := zK H
  clear H
  go_enter Try.func64, Try.ntmps64
  go_wp2_with (first | (go_at_call 65; (with_reducible refine (impl_IsChain.calls k _ _ l0 true _ ?side1 ?side2 A4.out).mono ?_); (case side1 => repeat (first | exact HR0.out | (with_reducible refine Kd.CA ?_ _) | (with_reducible refine Kd.CN ?_ _) | (with_reducible refine Kd.CD ?_))); (case side2 => exact HC0.out); rintro e w6 ⟨rfl, hb⟩; have n0_ := zK (bT (by repeat (first | (with_reducible first | exact HB.out | apply bA | apply bN | apply b1) | exact HB.out)) hb); clear HB; have HB := n0_; clear n0_; (try clear hb); (try clear hb2); (try clear hk); (try clear hi)))
  repeat (go_quiet (first | (go_at_call 65; (with_reducible refine (impl_IsChain.calls k _ _ l0 true _ ?side1 ?side2 A4.out).mono ?_); (case side1 => repeat (first | exact HR0.out | (with_reducible refine Kd.CA ?_ _) | (with_reducible refine Kd.CN ?_ _) | (with_reducible refine Kd.CD ?_))); (case side2 => exact HC0.out); rintro e w6 ⟨rfl, hb⟩; have n0_ := zK (bT (by repeat (first | (with_reducible first | exact HB.out | apply bA | apply bN | apply b1) | exact HB.out)) hb); clear HB; have HB := n0_; clear n0_; (try clear hb); (try clear hb2); (try clear hk); (try clear hi))); try go_wp2_with (first | (go_at_call 65; (with_reducible refine (impl_IsChain.calls k _ _ l0 true _ ?side1 ?side2 A4.out).mono ?_); (case side1 => repeat (first | exact HR0.out | (with_reducible refine Kd.CA ?_ _) | (with_reducible refine Kd.CN ?_ _) | (with_reducible refine Kd.CD ?_))); (case side2 => exact HC0.out); rintro e w6 ⟨rfl, hb⟩; have n0_ := zK (bT (by repeat (first | (with_reducible first | exact HB.out | apply bA | apply bN | apply b1) | exact HB.out)) hb); clear HB; have HB := n0_; clear n0_; (try clear hb); (try clear hb2); (try clear hk); (try clear hi))))
  go_loopg [8] k (fun kq v8 w' => ∃ (x8_1 : Int), v8 = .int .i64 x8_1 ∧ Aside0 (impl_HolderAt.l0 kq l0 a1 a2 x8_1 = some (r1, r2)) ∧ Aside0 (kq ≤ k) ∧ Aside0 (Below w.heap.size w w'))
  case atStart => exact ⟨(wrap64 ((l0.length : Int) - 1)), (by first | rfl | (simp; done) | (simp [*]; done)), H', ⟨Nat.le_refl _⟩, ⟨by repeat (first | (with_reducible first | exact HB.out | apply bA | apply bN | apply b1) | exact HB.out)⟩⟩
  case round =>
    clear H'
    try clear p2
    try clear c5
    try clear c6
    try clear p6
    obtain ⟨x8_1, rfl, HA, HK1, HB⟩ := hrel
    cases gk with
    | zero => exact absurd HA.out (by simp [impl_HolderAt.l0])
    | succ k1 =>
      have H := HA.out
      clear HA
      simp only [impl_HolderAt.l0] at H
      by_cases c7 : x8_1 ≥ 0
      rotate_left
      · rw [if_neg c7] at H
        have c7b0 : decide (0 ≤ x8_1) = false := decide_eq_false c7
        clear c7
        simp only [Option.some.injEq, Prod.mk.injEq] at H
        obtain ⟨rfl, rfl⟩ := H
        go_wp2
        repeat (go_quiet (fail); try go_wp2)
        go_ret2
        exact ⟨by first | rfl | (simp [errW_none, errW_some] <;> rfl) | (simp [*, errW_none, errW_some] <;> rfl), by repeat (first | (with_reducible first | exact HB.out | apply bA | apply bN | apply b1) | exact HB.out)⟩
      rw [if_pos c7] at H
      have c7b0 : decide (0 ≤ x8_1) = true := decide_eq_true c7
      clear c7
      by_cases c8 : 0 ≤ x8_1
      rotate_left
      · rw [if_neg c8] at H
        exact absurd H (by simp)
      rw [if_pos c8] at H
      have c8b0 : decide (0 ≤ x8_1) = true := decide_eq_true c8
      clear c8
      by_cases c9 : x8_1 < (l0.length : Int)
      rotate_left
      · rw [if_neg c9] at H
        exact absurd H (by simp)
      rw [if_pos c9] at H
      have c9b0 : decide (x8_1 < (l0.length : Int)) = true := decide_eq_true c9
      clear c9
      by_cases c10 : ((rd_T95 l0 x8_1).f0) = a1
      rotate_left
      · rw [if_neg c10] at H
        have c10b0 : (((rd_T95 l0 x8_1).f0) == a1) = false := beq_eq_false_iff_ne.mpr c10
        have c10b1 : (((rd_T95 l0 x8_1).f0) != a1) = true := bne_iff_ne.mpr c10
        have H' := zK H
        clear H
        have p314 : 0 ≤ (x8_1 : Int) := oD (by first | (with_reducible assumption) | assumption)
        have q314 : x8_1 < (l0.length : Int) := oD (by first | (with_reducible assumption) | assumption)
        obtain ⟨ad314, e314, hx314_0, hx314_1, hx314_2, hx314_3, hx314_4⟩ := at_T95 HR0.out x8_1 p314 q314
        cases e314
        replace hx314_0 := (HB.out.cell (bL w hx314_0)).trans hx314_0
        replace hx314_1 := (HB.out.cell (bL w hx314_1)).trans hx314_1
        replace hx314_2 := (HB.out.cell (bL w hx314_2)).trans hx314_2
        replace hx314_3 := (HB.out.cell (bL w hx314_3)).trans hx314_3
        replace hx314_4 := (HB.out.cell (bL w hx314_4)).trans hx314_4
        replace p314 := eq_true p314
        replace q314 := eq_true q314
        go_wp2
        repeat (go_quiet (fail); try go_wp2)
        go_roundg k1
        case measure => have := HK1.out; omega
        case rel => exact ⟨(wrap64 (x8_1 - 1)), (by first | rfl | (simp; done) | (simp [*]; done)), H', ⟨by have := HK1.out; omega⟩, ⟨by repeat (first | (with_reducible first | exact HB.out | apply bA | apply bN | apply b1) | exact HB.out)⟩⟩
      rw [if_pos c10] at H
      have c10b0 : (((rd_T95 l0 x8_1).f0) == a1) = true := beq_iff_eq.mpr c10
      have c10b1 : (((rd_T95 l0 x8_1).f0) != a1) = false := bne_eq_false_iff_eq.mpr c10
      clear c10
      by_cases c11 : ((rd_T95 l0 x8_1).f3) ≤ a2
      rotate_left
      · rw [if_neg c11] at H
        have c11b0 : decide (((rd_T95 l0 x8_1).f3) ≤ a2) = false := decide_eq_false c11
        clear c11
        have H' := zK H
        clear H
        have p314 : 0 ≤ (x8_1 : Int) := oD (by first | (with_reducible assumption) | assumption)
        have q314 : x8_1 < (l0.length : Int) := oD (by first | (with_reducible assumption) | assumption)
        obtain ⟨ad314, e314, hx314_0, hx314_1, hx314_2, hx314_3, hx314_4⟩ := at_T95 HR0.out x8_1 p314 q314
        cases e314
        replace hx314_0 := (HB.out.cell (bL w hx314_0)).trans hx314_0
        replace hx314_1 := (HB.out.cell (bL w hx314_1)).trans hx314_1
        replace hx314_2 := (HB.out.cell (bL w hx314_2)).trans hx314_2
        replace hx314_3 := (HB.out.cell (bL w hx314_3)).trans hx314_3
        replace hx314_4 := (HB.out.cell (bL w hx314_4)).trans hx314_4
        replace p314 := eq_true p314
        replace q314 := eq_true q314
        have p315 : 0 ≤ (x8_1 : Int) := oD (by first | (with_reducible assumption) | assumption)
        have q315 : x8_1 < (l0.length : Int) := oD (by first | (with_reducible assumption) | assumption)
        obtain ⟨ad315, e315, hx315_0, hx315_1, hx315_2, hx315_3, hx315_4⟩ := at_T95 HR0.out x8_1 p315 q315
        obtain rfl : ad314 = ad315 := (by injection e315)
        replace hx315_0 := (HB.out.cell (bL w hx315_0)).trans hx315_0
        replace hx315_1 := (HB.out.cell (bL w hx315_1)).trans hx315_1
        replace hx315_2 := (HB.out.cell (bL w hx315_2)).trans hx315_2
        replace hx315_3 := (HB.out.cell (bL w hx315_3)).trans hx315_3
        replace hx315_4 := (HB.out.cell (bL w hx315_4)).trans hx315_4
        replace p315 := eq_true p315
        replace q315 := eq_true q315
        go_wp2
        repeat (go_quiet (fail); try go_wp2)
        go_roundg k1
        case measure => have := HK1.out; omega
        case rel => exact ⟨(wrap64 (x8_1 - 1)), (by first | rfl | (simp; done) | (simp [*]; done)), H', ⟨by have := HK1.out; omega⟩, ⟨by repeat (first | (with_reducible first | exact HB.out | apply bA | apply bN | apply b1) | exact HB.out)⟩⟩
      rw [if_pos c11] at H
      have c11b0 : decide (((rd_T95 l0 x8_1).f3) ≤ a2) = true := decide_eq_true c11
      clear c11
      simp only [Option.some.injEq, Prod.mk.injEq] at H
      obtain ⟨rfl, rfl⟩ := H
      have p314 : 0 ≤ (x8_1 : Int) := oD (by first | (with_reducible assumption) | assumption)
      have q314 : x8_1 < (l0.length : Int) := oD (by first | (with_reducible assumption) | assumption)
      obtain ⟨ad314, e314, hx314_0, hx314_1, hx314_2, hx314_3, hx314_4⟩ := at_T95 HR0.out x8_1 p314 q314
      cases e314
      replace hx314_0 := (HB.out.cell (bL w hx314_0)).trans hx314_0
      replace hx314_1 := (HB.out.cell (bL w hx314_1)).trans hx314_1
      replace hx314_2 := (HB.out.cell (bL w hx314_2)).trans hx314_2
      replace hx314_3 := (HB.out.cell (bL w hx314_3)).trans hx314_3
      replace hx314_4 := (HB.out.cell (bL w hx314_4)).trans hx314_4
      replace p314 := eq_true p314
      replace q314 := eq_true q314
      have p315 : 0 ≤ (x8_1 : Int) := oD (by first | (with_reducible assumption) | assumption)
      have q315 : x8_1 < (l0.length : Int) := oD (by first | (with_reducible assumption) | assumption)
      obtain ⟨ad315, e315, hx315_0, hx315_1, hx315_2, hx315_3, hx315_4⟩ := at_T95 HR0.out x8_1 p315 q315
      obtain rfl : ad314 = ad315 := (by injection e315)
      replace hx315_0 := (HB.out.cell (bL w hx315_0)).trans hx315_0
      replace hx315_1 := (HB.out.cell (bL w hx315_1)).trans hx315_1
      replace hx315_2 := (HB.out.cell (bL w hx315_2)).trans hx315_2
      replace hx315_3 := (HB.out.cell (bL w hx315_3)).trans hx315_3
      replace hx315_4 := (HB.out.cell (bL w hx315_4)).trans hx315_4
      replace p315 := eq_true p315
      replace q315 := eq_true q315
      have p316 : 0 ≤ (x8_1 : Int) := oD (by first | (with_reducible assumption) | assumption)
      have q316 : x8_1 < (l0.length : Int) := oD (by first | (with_reducible assumption) | assumption)
      obtain ⟨ad316, e316, hx316_0, hx316_1, hx316_2, hx316_3, hx316_4⟩ := at_T95 HR0.out x8_1 p316 q316
      obtain rfl : ad314 = ad316 := (by injection e316)
      replace hx316_0 := (HB.out.cell (bL w hx316_0)).trans hx316_0
      replace hx316_1 := (HB.out.cell (bL w hx316_1)).trans hx316_1
      replace hx316_2 := (HB.out.cell (bL w hx316_2)).trans hx316_2
      replace hx316_3 := (HB.out.cell (bL w hx316_3)).trans hx316_3
      replace hx316_4 := (HB.out.cell (bL w hx316_4)).trans hx316_4
      replace p316 := eq_true p316
      replace q316 := eq_true q316
      have p317 : 0 ≤ (x8_1 : Int) := oD (by first | (with_reducible assumption) | assumption)
      have q317 : x8_1 < (l0.length : Int) := oD (by first | (with_reducible assumption) | assumption)
      obtain ⟨ad317, e317, hx317_0, hx317_1, hx317_2, hx317_3, hx317_4⟩ := at_T95 HR0.out x8_1 p317 q317
      obtain rfl : ad314 = ad317 := (by injection e317)
      replace hx317_0 := (HB.out.cell (bL w hx317_0)).trans hx317_0
      replace hx317_1 := (HB.out.cell (bL w hx317_1)).trans hx317_1
      replace hx317_2 := (HB.out.cell (bL w hx317_2)).trans hx317_2
      replace hx317_3 := (HB.out.cell (bL w hx317_3)).trans hx317_3
      replace hx317_4 := (HB.out.cell (bL w hx317_4)).trans hx317_4
      replace p317 := eq_true p317
      replace q317 := eq_true q317
      go_wp2
      repeat (go_quiet (fail); try go_wp2)
      go_ret2
      exact ⟨by first | rfl | (simp [errW_none, errW_some] <;> rfl) | (simp [*, errW_none, errW_some] <;> rfl), by repeat (first | (with_reducible first | exact HB.out | apply bA | apply bN | apply b1) | exact HB.out)⟩
end Go.Proofs.Ytpkdbkheggfkkaa.PFnCustody
