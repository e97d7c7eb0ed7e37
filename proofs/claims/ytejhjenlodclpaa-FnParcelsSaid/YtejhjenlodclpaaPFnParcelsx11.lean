/- Walks of functions that FnParcels reaches: written by a tool of the kit for this claim, then shortened by a program of ours. -/
import Derived.Test.YtejhjenlodclpaaPFnParcelsx0
import Derived.Test.YtejhjenlodclpaaPFnParcelsx8
import Derived.Test.YtejhjenlodclpaaPFnParcelsx9
import Derived.Test.YtejhjenlodclpaaPFnParcelsx10
/- narrow -/
namespace Go.Proofs.Ytejhjenlodclpaa.PFnParcels
open Go.RowKit Go.Proofs.YtejhjenlodclpaaW.PrintWords Go.Proofs.YtejhjenlodclpaaW.PrintLast Go.Proofs.YtejhjenlodclpaaW.PrintMore
attribute [local go_sem] max2_int min2_int max_two min_two max_three min_three max_four min_four   -- for this text's walks alone
set_option linter.unusedVariables false
set_option linter.unusedSimpArgs false

abbrev b11A0 : Array Bool := #[bo, bo, bo, bo, bo, bo]
abbrev b11A1 : Array Bool := #[bi, bo, bo, bo, bo, bo]
abbrev b11A2 : Array Bool := #[bi, bo, bi, bo, bo, bo]
abbrev b11A3 : Array Bool := #[bi, bi, bi, bo, bo, bo]
abbrev b11A4 : Array Bool := #[bi, bo, bi, bi, bo, bo]
/-! ### impl_AddHand: function 102 -/
def impl_AddHand.j0 : Nat → List (S138) → Int → Int → Int → Int → Int → Int → Option ((List (S138)) × Bool)
 | 0, _, _, _, _, _, _, _ => none
 | k + 1, x0, x6, x401000, x401001, x401002, x401003, x401004 => (impl_HandSeal.f k x6 x401000 x401001 x401002 x401003 x401004).bind fun t402 => ((impl_Hand.f x0).bind fun t403 => ((some (([(⟨x401000, x401001, x401002, x401003, t402⟩ : S138)] : List (S138)) : List (S138))).bind fun y406 => (if t403.length + y406.length < 3518437208883 then ((some (t403 ++ y406 : List (S138))).bind fun y409 => ((impl_IsChain.f k y409).bind fun t412 => (if t412 = true then (some (y409, true)) else ((impl_Hand.f x0).bind fun t413 => (some (t413, false)))))) else (none))))
def impl_AddHand.f (k : Nat) (l0 : List (S138)) (a1_0 : Int) (a1_1 : Int) (a1_2 : Int) (a1_3 : Int) (a1_4 : Int) : Option ((List (S138)) × Bool) := if (l0.length : Int) > 0 then (if 0 ≤ (wrap64 ((l0.length : Int) - 1)) then (if (wrap64 ((l0.length : Int) - 1)) < (l0.length : Int) then (impl_AddHand.j0 k l0 ((rd_T138 l0 (wrap64 ((l0.length : Int) - 1))).f4) a1_0 a1_1 a1_2 a1_3 a1_4) else (none)) else (none)) else (impl_AddHand.j0 k l0 0 a1_0 a1_1 a1_2 a1_3 a1_4)
set_option maxHeartbeats 8000000 in
set_option maxRecDepth 100000 in
theorem impl_AddHand.calls (k : Nat) (A0 : Option Addr) (c0 : Nat) (l0 : List (S138)) (a1_0 : Int) (a1_1 : Int) (a1_2 : Int) (a1_3 : Int) (a1_4 : Int) (r1 : List (S138)) (r2 : Bool) (w : World) (hr0 : Kd.C k138 w A0 l0.length l0) (hc0 : l0.length ≤ c0) (h : impl_AddHand.f k l0 a1_0 a1_1 a1_2 a1_3 a1_4 = some (r1, r2)) :
  Calls Try.prog 102 #[.slice A0 l0.length c0, .agg #[.int .i64 a1_0, .int .i64 a1_1, .int .i64 a1_2, .int .i64 a1_3, .int .i64 a1_4]] w fun e w' => ∃ v0_ : Value, e = .returned (.tuple #[v0_, .bool r2]) ∧ Kd.R k138 138 w' w.heap.size (fun _ => True) v0_ r1 ∧ Below w.heap.size w w' := by
 have hu138 := Try.underlying138
 have HR0 := zK hr0
 have HC0 := zK hc0
 clear hr0 hc0
 have HB := zK (Below.refl w.heap.size w)
 have H : (if (l0.length : Int) > 0 then (if 0 ≤ (wrap64 ((l0.length : Int) - 1)) then (if (wrap64 ((l0.length : Int) - 1)) < (l0.length : Int) then (impl_AddHand.j0 k l0 ((rd_T138 l0 (wrap64 ((l0.length : Int) - 1))).f4) a1_0 a1_1 a1_2 a1_3 a1_4) else (none)) else (none)) else (impl_AddHand.j0 k l0 0 a1_0 a1_1 a1_2 a1_3 a1_4)) = some (r1, r2) := h
 clear h
 have HC3 := zK H
 clear H
 go_enter Try.func102, Try.ntmps102
 go_upto_if 10 with (first | ((with_reducible refine gate_dst (N := 3) rfl ?_); refine box_event ?hg (N := 3) ?hd (cs := #[.int .i64 a1_0, .int .i64 a1_1, .int .i64 a1_2, .int .i64 a1_3, .int .i64 a1_4]) (t := 138) ?hr ?_; (case hd => rfl); (case hg => rfl); (case hr => first | (go_simp; done) | (go_simp; rfl)); intro gb400 hg w4 hbox hb; have n0_ := zK (bT (by repeat (first | (with_reducible first | exact HB.out | apply bA | apply bN | apply b1) | exact HB.out)) hb); have n1_ := zK (hbox); have n2_ := zK ((by rw [hg]; exact (bZ (by repeat (first | (with_reducible first | exact HB.out | apply bA | apply bN | apply b1) | exact HB.out))) : w.heap.size ≤ gb400)); have n3_ := zK ((by rw [hg]; exact (bZ (by repeat (first | (with_reducible first | exact HB.out | apply bA | apply bN | apply b1) | exact HB.out))) : w.heap.size ≤ gb400)); clear HB; have HB := n0_; have BK400 := n1_; have GW400 := n2_; have GE400 := n3_; clear n0_ n1_ n2_ n3_; clear hb hbox hg))
 (try simp only [Act.put, sA, sZ, sS])
 go_cut [6] (fun v6 wc => ∃ (kq : Nat) (x6_2 : Int), v6 = .int .i64 x6_2 ∧ Aside0 (impl_AddHand.j0 kq l0 x6_2 a1_0 a1_1 a1_2 a1_3 a1_4 = some (r1, r2)) ∧ Aside0 (kq ≤ k) ∧ Aside0 (wc.heap[gb400]? = some (.cells #[.int .i64 a1_0, .int .i64 a1_1, .int .i64 a1_2, .int .i64 a1_3, .int .i64 a1_4] 138 (0, 0))) ∧ Aside0 (Below w.heap.size w wc))
 case first =>
  have H := HC3.out
  clear HC3
  by_cases c5 : (l0.length : Int) > 0
  rotate_left
  ·rw [if_neg c5] at H
   have c5b0 : decide (0 < (l0.length : Int)) = false := decide_eq_false c5
   have c5b1 : decide (0 < l0.length) = false := decide_eq_false (by omega)
   clear c5
   (first | rw [c5b0] | rw [c5b1] | (simp only [i64_w, i32_w]; rw [c5b0]) | skip)
   have H' := zK H
   clear H
   go_wp2
   go_meet
   case rel => exact ⟨_, (0), (by first | rfl | (simp; done) | (simp [*]; done)), H', ⟨by first | omega | exact Nat.le_refl _⟩, ⟨by (with_reducible repeat (first | refine kN ?_ _ | refine kD ?_ | refine kA ?_ _)); exact BK400.out⟩, ⟨by repeat (first | (with_reducible first | exact HB.out | apply bA | apply bN | apply b1 | refine bS ?_ GE400.out) | exact HB.out)⟩⟩
  rw [if_pos c5] at H
  have c5b0 : decide (0 < (l0.length : Int)) = true := decide_eq_true c5
  have c5b1 : decide (0 < l0.length) = true := decide_eq_true (by omega)
  clear c5
  (first | rw [c5b0] | rw [c5b1] | (simp only [i64_w, i32_w]; rw [c5b0]) | skip)
  obtain ⟨ji6, hji6⟩ : ∃ j_ : Int, (wrap64 ((l0.length : Int) - 1)) = j_ := ⟨_, rfl⟩
  replace H : (if 0 ≤ (ji6) then (if (ji6) < (l0.length : Int) then (impl_AddHand.j0 k l0 ((rd_T138 l0 (ji6)).f4) a1_0 a1_1 a1_2 a1_3 a1_4) else (none)) else (none)) = some (r1, r2) := by first | (rw [hji6] at H; exact H) | (simp only [hji6] at H ⊢; exact H)
  have hji6w : (IntKind.i64.wrap ((l0.length : Int) - 1)) = ji6 := (i64_w _).trans hji6
  by_cases c7 : 0 ≤ (ji6)
  rotate_left
  ·rw [if_neg c7] at H
   exact absurd H (by simp)
  rw [if_pos c7] at H
  have c7b0 : decide (0 ≤ (ji6)) = true := decide_eq_true c7
  clear c7
  by_cases c8 : (ji6) < (l0.length : Int)
  rotate_left
  ·rw [if_neg c8] at H
   exact absurd H (by simp)
  rw [if_pos c8] at H
  have c8b0 : decide ((ji6) < (l0.length : Int)) = true := decide_eq_true c8
  clear c8
  have H' := zK H
  clear H
  have p401 : 0 ≤ ((ji6) : Int) := oD (by first | (with_reducible assumption) | assumption)
  have q401 : (ji6) < (l0.length : Int) := oD (by first | (with_reducible assumption) | assumption)
  obtain ⟨ad401, e401, hx401_0, hx401_1, hx401_2, hx401_3, hx401_4⟩ := at_T138 HR0.out (ji6) p401 q401
  cases e401
  replace hx401_0 := (HB.out.cell (bL w hx401_0)).trans hx401_0
  replace hx401_1 := (HB.out.cell (bL w hx401_1)).trans hx401_1
  replace hx401_2 := (HB.out.cell (bL w hx401_2)).trans hx401_2
  replace hx401_3 := (HB.out.cell (bL w hx401_3)).trans hx401_3
  replace hx401_4 := (HB.out.cell (bL w hx401_4)).trans hx401_4
  replace p401 := eq_true p401
  replace q401 := eq_true q401
  go_wp2
  go_meet
  case rel => exact ⟨_, ((rd_T138 l0 (ji6)).f4), (by first | rfl | (simp; done) | (simp only [← hji6] <;> (first | rfl | simp)) | (simp [*]; done)), H', ⟨by first | omega | exact Nat.le_refl _⟩, ⟨by (with_reducible repeat (first | refine kN ?_ _ | refine kD ?_ | refine kA ?_ _)); exact BK400.out⟩, ⟨by repeat (first | (with_reducible first | exact HB.out | apply bA | apply bN | apply b1 | refine bS ?_ GE400.out) | exact HB.out)⟩⟩
 case rest =>
  clear HC3
  try clear c1
  try clear p2
  try clear p4
  try clear q4
  try clear hx4
  try clear c5
  try clear c5b0
  try clear c5b1
  try clear p6
  try clear c7
  try clear c7b0
  try clear c8
  try clear c8b0
  try clear hx401_0
  try clear hx401_1
  try clear hx401_2
  try clear hx401_3
  try clear hx401_4
  try clear p401
  try clear q401
  obtain ⟨kq, x6_2, rfl, HA, HJ2, BK400, HB⟩ := hcut
  cases kq with
  | zero => exact absurd HA.out (by simp [impl_AddHand.j0])
  | succ kj2 =>
   have H := HA.out
   clear HA
   simp only [impl_AddHand.j0] at H
   replace H := Option.bind_eq_some_iff.mp H
   obtain ⟨t402, A90, H⟩ := H
   replace H : ((impl_Hand.f l0).bind fun t403 => ((some (([(⟨a1_0, a1_1, a1_2, a1_3, t402⟩ : S138)] : List (S138)) : List (S138))).bind fun y406 => (if t403.length + y406.length < 3518437208883 then ((some (t403 ++ y406 : List (S138))).bind fun y409 => ((impl_IsChain.f kj2 y409).bind fun t412 => (if t412 = true then (some (y409, true)) else ((impl_Hand.f l0).bind fun t413 => (some (t413, false)))))) else (none)))) = some (r1, r2) := H
   have A9 := zK A90
   clear A90
   replace H := Option.bind_eq_some_iff.mp H
   obtain ⟨t403, A100, H⟩ := H
   replace H : ((some (([(⟨a1_0, a1_1, a1_2, a1_3, t402⟩ : S138)] : List (S138)) : List (S138))).bind fun y406 => (if t403.length + y406.length < 3518437208883 then ((some (t403 ++ y406 : List (S138))).bind fun y409 => ((impl_IsChain.f kj2 y409).bind fun t412 => (if t412 = true then (some (y409, true)) else ((impl_Hand.f l0).bind fun t413 => (some (t413, false)))))) else (none))) = some (r1, r2) := H
   have A10 := zK A100
   clear A100
   obtain ⟨y406, hy406⟩ : ∃ y_ : List (S138), y_ = (([(⟨a1_0, a1_1, a1_2, a1_3, t402⟩ : S138)] : List (S138))) := ⟨_, rfl⟩
   replace H : (if t403.length + y406.length < 3518437208883 then ((some (t403 ++ y406 : List (S138))).bind fun y409 => ((impl_IsChain.f kj2 y409).bind fun t412 => (if t412 = true then (some (y409, true)) else ((impl_Hand.f l0).bind fun t413 => (some (t413, false)))))) else (none)) = some (r1, r2) := by first | (rw [hy406]; with_reducible exact H) | (have H2_ := (Option.bind_some _ _).symm.trans H; rw [hy406]; with_reducible exact H2_) | (have H2_ := (Option.bind_some _ _).symm.trans H; with_reducible exact H2_) | with_reducible exact H | (rw [hy406]; exact H) | exact H
   have Ny406 := zK hy406
   clear hy406
   by_cases c11 : t403.length + y406.length < 3518437208883
   rotate_left
   ·rw [if_neg c11] at H
    exact absurd H (by simp)
   rw [if_pos c11] at H
   have LMc11 := zK c11
   clear c11
   obtain ⟨y409, hy409⟩ : ∃ y_ : List (S138), y_ = (t403 ++ y406) := ⟨_, rfl⟩
   replace H : ((impl_IsChain.f kj2 y409).bind fun t412 => (if t412 = true then (some (y409, true)) else ((impl_Hand.f l0).bind fun t413 => (some (t413, false))))) = some (r1, r2) := by first | (rw [hy409]; with_reducible exact H) | (have H2_ := (Option.bind_some _ _).symm.trans H; rw [hy409]; with_reducible exact H2_) | (have H2_ := (Option.bind_some _ _).symm.trans H; with_reducible exact H2_) | with_reducible exact H | (rw [hy409]; exact H) | exact H
   have Ny409 := zK hy409
   clear hy409
   replace H := Option.bind_eq_some_iff.mp H
   obtain ⟨t412, A120, H⟩ := H
   replace H : (if t412 = true then (some (y409, true)) else ((impl_Hand.f l0).bind fun t413 => (some (t413, false)))) = some (r1, r2) := H
   have A12 := zK A120
   clear A120
   by_cases c13 : t412 = true
   ·subst c13
    have H1 : (some (y409, true)) = some (r1, r2) := by rw [if_pos rfl] at H; exact H
    clear H
    have H := H1
    clear H1
    simp only [Option.some.injEq, Prod.mk.injEq] at H
    obtain ⟨rfl, rfl⟩ := H
    have hcz14_0 : wc.cell? ⟨gb400, 0, none⟩ = some (.int .i64 a1_0) := (bc BK400.out 0).trans rfl
    have hcz14_1 : wc.cell? ⟨gb400, 1, none⟩ = some (.int .i64 a1_1) := (bc BK400.out 1).trans rfl
    have hcz14_2 : wc.cell? ⟨gb400, 2, none⟩ = some (.int .i64 a1_2) := (bc BK400.out 2).trans rfl
    have hcz14_3 : wc.cell? ⟨gb400, 3, none⟩ = some (.int .i64 a1_3) := (bc BK400.out 3).trans rfl
    have hcz14_4 : wc.cell? ⟨gb400, 4, none⟩ = some (.int .i64 a1_4) := (bc BK400.out 4).trans rfl
    have hfz14_0 := bf BK400.out 0
    have hfz14_1 := bf BK400.out 1
    have hfz14_2 := bf BK400.out 2
    have hfz14_3 := bf BK400.out 3
    have hfz14_4 := bf BK400.out 4
    try go_wp2_with (first | ((with_reducible refine gate_callee (f := 107) rfl ?_); refine goesL_ (some 20) rfl rfl Try.func107 (by kernel_rfl) rfl #[.int .i64 x6_2, .agg #[.int .i64 a1_0, .int .i64 a1_1, .int .i64 a1_2, .int .i64 a1_3, .int .i64 a1_4]] rfl (by (try simp only [List.map_toArray, List.map_cons, List.map_nil]); first | done | rfl | (simp only [List.length_drop, List.length_take]; rfl)) ?_; (with_reducible refine (impl_HandSeal.calls kj2 x6_2 a1_0 a1_1 a1_2 a1_3 a1_4 t402 _ A9.out).mono ?_); rintro e w15 ⟨rfl, hb⟩; refine ⟨_, rfl, ?_⟩; have n0_ := zK (bB (g := gb400) (o := .cells #[.int .i64 a1_0, .int .i64 a1_1, .int .i64 a1_2, .int .i64 a1_3, .int .i64 a1_4] 138 (0, 0)) (by (with_reducible repeat (first | refine kN ?_ _ | refine kD ?_ | refine kA ?_ _)); exact BK400.out) hb); have n1_ := zK (bT (by repeat (first | (with_reducible first | exact HB.out | apply bA | apply bN | apply b1 | refine bS ?_ GE400.out) | exact HB.out)) hb); clear BK400; clear HB; have BK400 := n0_; have HB := n1_; clear n0_ n1_; (try clear hb); (try clear hb2); (try clear hk); (try clear hi); have hcz16_0 : w15.cell? ⟨gb400, 0, none⟩ = some (.int .i64 a1_0) := (bc BK400.out 0).trans rfl; have hcz16_1 : w15.cell? ⟨gb400, 1, none⟩ = some (.int .i64 a1_1) := (bc BK400.out 1).trans rfl; have hcz16_2 : w15.cell? ⟨gb400, 2, none⟩ = some (.int .i64 a1_2) := (bc BK400.out 2).trans rfl; have hcz16_3 : w15.cell? ⟨gb400, 3, none⟩ = some (.int .i64 a1_3) := (bc BK400.out 3).trans rfl; have hcz16_4 : w15.cell? ⟨gb400, 4, none⟩ = some (.int .i64 a1_4) := (bc BK400.out 4).trans rfl; have hfz16_0 := bf BK400.out 0; have hfz16_1 := bf BK400.out 1; have hfz16_2 := bf BK400.out 2; have hfz16_3 := bf BK400.out 3; have hfz16_4 := bf BK400.out 4))
    have n0_ : Aside0 ((w15.setCell ⟨gb400, 4, none⟩ (.int .i64 t402)).heap[gb400]? = some (.cells #[.int .i64 a1_0, .int .i64 a1_1, .int .i64 a1_2, .int .i64 a1_3, .int .i64 t402] 138 (0, 0))) := ⟨by (with_reducible repeat (first | refine kN ?_ _ | refine kD ?_ | refine kA ?_ _)); refine blk_put (cs := #[.int .i64 a1_0, .int .i64 a1_1, .int .i64 a1_2, .int .i64 a1_3, .int .i64 a1_4]) ?_ 4 _ rfl; (with_reducible repeat (first | refine kN ?_ _ | refine kD ?_ | refine kA ?_ _)); exact BK400.out⟩
    have n1_ : Aside0 (Below w.heap.size w (w15.setCell ⟨gb400, 4, none⟩ (.int .i64 t402))) := ⟨by repeat (first | (with_reducible first | exact HB.out | apply bA | apply bN | apply b1 | refine bS ?_ GE400.out) | exact HB.out)⟩
    (try clear BK400)
    (try clear HB)
    generalize (w15.setCell ⟨gb400, 4, none⟩ (.int .i64 t402)) = w17 at n0_ n1_ ⊢
    have BK400 := n0_
    have HB := n1_
    clear n0_ n1_
    have n0_ := zK (kD BK400.out)
    have n1_ := zK (b1 HB.out)
    clear BK400
    clear HB
    have BK400 := n0_
    have HB := n1_
    clear n0_ n1_
    refine start_ (n := 6) (S := fun w' => w'.cell? ⟨gb400, 0, none⟩ = some (.int .i64 a1_0) ∧ w'.cell? ⟨gb400, 1, none⟩ = some (.int .i64 a1_1) ∧ w'.cell? ⟨gb400, 2, none⟩ = some (.int .i64 a1_2) ∧ w'.cell? ⟨gb400, 3, none⟩ = some (.int .i64 a1_3) ∧ w'.cell? ⟨gb400, 4, none⟩ = some (.int .i64 t402)) (ds := []) b11A0 (by kernel_rfl) rfl rfl ⟨(bc BK400.out 0).trans rfl, (bc BK400.out 1).trans rfl, (bc BK400.out 2).trans rfl, (bc BK400.out 3).trans rfl, (bc BK400.out 4).trans rfl⟩ (fun hHeld => ?_)
    generalize w17.drew = w18 at BK400 HB hHeld ⊢
    refine pure_ (i := 0) (N := some 22) (v := ?_) (a' := ?_) b11A1 rfl rfl (by kernel_rfl) (fun _ _ _ h => h) (Or.inl ⟨by rfl, ?_⟩) ?_ ?_
    rotate_left
    ·intro w'
     go_simp
     with_reducible rfl
    rotate_left
    ·simp only [Act.put, sA, sZ, sS, i64_w, i32_w]
     rfl
    refine take_ (i := 2) (N := some 24) (v := ?_) (a' := ?_) b11A2 rfl rfl (by kernel_rfl) (fun _ _ _ h => h) (Or.inl ⟨by rfl, ?_⟩) hHeld ?_ ?_
    rotate_left
    ·rintro w' ⟨s0, s1, s2, s3, s4⟩
     go_simp
     with_reducible rfl
    rotate_left
    ·simp only [Act.put, sA, sZ, sS, i64_w, i32_w]
     rfl
    refine join_ (σ := Value × Value) 2 #[true, true, true, true, false, false] (fun s_ => [(23, s_.1), (25, s_.2)]) (fun s_ w' => (w'.cell? ⟨gb400, 0, none⟩ = some (.int .i64 a1_0) ∧ w'.cell? ⟨gb400, 1, none⟩ = some (.int .i64 a1_1) ∧ w'.cell? ⟨gb400, 2, none⟩ = some (.int .i64 a1_2) ∧ w'.cell? ⟨gb400, 3, none⟩ = some (.int .i64 a1_3) ∧ w'.cell? ⟨gb400, 4, none⟩ = some (.int .i64 t402)) ∧ (Kd.R k138 138 w' w.heap.size (fun k_ => some k_ ≠ (s_.2 : Value).ownBlock ∧ k_ ≠ gb400) s_.1 t403) ∧ (Kd.R k138 138 w' w.heap.size (fun k_ => some k_ ≠ (s_.1 : Value).ownBlock ∧ k_ ≠ gb400) s_.2 y406) ∧ (w'.heap[gb400]? = some (.cells #[.int .i64 a1_0, .int .i64 a1_1, .int .i64 a1_2, .int .i64 a1_3, .int .i64 t402] 138 (0, 0))) ∧ (Below w.heap.size w w')) ?_ ?_
    rotate_left
    ·intro hCont
     refine two_ (i := 1) (j := 3) (Ni := some 23) (Nj := some 25) b11A3 b11A4 rfl rfl rfl rfl (by kernel_rfl) (by decide) (by decide) (fun K hK => ?_) (fun K hK => ?_)
     rotate_left
     ·skip
      refine Kd.R_lit_step k138 _ 138 ?hg (N := 25) ?hd (xs := ([(⟨a1_0, a1_1, a1_2, a1_3, t402⟩ : S138)] : List (S138))) (inner := [.int .i64 a1_0, .int .i64 a1_1, .int .i64 a1_2, .int .i64 a1_3, .int .i64 t402]) (ok := fun _ => True) (okp := fun _ => True) ?hr ?hp (fun _ hk => hk) trivial (Below.refl _ _) (Nat.le_refl _) (by simp) ?_; (case hd => rfl); (case hg => rfl); (case hr => first | (go_simp; done) | (go_simp; rfl)); (case hp => exact (Reps.c5 (show Kd.M k138 _ _ _ (⟨a1_0, a1_1, a1_2, a1_3, t402⟩ : S138) [.int .i64 a1_0, .int .i64 a1_1, .int .i64 a1_2, .int .i64 a1_3, .int .i64 t402] from (k138_mkM _ _ _ (⟨a1_0, a1_1, a1_2, a1_3, t402⟩ : S138) )) (Reps.none _ _)))
      intro v407 w19 ho20 hb hg_ hnew_
      clear hg_ hnew_
      (first | rw [← Ny406.out] at ho20 | (simp only [Int.reduceToNat] at ho20; rw [← Ny406.out] at ho20))
      have n0_ := zK (Kd.R_lower (Kd.R_newB ho20 (g := gb400) (o := .cells #[.int .i64 a1_0, .int .i64 a1_1, .int .i64 a1_2, .int .i64 a1_3, .int .i64 t402] 138 (0, 0)) (by (with_reducible repeat (first | refine kN ?_ _ | refine kD ?_ | refine kA ?_ _)); exact BK400.out)) (bZ (by repeat (first | (with_reducible first | exact HB.out | apply bA | apply bN | apply b1 | refine bS ?_ GE400.out) | exact HB.out))))
      have n1_ := zK (bB (g := gb400) (o := .cells #[.int .i64 a1_0, .int .i64 a1_1, .int .i64 a1_2, .int .i64 a1_3, .int .i64 t402] 138 (0, 0)) (by (with_reducible repeat (first | refine kN ?_ _ | refine kD ?_ | refine kA ?_ _)); exact BK400.out) hb)
      have n2_ := zK (bT (by repeat (first | (with_reducible first | exact HB.out | apply bA | apply bN | apply b1 | refine bS ?_ GE400.out) | exact HB.out)) hb)
      clear BK400
      clear HB
      have HO408 := n0_
      have BK400 := n1_
      have HB := n2_
      clear n0_ n1_ n2_
      clear hb ho20
      refine hK.out _ _ ⟨(bc BK400.out 0).trans rfl, (bc BK400.out 1).trans rfl, (bc BK400.out 2).trans rfl, (bc BK400.out 3).trans rfl, (bc BK400.out 4).trans rfl⟩ (fun hHeld => ?_)
      clear hK K
      refine norm_ (a' := ?_) ?_ ?_
      rotate_left
      ·show Act.put _ (some 25) _ = _
       simp only [Act.put, sA, sZ, sS, i64_w, i32_w]
       rfl
      refine one_ (i := 1) (N := some 23) #[true, true, true, true, false, false] rfl rfl (by kernel_rfl) (by decide) (fun K hK => ?_)
      refine goes_ Try.func101 (by kernel_rfl) rfl #[.slice A0 l0.length c0] (by rfl) rfl rfl (by (try simp only [List.map_toArray, List.map_cons, List.map_nil]); first | done | rfl | (simp only [List.length_drop, List.length_take]; rfl)) ?_
      with_reducible refine (impl_Hand.calls _ _ l0 t403 _ ?side1 ?side2 A10.out).mono ?_
      (case side1 => repeat (first | exact (Kd.C_below HR0.out HB.out) | (with_reducible refine Kd.CA ?_ _) | (with_reducible refine Kd.CN ?_ _) | (with_reducible refine Kd.CD ?_)))
      (case side2 => exact HC0.out)
      rintro e w21 ⟨v404, rfl, ho0, hb⟩
      refine ⟨_, rfl, ?_⟩
      have n0_ := zK (Kd.R_elder' (by (with_reducible repeat (first | apply Kd.RA | apply Kd.RN | apply Kd.RD)); exact HO408.out) (Kd.R_base ho0) hb)
      have n1_ := zK (Kd.R_lower (Kd.R_newB (Kd.R_new' ho0 (Kd.R_lt (by (with_reducible repeat (first | apply Kd.RA | apply Kd.RN | apply Kd.RD)); exact HO408.out))) (g := gb400) (o := .cells #[.int .i64 a1_0, .int .i64 a1_1, .int .i64 a1_2, .int .i64 a1_3, .int .i64 t402] 138 (0, 0)) (by (with_reducible repeat (first | refine kN ?_ _ | refine kD ?_ | refine kA ?_ _)); exact BK400.out)) (bZ (by repeat (first | (with_reducible first | exact HB.out | apply bA | apply bN | apply b1 | refine bS ?_ GE400.out) | exact HB.out))))
      have n2_ := zK (bB (g := gb400) (o := .cells #[.int .i64 a1_0, .int .i64 a1_1, .int .i64 a1_2, .int .i64 a1_3, .int .i64 t402] 138 (0, 0)) (by (with_reducible repeat (first | refine kN ?_ _ | refine kD ?_ | refine kA ?_ _)); exact BK400.out) hb)
      have n3_ := zK (bT (by repeat (first | (with_reducible first | exact HB.out | apply bA | apply bN | apply b1 | refine bS ?_ GE400.out) | exact HB.out)) hb)
      clear HO408
      clear BK400
      clear HB
      have HO408 := n0_
      have HO405 := n1_
      have BK400 := n2_
      have HB := n3_
      clear n0_ n1_ n2_ n3_
      (try clear hb)
      (try clear hb2)
      (try clear hk)
      (try clear hi)
      (try clear ho0)
      refine hK.out _ _ ⟨(bc BK400.out 0).trans rfl, (bc BK400.out 1).trans rfl, (bc BK400.out 2).trans rfl, (bc BK400.out 3).trans rfl, (bc BK400.out 4).trans rfl⟩ (fun hHeld => ?_)
      clear hK K
      refine norm_ (a' := ?_) ?_ ?_
      rotate_left
      ·show Act.put _ (some 23) _ = _
       simp only [Act.put, sA, sZ, sS, i64_w, i32_w]
       rfl
      exact norm_ (by simp only [putAll, Act.put, sA, sZ, sS]) (hCont (v404, v407) _ ⟨hHeld, (by (with_reducible repeat (first | apply Kd.RA | apply Kd.RN | apply Kd.RD)); exact Kd.R_mono HO405.out (fun _ hk => ⟨hk.1.2, hk.2⟩)), (by (with_reducible repeat (first | apply Kd.RA | apply Kd.RN | apply Kd.RD)); exact Kd.R_mono HO408.out (fun _ hk => ⟨hk.2, hk.1.2⟩)), (by (with_reducible repeat (first | refine kN ?_ _ | refine kD ?_ | refine kA ?_ _)); exact BK400.out), (by repeat (first | (with_reducible first | exact HB.out | apply bA | apply bN | apply b1 | refine bS ?_ GE400.out) | exact HB.out))⟩)
     skip
     refine goes_ Try.func101 (by kernel_rfl) rfl #[.slice A0 l0.length c0] (by rfl) rfl rfl (by (try simp only [List.map_toArray, List.map_cons, List.map_nil]); first | done | rfl | (simp only [List.length_drop, List.length_take]; rfl)) ?_
     with_reducible refine (impl_Hand.calls _ _ l0 t403 _ ?side1 ?side2 A10.out).mono ?_
     (case side1 => repeat (first | exact (Kd.C_below HR0.out HB.out) | (with_reducible refine Kd.CA ?_ _) | (with_reducible refine Kd.CN ?_ _) | (with_reducible refine Kd.CD ?_)))
     (case side2 => exact HC0.out)
     rintro e w19 ⟨v404, rfl, ho0, hb⟩
     refine ⟨_, rfl, ?_⟩
     have n0_ := zK (Kd.R_lower (Kd.R_newB ho0 (g := gb400) (o := .cells #[.int .i64 a1_0, .int .i64 a1_1, .int .i64 a1_2, .int .i64 a1_3, .int .i64 t402] 138 (0, 0)) (by (with_reducible repeat (first | refine kN ?_ _ | refine kD ?_ | refine kA ?_ _)); exact BK400.out)) (bZ (by repeat (first | (with_reducible first | exact HB.out | apply bA | apply bN | apply b1 | refine bS ?_ GE400.out) | exact HB.out))))
     have n1_ := zK (bB (g := gb400) (o := .cells #[.int .i64 a1_0, .int .i64 a1_1, .int .i64 a1_2, .int .i64 a1_3, .int .i64 t402] 138 (0, 0)) (by (with_reducible repeat (first | refine kN ?_ _ | refine kD ?_ | refine kA ?_ _)); exact BK400.out) hb)
     have n2_ := zK (bT (by repeat (first | (with_reducible first | exact HB.out | apply bA | apply bN | apply b1 | refine bS ?_ GE400.out) | exact HB.out)) hb)
     clear BK400
     clear HB
     have HO405 := n0_
     have BK400 := n1_
     have HB := n2_
     clear n0_ n1_ n2_
     (try clear hb)
     (try clear hb2)
     (try clear hk)
     (try clear hi)
     (try clear ho0)
     refine hK.out _ _ ⟨(bc BK400.out 0).trans rfl, (bc BK400.out 1).trans rfl, (bc BK400.out 2).trans rfl, (bc BK400.out 3).trans rfl, (bc BK400.out 4).trans rfl⟩ (fun hHeld => ?_)
     clear hK K
     refine norm_ (a' := ?_) ?_ ?_
     rotate_left
     ·show Act.put _ (some 23) _ = _
      simp only [Act.put, sA, sZ, sS, i64_w, i32_w]
      rfl
     refine one_ (i := 3) (N := some 25) #[true, true, true, true, false, false] rfl rfl (by kernel_rfl) (by decide) (fun K hK => ?_)
     refine Kd.R_lit_step k138 _ 138 ?hg (N := 25) ?hd (xs := ([(⟨a1_0, a1_1, a1_2, a1_3, t402⟩ : S138)] : List (S138))) (inner := [.int .i64 a1_0, .int .i64 a1_1, .int .i64 a1_2, .int .i64 a1_3, .int .i64 t402]) (ok := fun _ => True) (okp := fun _ => True) ?hr ?hp (fun _ hk => hk) trivial (Below.refl _ _) (Nat.le_refl _) (by simp) ?_; (case hd => rfl); (case hg => rfl); (case hr => first | (go_simp; done) | (go_simp; rfl)); (case hp => exact (Reps.c5 (show Kd.M k138 _ _ _ (⟨a1_0, a1_1, a1_2, a1_3, t402⟩ : S138) [.int .i64 a1_0, .int .i64 a1_1, .int .i64 a1_2, .int .i64 a1_3, .int .i64 t402] from (k138_mkM _ _ _ (⟨a1_0, a1_1, a1_2, a1_3, t402⟩ : S138) )) (Reps.none _ _)))
     intro v407 w20 ho21 hb hg_ hnew_
     clear hg_ hnew_
     (first | rw [← Ny406.out] at ho21 | (simp only [Int.reduceToNat] at ho21; rw [← Ny406.out] at ho21))
     have n0_ := zK (Kd.R_elder' (by (with_reducible repeat (first | apply Kd.RA | apply Kd.RN | apply Kd.RD)); exact HO405.out) (Kd.R_base ho21) hb)
     have n1_ := zK (Kd.R_lower (Kd.R_newB (Kd.R_new' ho21 (Kd.R_lt (by (with_reducible repeat (first | apply Kd.RA | apply Kd.RN | apply Kd.RD)); exact HO405.out))) (g := gb400) (o := .cells #[.int .i64 a1_0, .int .i64 a1_1, .int .i64 a1_2, .int .i64 a1_3, .int .i64 t402] 138 (0, 0)) (by (with_reducible repeat (first | refine kN ?_ _ | refine kD ?_ | refine kA ?_ _)); exact BK400.out)) (bZ (by repeat (first | (with_reducible first | exact HB.out | apply bA | apply bN | apply b1 | refine bS ?_ GE400.out) | exact HB.out))))
     have n2_ := zK (bB (g := gb400) (o := .cells #[.int .i64 a1_0, .int .i64 a1_1, .int .i64 a1_2, .int .i64 a1_3, .int .i64 t402] 138 (0, 0)) (by (with_reducible repeat (first | refine kN ?_ _ | refine kD ?_ | refine kA ?_ _)); exact BK400.out) hb)
     have n3_ := zK (bT (by repeat (first | (with_reducible first | exact HB.out | apply bA | apply bN | apply b1 | refine bS ?_ GE400.out) | exact HB.out)) hb)
     clear HO405
     clear BK400
     clear HB
     have HO405 := n0_
     have HO408 := n1_
     have BK400 := n2_
     have HB := n3_
     clear n0_ n1_ n2_ n3_
     clear hb ho21
     refine hK.out _ _ ⟨(bc BK400.out 0).trans rfl, (bc BK400.out 1).trans rfl, (bc BK400.out 2).trans rfl, (bc BK400.out 3).trans rfl, (bc BK400.out 4).trans rfl⟩ (fun hHeld => ?_)
     clear hK K
     refine norm_ (a' := ?_) ?_ ?_
     rotate_left
     ·show Act.put _ (some 25) _ = _
      simp only [Act.put, sA, sZ, sS, i64_w, i32_w]
      rfl
     exact norm_ (by simp only [putAll, Act.put, sA, sZ, sS]) (hCont (v404, v407) _ ⟨hHeld, (by (with_reducible repeat (first | apply Kd.RA | apply Kd.RN | apply Kd.RD)); exact Kd.R_mono HO405.out (fun _ hk => ⟨hk.2, hk.1.2⟩)), (by (with_reducible repeat (first | apply Kd.RA | apply Kd.RN | apply Kd.RD)); exact Kd.R_mono HO408.out (fun _ hk => ⟨hk.1.2, hk.2⟩)), (by (with_reducible repeat (first | refine kN ?_ _ | refine kD ?_ | refine kA ?_ _)); exact BK400.out), (by repeat (first | (with_reducible first | exact HB.out | apply bA | apply bN | apply b1 | refine bS ?_ GE400.out) | exact HB.out))⟩)
    rintro ⟨v404, v407⟩ w22 ⟨hS_, h0_, h1_, h2_, h3_⟩
    have n0_ : Aside0 (Kd.R k138 138 w22 w.heap.size (fun k_ => some k_ ≠ (v407 : Value).ownBlock ∧ k_ ≠ gb400) v404 t403) := ⟨h0_⟩
    have n1_ : Aside0 (Kd.R k138 138 w22 w.heap.size (fun k_ => some k_ ≠ (v404 : Value).ownBlock ∧ k_ ≠ gb400) v407 y406) := ⟨h1_⟩
    have n2_ : Aside0 (w22.heap[gb400]? = some (.cells #[.int .i64 a1_0, .int .i64 a1_1, .int .i64 a1_2, .int .i64 a1_3, .int .i64 t402] 138 (0, 0))) := ⟨h2_⟩
    have n3_ : Aside0 (Below w.heap.size w w22) := ⟨h3_⟩
    clear BK400
    clear HB
    clear h0_ h1_ h2_ h3_
    have HO405 := n0_
    have HO408 := n1_
    have BK400 := n2_
    have HB := n3_
    clear n0_ n1_ n2_ n3_
    have hHeld : w22.cell? ⟨gb400, 0, none⟩ = some (.int .i64 a1_0) ∧ w22.cell? ⟨gb400, 1, none⟩ = some (.int .i64 a1_1) ∧ w22.cell? ⟨gb400, 2, none⟩ = some (.int .i64 a1_2) ∧ w22.cell? ⟨gb400, 3, none⟩ = some (.int .i64 a1_3) ∧ w22.cell? ⟨gb400, 4, none⟩ = some (.int .i64 t402) := hS_
    obtain ⟨Ao24, co24, eo24⟩ := Kd.R_slice HO408.out
    (first | subst eo24 | (injection eo24 with f1_ f2_ f3_; have f4_ := f1_.symm; have f5_ := f3_.symm; clear f1_ f2_ f3_; subst f4_; subst f5_))
    refine norm_ (a' := ?_) ?_ ?_
    rotate_left
    ·simp only [putAll, Act.put, sA, sZ, sS]
     rfl
    refine one_ (i := 4) (N := some 26) #[true, true, true, true, true, false] rfl rfl (by kernel_rfl) (by decide) (fun K hK => ?_)
    refine Kd.R_append_rows_step k138 (w0 := w) w.heap.size (by rfl) (.tmp 23) (.tmp 25) 51 138 (.agg #[(.int .i64 0), (.int .i64 0), (.int .i64 0), (.int .i64 0), (.int .i64 0)]) 40 rfl Try.underlying51 info138 rfl (by decide) (by omega) v404 t403 y406 _ _ _ (fun k_ => some k_ ≠ (.slice Ao24 y406.length co24 : Value).ownBlock ∧ k_ ≠ gb400) (fun _ => False) rfl rfl ?aO ?aR (fun _ _ h => h) (fun _ h => h.elim) ?aF ?aB ?aS ?aL ?_
    (case aR => repeat (first | exact (Kd.R_reads' HO408.out).2.2 | (with_reducible refine Kd.CA ?_ _) | (with_reducible refine Kd.CN ?_ _) | (with_reducible refine Kd.CD ?_)))
    (case aB => exact (by repeat (first | (with_reducible first | exact HB.out | apply bA | apply bN | apply b1 | refine bS ?_ GE400.out) | exact HB.out)))
    (case aF => exact (fun k_ hk => ⟨Kd.fresh' (Kd.R_lt (by (with_reducible repeat (first | apply Kd.RA | apply Kd.RN | apply Kd.RD)); exact HO408.out)) k_ hk, Kd.freshB (g := gb400) (o := .cells #[.int .i64 a1_0, .int .i64 a1_1, .int .i64 a1_2, .int .i64 a1_3, .int .i64 t402] 138 (0, 0)) (by (with_reducible repeat (first | refine kN ?_ _ | refine kD ?_ | refine kA ?_ _)); exact BK400.out) k_ hk⟩))
    (case aO => exact (by (with_reducible repeat (first | apply Kd.RA | apply Kd.RN | apply Kd.RD)); exact HO405.out))
    (case aS => exact (bZ (by repeat (first | (with_reducible first | exact HB.out | apply bA | apply bN | apply b1 | refine bS ?_ GE400.out) | exact HB.out))))
    (case aL => have := LMc11.out; omega)
    intro v410 w23 ho hb hg hat
    rw [← Ny409.out] at ho
    have n0_ := zK (blk_grown (g := gb400) (o := .cells #[.int .i64 a1_0, .int .i64 a1_1, .int .i64 a1_2, .int .i64 a1_3, .int .i64 t402] 138 (0, 0)) (by (with_reducible repeat (first | refine kN ?_ _ | refine kD ?_ | refine kA ?_ _)); exact BK400.out) hg (Kd.R_away HO405.out (fun _ hk => hk.2)))
    have n1_ := zK (Kd.R_after (ok := (fun k_ => k_ ≠ gb400)) (by (with_reducible repeat (first | apply Kd.RA | apply Kd.RN | apply Kd.RD)); exact Kd.R_mono HO408.out (fun _ hk => ⟨hk.2, hk.1⟩)) hg hat)
    have n2_ := zK (hb)
    have n3_ := zK (ho)
    clear BK400
    clear HO408
    clear HB
    clear HO405
    have BK400 := n0_
    have HO408 := n1_
    have HB := n2_
    have HO411 := n3_
    clear n0_ n1_ n2_ n3_
    clear ho hb hg hat
    refine hK.out _ _ ⟨(bc BK400.out 0).trans rfl, (bc BK400.out 1).trans rfl, (bc BK400.out 2).trans rfl, (bc BK400.out 3).trans rfl, (bc BK400.out 4).trans rfl⟩ (fun hHeld => ?_)
    clear hK K
    refine norm_ (a' := ?_) ?_ ?_
    rotate_left
    ·show Act.put _ (some 26) _ = _
     simp only [Act.put, sA, sZ, sS, i64_w, i32_w]
     rfl
    refine pure_ (i := 5) (N := some 7) (v := ?_) (a' := ?_) #[true, true, true, true, true, true] rfl rfl (by kernel_rfl) (fun _ _ _ h => h) (Or.inl ⟨by rfl, ?_⟩) ?_ ?_
    rotate_left
    ·intro w'
     go_simp
     with_reducible rfl
    rotate_left
    ·simp only [Act.put, sA, sZ, sS, i64_w, i32_w]
     rfl
    refine done_ (by kernel_rfl) ?_
    obtain ⟨Ao25, co25, eo25⟩ := Kd.R_slice HO411.out
    subst eo25
    try go_wp2_with (first | ((with_reducible refine gate_callee (f := 34) rfl ?_); refine goesL_ (some 28) rfl rfl Try.func34 (by kernel_rfl) rfl #[.slice Ao25 y409.length co25] rfl (by (try simp only [List.map_toArray, List.map_cons, List.map_nil]); first | done | rfl | (simp only [List.length_drop, List.length_take]; rfl)) ?_; (with_reducible refine (impl_IsChain.calls kj2 _ _ y409 true _ ?side1 ?side2 A12.out).mono ?_); (case side1 => repeat (first | exact (Kd.R_reads' HO411.out).2.2 | (with_reducible refine Kd.CA ?_ _) | (with_reducible refine Kd.CN ?_ _) | (with_reducible refine Kd.CD ?_))); (case side2 => exact (Kd.R_reads' HO411.out).2.1); rintro e w26 ⟨rfl, hb⟩; refine ⟨_, rfl, ?_⟩; have n0_ := zK (Kd.R_below (by (with_reducible repeat (first | apply Kd.RA | apply Kd.RN | apply Kd.RD)); exact HO408.out) hb); have n1_ := zK (Kd.R_below (by (with_reducible repeat (first | apply Kd.RA | apply Kd.RN | apply Kd.RD)); exact HO411.out) hb); have n2_ := zK (bB (g := gb400) (o := .cells #[.int .i64 a1_0, .int .i64 a1_1, .int .i64 a1_2, .int .i64 a1_3, .int .i64 t402] 138 (0, 0)) (by (with_reducible repeat (first | refine kN ?_ _ | refine kD ?_ | refine kA ?_ _)); exact BK400.out) hb); have n3_ := zK (bT (by repeat (first | (with_reducible first | exact HB.out | apply bA | apply bN | apply b1 | refine bS ?_ GE400.out) | exact HB.out)) hb); clear HO408; clear HO411; clear BK400; clear HB; have HO408 := n0_; have HO411 := n1_; have BK400 := n2_; have HB := n3_; clear n0_ n1_ n2_ n3_; (try clear hb); (try clear hb2); (try clear hk); (try clear hi)))
    go_ret2
    exact ⟨_, by first | rfl | (simp [errW_none, errW_some] <;> rfl) | (simp [*, errW_none, errW_some] <;> rfl), by (with_reducible repeat (first | apply Kd.RA | apply Kd.RN | apply Kd.RD)); exact Kd.R_mono HO411.out (fun _ hk => trivial), by repeat (first | (with_reducible first | exact HB.out | apply bA | apply bN | apply b1 | refine bS ?_ GE400.out) | exact HB.out)⟩
   replace c13 := Bool.eq_false_iff.mpr c13
   subst c13
   have H1 : ((impl_Hand.f l0).bind fun t413 => (some (t413, false))) = some (r1, r2) := by rw [if_neg (show ¬ (false = true) by decide)] at H; exact H
   clear H
   have H := H1
   clear H1
   replace H := Option.bind_eq_some_iff.mp H
   obtain ⟨t413, A270, H⟩ := H
   replace H : (some (t413, false)) = some (r1, r2) := H
   have A27 := zK A270
   clear A270
   simp only [Option.some.injEq, Prod.mk.injEq] at H
   obtain ⟨rfl, rfl⟩ := H
   have hcz28_0 : wc.cell? ⟨gb400, 0, none⟩ = some (.int .i64 a1_0) := (bc BK400.out 0).trans rfl
   have hcz28_1 : wc.cell? ⟨gb400, 1, none⟩ = some (.int .i64 a1_1) := (bc BK400.out 1).trans rfl
   have hcz28_2 : wc.cell? ⟨gb400, 2, none⟩ = some (.int .i64 a1_2) := (bc BK400.out 2).trans rfl
   have hcz28_3 : wc.cell? ⟨gb400, 3, none⟩ = some (.int .i64 a1_3) := (bc BK400.out 3).trans rfl
   have hcz28_4 : wc.cell? ⟨gb400, 4, none⟩ = some (.int .i64 a1_4) := (bc BK400.out 4).trans rfl
   have hfz28_0 := bf BK400.out 0
   have hfz28_1 := bf BK400.out 1
   have hfz28_2 := bf BK400.out 2
   have hfz28_3 := bf BK400.out 3
   have hfz28_4 := bf BK400.out 4
   try go_wp2_with (first | ((with_reducible refine gate_callee (f := 107) rfl ?_); refine goesL_ (some 20) rfl rfl Try.func107 (by kernel_rfl) rfl #[.int .i64 x6_2, .agg #[.int .i64 a1_0, .int .i64 a1_1, .int .i64 a1_2, .int .i64 a1_3, .int .i64 a1_4]] rfl (by (try simp only [List.map_toArray, List.map_cons, List.map_nil]); first | done | rfl | (simp only [List.length_drop, List.length_take]; rfl)) ?_; (with_reducible refine (impl_HandSeal.calls kj2 x6_2 a1_0 a1_1 a1_2 a1_3 a1_4 t402 _ A9.out).mono ?_); rintro e w29 ⟨rfl, hb⟩; refine ⟨_, rfl, ?_⟩; have n0_ := zK (bB (g := gb400) (o := .cells #[.int .i64 a1_0, .int .i64 a1_1, .int .i64 a1_2, .int .i64 a1_3, .int .i64 a1_4] 138 (0, 0)) (by (with_reducible repeat (first | refine kN ?_ _ | refine kD ?_ | refine kA ?_ _)); exact BK400.out) hb); have n1_ := zK (bT (by repeat (first | (with_reducible first | exact HB.out | apply bA | apply bN | apply b1 | refine bS ?_ GE400.out) | exact HB.out)) hb); clear BK400; clear HB; have BK400 := n0_; have HB := n1_; clear n0_ n1_; (try clear hb); (try clear hb2); (try clear hk); (try clear hi); have hcz30_0 : w29.cell? ⟨gb400, 0, none⟩ = some (.int .i64 a1_0) := (bc BK400.out 0).trans rfl; have hcz30_1 : w29.cell? ⟨gb400, 1, none⟩ = some (.int .i64 a1_1) := (bc BK400.out 1).trans rfl; have hcz30_2 : w29.cell? ⟨gb400, 2, none⟩ = some (.int .i64 a1_2) := (bc BK400.out 2).trans rfl; have hcz30_3 : w29.cell? ⟨gb400, 3, none⟩ = some (.int .i64 a1_3) := (bc BK400.out 3).trans rfl; have hcz30_4 : w29.cell? ⟨gb400, 4, none⟩ = some (.int .i64 a1_4) := (bc BK400.out 4).trans rfl; have hfz30_0 := bf BK400.out 0; have hfz30_1 := bf BK400.out 1; have hfz30_2 := bf BK400.out 2; have hfz30_3 := bf BK400.out 3; have hfz30_4 := bf BK400.out 4))
   have n0_ : Aside0 ((w29.setCell ⟨gb400, 4, none⟩ (.int .i64 t402)).heap[gb400]? = some (.cells #[.int .i64 a1_0, .int .i64 a1_1, .int .i64 a1_2, .int .i64 a1_3, .int .i64 t402] 138 (0, 0))) := ⟨by (with_reducible repeat (first | refine kN ?_ _ | refine kD ?_ | refine kA ?_ _)); refine blk_put (cs := #[.int .i64 a1_0, .int .i64 a1_1, .int .i64 a1_2, .int .i64 a1_3, .int .i64 a1_4]) ?_ 4 _ rfl; (with_reducible repeat (first | refine kN ?_ _ | refine kD ?_ | refine kA ?_ _)); exact BK400.out⟩
   have n1_ : Aside0 (Below w.heap.size w (w29.setCell ⟨gb400, 4, none⟩ (.int .i64 t402))) := ⟨by repeat (first | (with_reducible first | exact HB.out | apply bA | apply bN | apply b1 | refine bS ?_ GE400.out) | exact HB.out)⟩
   (try clear BK400)
   (try clear HB)
   generalize (w29.setCell ⟨gb400, 4, none⟩ (.int .i64 t402)) = w31 at n0_ n1_ ⊢
   have BK400 := n0_
   have HB := n1_
   clear n0_ n1_
   have n0_ := zK (kD BK400.out)
   have n1_ := zK (b1 HB.out)
   clear BK400
   clear HB
   have BK400 := n0_
   have HB := n1_
   clear n0_ n1_
   refine start_ (n := 6) (S := fun w' => w'.cell? ⟨gb400, 0, none⟩ = some (.int .i64 a1_0) ∧ w'.cell? ⟨gb400, 1, none⟩ = some (.int .i64 a1_1) ∧ w'.cell? ⟨gb400, 2, none⟩ = some (.int .i64 a1_2) ∧ w'.cell? ⟨gb400, 3, none⟩ = some (.int .i64 a1_3) ∧ w'.cell? ⟨gb400, 4, none⟩ = some (.int .i64 t402)) (ds := []) b11A0 (by kernel_rfl) rfl rfl ⟨(bc BK400.out 0).trans rfl, (bc BK400.out 1).trans rfl, (bc BK400.out 2).trans rfl, (bc BK400.out 3).trans rfl, (bc BK400.out 4).trans rfl⟩ (fun hHeld => ?_)
   generalize w31.drew = w32 at BK400 HB hHeld ⊢
   refine pure_ (i := 0) (N := some 22) (v := ?_) (a' := ?_) b11A1 rfl rfl (by kernel_rfl) (fun _ _ _ h => h) (Or.inl ⟨by rfl, ?_⟩) ?_ ?_
   rotate_left
   ·intro w'
    go_simp
    with_reducible rfl
   rotate_left
   ·simp only [Act.put, sA, sZ, sS, i64_w, i32_w]
    rfl
   refine take_ (i := 2) (N := some 24) (v := ?_) (a' := ?_) b11A2 rfl rfl (by kernel_rfl) (fun _ _ _ h => h) (Or.inl ⟨by rfl, ?_⟩) hHeld ?_ ?_
   rotate_left
   ·rintro w' ⟨s0, s1, s2, s3, s4⟩
    go_simp
    with_reducible rfl
   rotate_left
   ·simp only [Act.put, sA, sZ, sS, i64_w, i32_w]
    rfl
   refine join_ (σ := Value × Value) 2 #[true, true, true, true, false, false] (fun s_ => [(23, s_.1), (25, s_.2)]) (fun s_ w' => (w'.cell? ⟨gb400, 0, none⟩ = some (.int .i64 a1_0) ∧ w'.cell? ⟨gb400, 1, none⟩ = some (.int .i64 a1_1) ∧ w'.cell? ⟨gb400, 2, none⟩ = some (.int .i64 a1_2) ∧ w'.cell? ⟨gb400, 3, none⟩ = some (.int .i64 a1_3) ∧ w'.cell? ⟨gb400, 4, none⟩ = some (.int .i64 t402)) ∧ (Kd.R k138 138 w' w.heap.size (fun k_ => some k_ ≠ (s_.2 : Value).ownBlock ∧ k_ ≠ gb400) s_.1 t403) ∧ (Kd.R k138 138 w' w.heap.size (fun k_ => some k_ ≠ (s_.1 : Value).ownBlock ∧ k_ ≠ gb400) s_.2 y406) ∧ (w'.heap[gb400]? = some (.cells #[.int .i64 a1_0, .int .i64 a1_1, .int .i64 a1_2, .int .i64 a1_3, .int .i64 t402] 138 (0, 0))) ∧ (Below w.heap.size w w')) ?_ ?_
   rotate_left
   ·intro hCont
    refine two_ (i := 1) (j := 3) (Ni := some 23) (Nj := some 25) b11A3 b11A4 rfl rfl rfl rfl (by kernel_rfl) (by decide) (by decide) (fun K hK => ?_) (fun K hK => ?_)
    rotate_left
    ·skip
     refine Kd.R_lit_step k138 _ 138 ?hg (N := 25) ?hd (xs := ([(⟨a1_0, a1_1, a1_2, a1_3, t402⟩ : S138)] : List (S138))) (inner := [.int .i64 a1_0, .int .i64 a1_1, .int .i64 a1_2, .int .i64 a1_3, .int .i64 t402]) (ok := fun _ => True) (okp := fun _ => True) ?hr ?hp (fun _ hk => hk) trivial (Below.refl _ _) (Nat.le_refl _) (by simp) ?_; (case hd => rfl); (case hg => rfl); (case hr => first | (go_simp; done) | (go_simp; rfl)); (case hp => exact (Reps.c5 (show Kd.M k138 _ _ _ (⟨a1_0, a1_1, a1_2, a1_3, t402⟩ : S138) [.int .i64 a1_0, .int .i64 a1_1, .int .i64 a1_2, .int .i64 a1_3, .int .i64 t402] from (k138_mkM _ _ _ (⟨a1_0, a1_1, a1_2, a1_3, t402⟩ : S138) )) (Reps.none _ _)))
     intro v407 w33 ho34 hb hg_ hnew_
     clear hg_ hnew_
     (first | rw [← Ny406.out] at ho34 | (simp only [Int.reduceToNat] at ho34; rw [← Ny406.out] at ho34))
     have n0_ := zK (Kd.R_lower (Kd.R_newB ho34 (g := gb400) (o := .cells #[.int .i64 a1_0, .int .i64 a1_1, .int .i64 a1_2, .int .i64 a1_3, .int .i64 t402] 138 (0, 0)) (by (with_reducible repeat (first | refine kN ?_ _ | refine kD ?_ | refine kA ?_ _)); exact BK400.out)) (bZ (by repeat (first | (with_reducible first | exact HB.out | apply bA | apply bN | apply b1 | refine bS ?_ GE400.out) | exact HB.out))))
     have n1_ := zK (bB (g := gb400) (o := .cells #[.int .i64 a1_0, .int .i64 a1_1, .int .i64 a1_2, .int .i64 a1_3, .int .i64 t402] 138 (0, 0)) (by (with_reducible repeat (first | refine kN ?_ _ | refine kD ?_ | refine kA ?_ _)); exact BK400.out) hb)
     have n2_ := zK (bT (by repeat (first | (with_reducible first | exact HB.out | apply bA | apply bN | apply b1 | refine bS ?_ GE400.out) | exact HB.out)) hb)
     clear BK400
     clear HB
     have HO408 := n0_
     have BK400 := n1_
     have HB := n2_
     clear n0_ n1_ n2_
     clear hb ho34
     refine hK.out _ _ ⟨(bc BK400.out 0).trans rfl, (bc BK400.out 1).trans rfl, (bc BK400.out 2).trans rfl, (bc BK400.out 3).trans rfl, (bc BK400.out 4).trans rfl⟩ (fun hHeld => ?_)
     clear hK K
     refine norm_ (a' := ?_) ?_ ?_
     rotate_left
     ·show Act.put _ (some 25) _ = _
      simp only [Act.put, sA, sZ, sS, i64_w, i32_w]
      rfl
     refine one_ (i := 1) (N := some 23) #[true, true, true, true, false, false] rfl rfl (by kernel_rfl) (by decide) (fun K hK => ?_)
     refine goes_ Try.func101 (by kernel_rfl) rfl #[.slice A0 l0.length c0] (by rfl) rfl rfl (by (try simp only [List.map_toArray, List.map_cons, List.map_nil]); first | done | rfl | (simp only [List.length_drop, List.length_take]; rfl)) ?_
     with_reducible refine (impl_Hand.calls _ _ l0 t403 _ ?side1 ?side2 A10.out).mono ?_
     (case side1 => repeat (first | exact (Kd.C_below HR0.out HB.out) | (with_reducible refine Kd.CA ?_ _) | (with_reducible refine Kd.CN ?_ _) | (with_reducible refine Kd.CD ?_)))
     (case side2 => exact HC0.out)
     rintro e w35 ⟨v404, rfl, ho0, hb⟩
     refine ⟨_, rfl, ?_⟩
     have n0_ := zK (Kd.R_elder' (by (with_reducible repeat (first | apply Kd.RA | apply Kd.RN | apply Kd.RD)); exact HO408.out) (Kd.R_base ho0) hb)
     have n1_ := zK (Kd.R_lower (Kd.R_newB (Kd.R_new' ho0 (Kd.R_lt (by (with_reducible repeat (first | apply Kd.RA | apply Kd.RN | apply Kd.RD)); exact HO408.out))) (g := gb400) (o := .cells #[.int .i64 a1_0, .int .i64 a1_1, .int .i64 a1_2, .int .i64 a1_3, .int .i64 t402] 138 (0, 0)) (by (with_reducible repeat (first | refine kN ?_ _ | refine kD ?_ | refine kA ?_ _)); exact BK400.out)) (bZ (by repeat (first | (with_reducible first | exact HB.out | apply bA | apply bN | apply b1 | refine bS ?_ GE400.out) | exact HB.out))))
     have n2_ := zK (bB (g := gb400) (o := .cells #[.int .i64 a1_0, .int .i64 a1_1, .int .i64 a1_2, .int .i64 a1_3, .int .i64 t402] 138 (0, 0)) (by (with_reducible repeat (first | refine kN ?_ _ | refine kD ?_ | refine kA ?_ _)); exact BK400.out) hb)
     have n3_ := zK (bT (by repeat (first | (with_reducible first | exact HB.out | apply bA | apply bN | apply b1 | refine bS ?_ GE400.out) | exact HB.out)) hb)
     clear HO408
     clear BK400
     clear HB
     have HO408 := n0_
     have HO405 := n1_
     have BK400 := n2_
     have HB := n3_
     clear n0_ n1_ n2_ n3_
     (try clear hb)
     (try clear hb2)
     (try clear hk)
     (try clear hi)
     (try clear ho0)
     refine hK.out _ _ ⟨(bc BK400.out 0).trans rfl, (bc BK400.out 1).trans rfl, (bc BK400.out 2).trans rfl, (bc BK400.out 3).trans rfl, (bc BK400.out 4).trans rfl⟩ (fun hHeld => ?_)
     clear hK K
     refine norm_ (a' := ?_) ?_ ?_
     rotate_left
     ·show Act.put _ (some 23) _ = _
      simp only [Act.put, sA, sZ, sS, i64_w, i32_w]
      rfl
     exact norm_ (by simp only [putAll, Act.put, sA, sZ, sS]) (hCont (v404, v407) _ ⟨hHeld, (by (with_reducible repeat (first | apply Kd.RA | apply Kd.RN | apply Kd.RD)); exact Kd.R_mono HO405.out (fun _ hk => ⟨hk.1.2, hk.2⟩)), (by (with_reducible repeat (first | apply Kd.RA | apply Kd.RN | apply Kd.RD)); exact Kd.R_mono HO408.out (fun _ hk => ⟨hk.2, hk.1.2⟩)), (by (with_reducible repeat (first | refine kN ?_ _ | refine kD ?_ | refine kA ?_ _)); exact BK400.out), (by repeat (first | (with_reducible first | exact HB.out | apply bA | apply bN | apply b1 | refine bS ?_ GE400.out) | exact HB.out))⟩)
    skip
    refine goes_ Try.func101 (by kernel_rfl) rfl #[.slice A0 l0.length c0] (by rfl) rfl rfl (by (try simp only [List.map_toArray, List.map_cons, List.map_nil]); first | done | rfl | (simp only [List.length_drop, List.length_take]; rfl)) ?_
    with_reducible refine (impl_Hand.calls _ _ l0 t403 _ ?side1 ?side2 A10.out).mono ?_
    (case side1 => repeat (first | exact (Kd.C_below HR0.out HB.out) | (with_reducible refine Kd.CA ?_ _) | (with_reducible refine Kd.CN ?_ _) | (with_reducible refine Kd.CD ?_)))
    (case side2 => exact HC0.out)
    rintro e w33 ⟨v404, rfl, ho0, hb⟩
    refine ⟨_, rfl, ?_⟩
    have n0_ := zK (Kd.R_lower (Kd.R_newB ho0 (g := gb400) (o := .cells #[.int .i64 a1_0, .int .i64 a1_1, .int .i64 a1_2, .int .i64 a1_3, .int .i64 t402] 138 (0, 0)) (by (with_reducible repeat (first | refine kN ?_ _ | refine kD ?_ | refine kA ?_ _)); exact BK400.out)) (bZ (by repeat (first | (with_reducible first | exact HB.out | apply bA | apply bN | apply b1 | refine bS ?_ GE400.out) | exact HB.out))))
    have n1_ := zK (bB (g := gb400) (o := .cells #[.int .i64 a1_0, .int .i64 a1_1, .int .i64 a1_2, .int .i64 a1_3, .int .i64 t402] 138 (0, 0)) (by (with_reducible repeat (first | refine kN ?_ _ | refine kD ?_ | refine kA ?_ _)); exact BK400.out) hb)
    have n2_ := zK (bT (by repeat (first | (with_reducible first | exact HB.out | apply bA | apply bN | apply b1 | refine bS ?_ GE400.out) | exact HB.out)) hb)
    clear BK400
    clear HB
    have HO405 := n0_
    have BK400 := n1_
    have HB := n2_
    clear n0_ n1_ n2_
    (try clear hb)
    (try clear hb2)
    (try clear hk)
    (try clear hi)
    (try clear ho0)
    refine hK.out _ _ ⟨(bc BK400.out 0).trans rfl, (bc BK400.out 1).trans rfl, (bc BK400.out 2).trans rfl, (bc BK400.out 3).trans rfl, (bc BK400.out 4).trans rfl⟩ (fun hHeld => ?_)
    clear hK K
    refine norm_ (a' := ?_) ?_ ?_
    rotate_left
    ·show Act.put _ (some 23) _ = _
     simp only [Act.put, sA, sZ, sS, i64_w, i32_w]
     rfl
    refine one_ (i := 3) (N := some 25) #[true, true, true, true, false, false] rfl rfl (by kernel_rfl) (by decide) (fun K hK => ?_)
    refine Kd.R_lit_step k138 _ 138 ?hg (N := 25) ?hd (xs := ([(⟨a1_0, a1_1, a1_2, a1_3, t402⟩ : S138)] : List (S138))) (inner := [.int .i64 a1_0, .int .i64 a1_1, .int .i64 a1_2, .int .i64 a1_3, .int .i64 t402]) (ok := fun _ => True) (okp := fun _ => True) ?hr ?hp (fun _ hk => hk) trivial (Below.refl _ _) (Nat.le_refl _) (by simp) ?_; (case hd => rfl); (case hg => rfl); (case hr => first | (go_simp; done) | (go_simp; rfl)); (case hp => exact (Reps.c5 (show Kd.M k138 _ _ _ (⟨a1_0, a1_1, a1_2, a1_3, t402⟩ : S138) [.int .i64 a1_0, .int .i64 a1_1, .int .i64 a1_2, .int .i64 a1_3, .int .i64 t402] from (k138_mkM _ _ _ (⟨a1_0, a1_1, a1_2, a1_3, t402⟩ : S138) )) (Reps.none _ _)))
    intro v407 w34 ho35 hb hg_ hnew_
    clear hg_ hnew_
    (first | rw [← Ny406.out] at ho35 | (simp only [Int.reduceToNat] at ho35; rw [← Ny406.out] at ho35))
    have n0_ := zK (Kd.R_elder' (by (with_reducible repeat (first | apply Kd.RA | apply Kd.RN | apply Kd.RD)); exact HO405.out) (Kd.R_base ho35) hb)
    have n1_ := zK (Kd.R_lower (Kd.R_newB (Kd.R_new' ho35 (Kd.R_lt (by (with_reducible repeat (first | apply Kd.RA | apply Kd.RN | apply Kd.RD)); exact HO405.out))) (g := gb400) (o := .cells #[.int .i64 a1_0, .int .i64 a1_1, .int .i64 a1_2, .int .i64 a1_3, .int .i64 t402] 138 (0, 0)) (by (with_reducible repeat (first | refine kN ?_ _ | refine kD ?_ | refine kA ?_ _)); exact BK400.out)) (bZ (by repeat (first | (with_reducible first | exact HB.out | apply bA | apply bN | apply b1 | refine bS ?_ GE400.out) | exact HB.out))))
    have n2_ := zK (bB (g := gb400) (o := .cells #[.int .i64 a1_0, .int .i64 a1_1, .int .i64 a1_2, .int .i64 a1_3, .int .i64 t402] 138 (0, 0)) (by (with_reducible repeat (first | refine kN ?_ _ | refine kD ?_ | refine kA ?_ _)); exact BK400.out) hb)
    have n3_ := zK (bT (by repeat (first | (with_reducible first | exact HB.out | apply bA | apply bN | apply b1 | refine bS ?_ GE400.out) | exact HB.out)) hb)
    clear HO405
    clear BK400
    clear HB
    have HO405 := n0_
    have HO408 := n1_
    have BK400 := n2_
    have HB := n3_
    clear n0_ n1_ n2_ n3_
    clear hb ho35
    refine hK.out _ _ ⟨(bc BK400.out 0).trans rfl, (bc BK400.out 1).trans rfl, (bc BK400.out 2).trans rfl, (bc BK400.out 3).trans rfl, (bc BK400.out 4).trans rfl⟩ (fun hHeld => ?_)
    clear hK K
    refine norm_ (a' := ?_) ?_ ?_
    rotate_left
    ·show Act.put _ (some 25) _ = _
     simp only [Act.put, sA, sZ, sS, i64_w, i32_w]
     rfl
    exact norm_ (by simp only [putAll, Act.put, sA, sZ, sS]) (hCont (v404, v407) _ ⟨hHeld, (by (with_reducible repeat (first | apply Kd.RA | apply Kd.RN | apply Kd.RD)); exact Kd.R_mono HO405.out (fun _ hk => ⟨hk.2, hk.1.2⟩)), (by (with_reducible repeat (first | apply Kd.RA | apply Kd.RN | apply Kd.RD)); exact Kd.R_mono HO408.out (fun _ hk => ⟨hk.1.2, hk.2⟩)), (by (with_reducible repeat (first | refine kN ?_ _ | refine kD ?_ | refine kA ?_ _)); exact BK400.out), (by repeat (first | (with_reducible first | exact HB.out | apply bA | apply bN | apply b1 | refine bS ?_ GE400.out) | exact HB.out))⟩)
   rintro ⟨v404, v407⟩ w36 ⟨hS_, h0_, h1_, h2_, h3_⟩
   have n0_ : Aside0 (Kd.R k138 138 w36 w.heap.size (fun k_ => some k_ ≠ (v407 : Value).ownBlock ∧ k_ ≠ gb400) v404 t403) := ⟨h0_⟩
   have n1_ : Aside0 (Kd.R k138 138 w36 w.heap.size (fun k_ => some k_ ≠ (v404 : Value).ownBlock ∧ k_ ≠ gb400) v407 y406) := ⟨h1_⟩
   have n2_ : Aside0 (w36.heap[gb400]? = some (.cells #[.int .i64 a1_0, .int .i64 a1_1, .int .i64 a1_2, .int .i64 a1_3, .int .i64 t402] 138 (0, 0))) := ⟨h2_⟩
   have n3_ : Aside0 (Below w.heap.size w w36) := ⟨h3_⟩
   clear BK400
   clear HB
   clear h0_ h1_ h2_ h3_
   have HO405 := n0_
   have HO408 := n1_
   have BK400 := n2_
   have HB := n3_
   clear n0_ n1_ n2_ n3_
   have hHeld : w36.cell? ⟨gb400, 0, none⟩ = some (.int .i64 a1_0) ∧ w36.cell? ⟨gb400, 1, none⟩ = some (.int .i64 a1_1) ∧ w36.cell? ⟨gb400, 2, none⟩ = some (.int .i64 a1_2) ∧ w36.cell? ⟨gb400, 3, none⟩ = some (.int .i64 a1_3) ∧ w36.cell? ⟨gb400, 4, none⟩ = some (.int .i64 t402) := hS_
   obtain ⟨Ao38, co38, eo38⟩ := Kd.R_slice HO408.out
   (first | subst eo38 | (injection eo38 with f1_ f2_ f3_; have f4_ := f1_.symm; have f5_ := f3_.symm; clear f1_ f2_ f3_; subst f4_; subst f5_))
   refine norm_ (a' := ?_) ?_ ?_
   rotate_left
   ·simp only [putAll, Act.put, sA, sZ, sS]
    rfl
   refine one_ (i := 4) (N := some 26) #[true, true, true, true, true, false] rfl rfl (by kernel_rfl) (by decide) (fun K hK => ?_)
   refine Kd.R_append_rows_step k138 (w0 := w) w.heap.size (by rfl) (.tmp 23) (.tmp 25) 51 138 (.agg #[(.int .i64 0), (.int .i64 0), (.int .i64 0), (.int .i64 0), (.int .i64 0)]) 40 rfl Try.underlying51 info138 rfl (by decide) (by omega) v404 t403 y406 _ _ _ (fun k_ => some k_ ≠ (.slice Ao38 y406.length co38 : Value).ownBlock ∧ k_ ≠ gb400) (fun _ => False) rfl rfl ?aO ?aR (fun _ _ h => h) (fun _ h => h.elim) ?aF ?aB ?aS ?aL ?_
   (case aR => repeat (first | exact (Kd.R_reads' HO408.out).2.2 | (with_reducible refine Kd.CA ?_ _) | (with_reducible refine Kd.CN ?_ _) | (with_reducible refine Kd.CD ?_)))
   (case aB => exact (by repeat (first | (with_reducible first | exact HB.out | apply bA | apply bN | apply b1 | refine bS ?_ GE400.out) | exact HB.out)))
   (case aF => exact (fun k_ hk => ⟨Kd.fresh' (Kd.R_lt (by (with_reducible repeat (first | apply Kd.RA | apply Kd.RN | apply Kd.RD)); exact HO408.out)) k_ hk, Kd.freshB (g := gb400) (o := .cells #[.int .i64 a1_0, .int .i64 a1_1, .int .i64 a1_2, .int .i64 a1_3, .int .i64 t402] 138 (0, 0)) (by (with_reducible repeat (first | refine kN ?_ _ | refine kD ?_ | refine kA ?_ _)); exact BK400.out) k_ hk⟩))
   (case aO => exact (by (with_reducible repeat (first | apply Kd.RA | apply Kd.RN | apply Kd.RD)); exact HO405.out))
   (case aS => exact (bZ (by repeat (first | (with_reducible first | exact HB.out | apply bA | apply bN | apply b1 | refine bS ?_ GE400.out) | exact HB.out))))
   (case aL => have := LMc11.out; omega)
   intro v410 w37 ho hb hg hat
   rw [← Ny409.out] at ho
   have n0_ := zK (blk_grown (g := gb400) (o := .cells #[.int .i64 a1_0, .int .i64 a1_1, .int .i64 a1_2, .int .i64 a1_3, .int .i64 t402] 138 (0, 0)) (by (with_reducible repeat (first | refine kN ?_ _ | refine kD ?_ | refine kA ?_ _)); exact BK400.out) hg (Kd.R_away HO405.out (fun _ hk => hk.2)))
   have n1_ := zK (Kd.R_after (ok := (fun k_ => k_ ≠ gb400)) (by (with_reducible repeat (first | apply Kd.RA | apply Kd.RN | apply Kd.RD)); exact Kd.R_mono HO408.out (fun _ hk => ⟨hk.2, hk.1⟩)) hg hat)
   have n2_ := zK (hb)
   have n3_ := zK (ho)
   clear BK400
   clear HO408
   clear HB
   clear HO405
   have BK400 := n0_
   have HO408 := n1_
   have HB := n2_
   have HO411 := n3_
   clear n0_ n1_ n2_ n3_
   clear ho hb hg hat
   refine hK.out _ _ ⟨(bc BK400.out 0).trans rfl, (bc BK400.out 1).trans rfl, (bc BK400.out 2).trans rfl, (bc BK400.out 3).trans rfl, (bc BK400.out 4).trans rfl⟩ (fun hHeld => ?_)
   clear hK K
   refine norm_ (a' := ?_) ?_ ?_
   rotate_left
   ·show Act.put _ (some 26) _ = _
    simp only [Act.put, sA, sZ, sS, i64_w, i32_w]
    rfl
   refine pure_ (i := 5) (N := some 7) (v := ?_) (a' := ?_) #[true, true, true, true, true, true] rfl rfl (by kernel_rfl) (fun _ _ _ h => h) (Or.inl ⟨by rfl, ?_⟩) ?_ ?_
   rotate_left
   ·intro w'
    go_simp
    with_reducible rfl
   rotate_left
   ·simp only [Act.put, sA, sZ, sS, i64_w, i32_w]
    rfl
   refine done_ (by kernel_rfl) ?_
   obtain ⟨Ao39, co39, eo39⟩ := Kd.R_slice HO411.out
   subst eo39
   try go_wp2_with (first | ((with_reducible refine gate_callee (f := 34) rfl ?_); refine goesL_ (some 28) rfl rfl Try.func34 (by kernel_rfl) rfl #[.slice Ao39 y409.length co39] rfl (by (try simp only [List.map_toArray, List.map_cons, List.map_nil]); first | done | rfl | (simp only [List.length_drop, List.length_take]; rfl)) ?_; (with_reducible refine (impl_IsChain.calls kj2 _ _ y409 false _ ?side1 ?side2 A12.out).mono ?_); (case side1 => repeat (first | exact (Kd.R_reads' HO411.out).2.2 | (with_reducible refine Kd.CA ?_ _) | (with_reducible refine Kd.CN ?_ _) | (with_reducible refine Kd.CD ?_))); (case side2 => exact (Kd.R_reads' HO411.out).2.1); rintro e w40 ⟨rfl, hb⟩; refine ⟨_, rfl, ?_⟩; have n0_ := zK (Kd.R_below (by (with_reducible repeat (first | apply Kd.RA | apply Kd.RN | apply Kd.RD)); exact HO408.out) hb); have n1_ := zK (Kd.R_below (by (with_reducible repeat (first | apply Kd.RA | apply Kd.RN | apply Kd.RD)); exact HO411.out) hb); have n2_ := zK (bB (g := gb400) (o := .cells #[.int .i64 a1_0, .int .i64 a1_1, .int .i64 a1_2, .int .i64 a1_3, .int .i64 t402] 138 (0, 0)) (by (with_reducible repeat (first | refine kN ?_ _ | refine kD ?_ | refine kA ?_ _)); exact BK400.out) hb); have n3_ := zK (bT (by repeat (first | (with_reducible first | exact HB.out | apply bA | apply bN | apply b1 | refine bS ?_ GE400.out) | exact HB.out)) hb); clear HO408; clear HO411; clear BK400; clear HB; have HO408 := n0_; have HO411 := n1_; have BK400 := n2_; have HB := n3_; clear n0_ n1_ n2_ n3_; (try clear hb); (try clear hb2); (try clear hk); (try clear hi)) | ((with_reducible refine gate_callee (f := 101) rfl ?_); refine goesL_ (some 31) rfl rfl Try.func101 (by kernel_rfl) rfl #[.slice A0 l0.length c0] rfl (by (try simp only [List.map_toArray, List.map_cons, List.map_nil]); first | done | rfl | (simp only [List.length_drop, List.length_take]; rfl)) ?_; (with_reducible refine (impl_Hand.calls _ _ l0 t413 _ ?side1 ?side2 A27.out).mono ?_); (case side1 => repeat (first | exact (Kd.C_below HR0.out HB.out) | (with_reducible refine Kd.CA ?_ _) | (with_reducible refine Kd.CN ?_ _) | (with_reducible refine Kd.CD ?_))); (case side2 => exact HC0.out); rintro e w41 ⟨v414, rfl, ho0, hb⟩; refine ⟨_, rfl, ?_⟩; have n0_ := zK (Kd.R_elder' (by (with_reducible repeat (first | apply Kd.RA | apply Kd.RN | apply Kd.RD)); exact HO408.out) (Kd.R_base ho0) hb); have n1_ := zK (Kd.R_elder' (by (with_reducible repeat (first | apply Kd.RA | apply Kd.RN | apply Kd.RD)); exact HO411.out) (Kd.R_base ho0) hb); have n2_ := zK (Kd.R_lower (Kd.R_newB (Kd.R_new' (Kd.R_new' ho0 (Kd.R_lt (by (with_reducible repeat (first | apply Kd.RA | apply Kd.RN | apply Kd.RD)); exact HO408.out))) (Kd.R_lt (by (with_reducible repeat (first | apply Kd.RA | apply Kd.RN | apply Kd.RD)); exact HO411.out))) (g := gb400) (o := .cells #[.int .i64 a1_0, .int .i64 a1_1, .int .i64 a1_2, .int .i64 a1_3, .int .i64 t402] 138 (0, 0)) (by (with_reducible repeat (first | refine kN ?_ _ | refine kD ?_ | refine kA ?_ _)); exact BK400.out)) (bZ (by repeat (first | (with_reducible first | exact HB.out | apply bA | apply bN | apply b1 | refine bS ?_ GE400.out) | exact HB.out)))); have n3_ := zK (bB (g := gb400) (o := .cells #[.int .i64 a1_0, .int .i64 a1_1, .int .i64 a1_2, .int .i64 a1_3, .int .i64 t402] 138 (0, 0)) (by (with_reducible repeat (first | refine kN ?_ _ | refine kD ?_ | refine kA ?_ _)); exact BK400.out) hb); have n4_ := zK (bT (by repeat (first | (with_reducible first | exact HB.out | apply bA | apply bN | apply b1 | refine bS ?_ GE400.out) | exact HB.out)) hb); clear HO408; clear HO411; clear BK400; clear HB; have HO408 := n0_; have HO411 := n1_; have HO415 := n2_; have BK400 := n3_; have HB := n4_; clear n0_ n1_ n2_ n3_ n4_; (try clear hb); (try clear hb2); (try clear hk); (try clear hi); (try clear ho0)))
   go_ret2
   exact ⟨_, by first | rfl | (simp [errW_none, errW_some] <;> rfl) | (simp [*, errW_none, errW_some] <;> rfl), by (with_reducible repeat (first | apply Kd.RA | apply Kd.RN | apply Kd.RD)); exact Kd.R_mono HO415.out (fun _ hk => trivial), by repeat (first | (with_reducible first | exact HB.out | apply bA | apply bN | apply b1 | refine bS ?_ GE400.out) | exact HB.out)⟩
/-! ### slices_Index_int_int: function 148 -/
def slices_Index_int_int.l0 : Nat → List Int → Int → Int → Int → Option (Int)
 | 0, _, _, _, _ => none
 | k + 1, x0, x1, x7, x8 => if x8 < x7 then (if 0 ≤ x8 then (if x8 < (x0.length : Int) then (if x1 = (rd x0 x8) then (some x8) else (slices_Index_int_int.l0 k x0 x1 x7 (wrap64 (x8 + 1)))) else (none)) else (none)) else (some (-1))
def slices_Index_int_int.f (k : Nat) (l0 : List Int) (a1 : Int) : Option (Int) := slices_Index_int_int.l0 k l0 a1 (l0.length : Int) 0
set_option maxHeartbeats 8000000 in
set_option maxRecDepth 100000 in
theorem slices_Index_int_int.calls (k : Nat) (A0 : Option Addr) (c0 : Nat) (l0 : List Int) (a1 : Int) (r : Int) (w : World) (hr0 : Kd.C (Kd.int .i64) w A0 l0.length l0) (hc0 : l0.length ≤ c0) (h : slices_Index_int_int.f k l0 a1 = some r) :
  Calls Try.prog 148 #[.slice A0 l0.length c0, .int .i64 a1] w fun e w' => e = .returned (.int .i64 r) ∧ Drawn0 w w' := by
 have HR0 := zK hr0
 have HC0 := zK hc0
 clear hr0 hc0
 have H : (slices_Index_int_int.l0 k l0 a1 (l0.length : Int) 0) = some r := h
 clear h
 have H' := zK H
 clear H
 go_enter Try.func148, Try.ntmps148
 go_wp2
 go_loopg [8] k (fun kq v8 w' => ∃ (x8_1 : Int), v8 = .int .i64 x8_1 ∧ Aside0 (slices_Index_int_int.l0 kq l0 a1 (l0.length : Int) x8_1 = some r) ∧ Aside0 (kq ≤ k) ∧ Drawn0 w w')
 case atStart => exact ⟨(0), (by first | rfl | (simp; done) | (simp [*]; done)), H', ⟨Nat.le_refl _⟩, by repeat (first | exact Drawn0.refl _ | apply Drawn0.step)⟩
 case round =>
  clear H'
  try clear c1
  try clear p2
  obtain ⟨x8_1, rfl, HA, HK1, ⟨m1, rfl⟩⟩ := hrel
  cases gk with
  | zero => exact absurd HA.out (by simp [slices_Index_int_int.l0])
  | succ k1 =>
   have H := HA.out
   clear HA
   simp only [slices_Index_int_int.l0] at H
   by_cases c3 : x8_1 < (l0.length : Int)
   rotate_left
   ·rw [if_neg c3] at H
    have c3b0 : decide (x8_1 < (l0.length : Int)) = false := decide_eq_false c3
    clear c3
    obtain rfl := Option.some.inj H
    go_wp2
    go_ret
    exact ⟨by first | rfl | (simp; done) | (simp [*]; done), by repeat (first | exact Drawn0.refl _ | apply Drawn0.step)⟩
   rw [if_pos c3] at H
   have c3b0 : decide (x8_1 < (l0.length : Int)) = true := decide_eq_true c3
   clear c3
   by_cases c4 : 0 ≤ x8_1
   rotate_left
   ·rw [if_neg c4] at H
    exact absurd H (by simp)
   rw [if_pos c4] at H
   have c4b0 : decide (0 ≤ x8_1) = true := decide_eq_true c4
   clear c4
   by_cases c5 : x8_1 < (l0.length : Int)
   rotate_left
   ·rw [if_neg c5] at H
    exact absurd H (by simp)
   rw [if_pos c5] at H
   have c5b0 : decide (x8_1 < (l0.length : Int)) = true := decide_eq_true c5
   clear c5
   by_cases c6 : a1 = (rd l0 x8_1)
   ·rw [if_pos c6] at H
    have c6b0 : (a1 == (rd l0 x8_1)) = true := beq_iff_eq.mpr c6
    have c6b1 : (a1 != (rd l0 x8_1)) = false := bne_eq_false_iff_eq.mpr c6
    clear c6
    obtain rfl := Option.some.inj H
    have p416 : 0 ≤ (x8_1 : Int) := oD (by first | (with_reducible assumption) | assumption)
    have q416 : x8_1 < (l0.length : Int) := oD (by first | (with_reducible assumption) | assumption)
    obtain ⟨ad416, e416, hx416_0⟩ := Kd.at_int HR0.out x8_1 p416 q416
    cases e416
    replace p416 := eq_true p416
    replace q416 := eq_true q416
    go_wp2
    go_ret
    exact ⟨by first | rfl | (simp; done) | (simp [*]; done), by repeat (first | exact Drawn0.refl _ | apply Drawn0.step)⟩
   rw [if_neg c6] at H
   have c6b0 : (a1 == (rd l0 x8_1)) = false := beq_eq_false_iff_ne.mpr c6
   have c6b1 : (a1 != (rd l0 x8_1)) = true := bne_iff_ne.mpr c6
   have H' := zK H
   clear H
   have p416 : 0 ≤ (x8_1 : Int) := oD (by first | (with_reducible assumption) | assumption)
   have q416 : x8_1 < (l0.length : Int) := oD (by first | (with_reducible assumption) | assumption)
   obtain ⟨ad416, e416, hx416_0⟩ := Kd.at_int HR0.out x8_1 p416 q416
   cases e416
   replace p416 := eq_true p416
   replace q416 := eq_true q416
   go_wp2
   go_roundg k1
   case measure => have := HK1.out; omega
   case rel => exact ⟨(wrap64 (x8_1 + 1)), (by first | rfl | (simp; done) | (simp [*]; done)), H', ⟨by have := HK1.out; omega⟩, by repeat (first | exact Drawn0.refl _ | apply Drawn0.step)⟩
/-! ### slices_Contains_int_int: function 103 -/
def slices_Contains_int_int.f (k : Nat) (l0 : List Int) (a1 : Int) : Option (Bool) := (slices_Index_int_int.f k l0 a1).bind fun t417 => (some (decide (t417 ≥ 0)))
set_option maxHeartbeats 8000000 in
set_option maxRecDepth 100000 in
theorem slices_Contains_int_int.calls (k : Nat) (A0 : Option Addr) (c0 : Nat) (l0 : List Int) (a1 : Int) (r : Bool) (w : World) (hr0 : Kd.C (Kd.int .i64) w A0 l0.length l0) (hc0 : l0.length ≤ c0) (h : slices_Contains_int_int.f k l0 a1 = some r) :
  Calls Try.prog 103 #[.slice A0 l0.length c0, .int .i64 a1] w fun e w' => e = .returned (.bool r) ∧ Drawn0 w w' := by
 have HR0 := zK hr0
 have HC0 := zK hc0
 clear hr0 hc0
 have H : ((slices_Index_int_int.f k l0 a1).bind fun t417 => (some (decide (t417 ≥ 0)))) = some r := h
 clear h
 replace H := Option.bind_eq_some_iff.mp H
 obtain ⟨t417, A30, H⟩ := H
 replace H : (some (decide (t417 ≥ 0))) = some r := H
 have A3 := zK A30
 clear A30
 obtain rfl := Option.some.inj H
 go_enter Try.func103, Try.ntmps103
 go_wp2_with (first | ((with_reducible refine gate_callee (f := 148) rfl ?_); refine goesL_ (some 7) rfl rfl Try.func148 (by kernel_rfl) rfl #[.slice A0 l0.length c0, .int .i64 a1] rfl (by (try simp only [List.map_toArray, List.map_cons, List.map_nil]); first | done | rfl | (simp only [List.length_drop, List.length_take]; rfl)) ?_; (with_reducible refine (slices_Index_int_int.calls k _ _ l0 a1 t417 _ ?side1 ?side2 A3.out).mono ?_); (case side1 => repeat (first | exact HR0.out | (with_reducible refine Kd.CA ?_ _) | (with_reducible refine Kd.CN ?_ _) | (with_reducible refine Kd.CD ?_))); (case side2 => exact HC0.out); rintro e w' ⟨rfl, ⟨nd, rfl⟩⟩; refine ⟨_, rfl, ?_⟩))
 go_ret
 exact ⟨by first | rfl | (simp; done) | (simp [*]; done), by repeat (first | exact Drawn0.refl _ | apply Drawn0.step)⟩

end Go.Proofs.Ytejhjenlodclpaa.PFnParcels
