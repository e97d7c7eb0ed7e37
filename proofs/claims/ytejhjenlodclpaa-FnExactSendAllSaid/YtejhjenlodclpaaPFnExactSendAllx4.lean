/- Walks of functions that FnExactSendAll reaches: written by a tool of the kit for this claim, then shortened by a program of ours. -/
import Derived.Test.YtejhjenlodclpaaPFnExactSendAllx0
import Derived.Test.YtejhjenlodclpaaPFnExactSendAllx1
import Derived.Test.YtejhjenlodclpaaPFnExactSendAllx2
import Derived.Test.YtejhjenlodclpaaPFnExactSendAllx3
/- narrow -/
namespace Go.Proofs.Ytejhjenlodclpaa.PFnExactSendAll
open Go.RowKit Go.Proofs.YtejhjenlodclpaaW.PrintWords Go.Proofs.YtejhjenlodclpaaW.PrintLast Go.Proofs.YtejhjenlodclpaaW.PrintMore
attribute [local go_sem] max2_int min2_int max_two min_two max_three min_three max_four min_four   -- for this text's walks alone
set_option linter.unusedVariables false
set_option linter.unusedSimpArgs false

abbrev b4A0 : Array Bool := #[bo, bo, bo, bo, bo, bo]
abbrev b4A1 : Array Bool := #[bi, bo, bo, bo, bo, bo]
abbrev b4A2 : Array Bool := #[bi, bo, bi, bo, bo, bo]
abbrev b4A3 : Array Bool := #[bi, bi, bi, bo, bo, bo]
abbrev b4A4 : Array Bool := #[bi, bo, bi, bi, bo, bo]
/-! ### impl_AddHand: function 102 -/
def impl_AddHand.j0 : Nat → List (S138) → Int → Int → Int → Int → Int → Int → Option ((List (S138)) × Bool)
 | 0, _, _, _, _, _, _, _ => none
 | k + 1, x0, x6, x153000, x153001, x153002, x153003, x153004 => (impl_HandSeal.f k x6 x153000 x153001 x153002 x153003 x153004).bind fun t154 => ((impl_Hand.f x0).bind fun t155 => ((some (([(⟨x153000, x153001, x153002, x153003, t154⟩ : S138)] : List (S138)) : List (S138))).bind fun y158 => (if t155.length + y158.length < 3518437208883 then ((some (t155 ++ y158 : List (S138))).bind fun y161 => ((impl_IsChain.f k y161).bind fun t164 => (if t164 = true then (some (y161, true)) else ((impl_Hand.f x0).bind fun t165 => (some (t165, false)))))) else (none))))
def impl_AddHand.f (k : Nat) (l0 : List (S138)) (a1_0 : Int) (a1_1 : Int) (a1_2 : Int) (a1_3 : Int) (a1_4 : Int) : Option ((List (S138)) × Bool) := if (l0.length : Int) > 0 then (if 0 ≤ (wrap64 ((l0.length : Int) - 1)) then (if (wrap64 ((l0.length : Int) - 1)) < (l0.length : Int) then (impl_AddHand.j0 k l0 ((rd_T138 l0 (wrap64 ((l0.length : Int) - 1))).f4) a1_0 a1_1 a1_2 a1_3 a1_4) else (none)) else (none)) else (impl_AddHand.j0 k l0 0 a1_0 a1_1 a1_2 a1_3 a1_4)
set_option maxHeartbeats 8000000 in
set_option maxRecDepth 100000 in
theorem impl_AddHand.calls (k : Nat) (A0 : Option Addr) (c0 : Nat) (l0 : List (S138)) (a1_0 : Int) (a1_1 : Int) (a1_2 : Int) (a1_3 : Int) (a1_4 : Int) (r1 : List (S138)) (r2 : Bool) (w : World) (hr0 : Kd.C k138 w A0 l0.length l0) (hc0 : l0.length ≤ c0) (h : impl_AddHand.f k l0 a1_0 a1_1 a1_2 a1_3 a1_4 = some (r1, r2)) :
  Calls Try.prog 102 #[.slice A0 l0.length c0, .agg #[.int .i64 a1_0, .int .i64 a1_1, .int .i64 a1_2, .int .i64 a1_3, .int .i64 a1_4]] w fun e w' => ∃ v0_ : Value, e = .returned (.tuple #[v0_, .bool r2]) ∧ Kd.R k138 138 w' w.heap.size (fun _ => True) v0_ r1 ∧ Below w.heap.size w w' := by
 have hu138 := Try.underlying138
 have HR0 := zK hr0
 have HC0 := zK hc0
 clear hr0 hc0
 have HB := zK (Below.refl w.heap.size w)
 have H : (if (l0.length : Int) > 0 then (if 0 ≤ (wrap64 ((l0.length : Int) - 1)) then (if (wrap64 ((l0.length : Int) - 1)) < (l0.length : Int) then (impl_AddHand.j0 k l0 ((rd_T138 l0 (wrap64 ((l0.length : Int) - 1))).f4) a1_0 a1_1 a1_2 a1_3 a1_4) else (none)) else (none)) else (impl_AddHand.j0 k l0 0 a1_0 a1_1 a1_2 a1_3 a1_4)) = some (r1, r2) := h
 clear h
 have HC3 := zK H
 clear H
 go_enter Try.func102, Try.ntmps102
 go_upto_if 10 with (first | ((with_reducible refine gate_dst (N := 3) rfl ?_); refine box_event ?hg (N := 3) ?hd (cs := #[.int .i64 a1_0, .int .i64 a1_1, .int .i64 a1_2, .int .i64 a1_3, .int .i64 a1_4]) (t := 138) ?hr ?_; (case hd => rfl); (case hg => rfl); (case hr => first | (go_simp; done) | (go_simp; rfl)); intro gb152 hg w4 hbox hb; have n0_ := zK (bT (qB HB.out) hb); have n1_ := zK (hbox); have n2_ := zK ((by rw [hg]; exact (bZ (qB HB.out)) : w.heap.size ≤ gb152)); have n3_ := zK ((by rw [hg]; exact (bZ (qB HB.out)) : w.heap.size ≤ gb152)); clear HB; have HB := n0_; have BK152 := n1_; have GW152 := n2_; have GE152 := n3_; clear n0_ n1_ n2_ n3_; clear hb hbox hg))
 (try simp only [Act.put, sA, sZ, sS])
 go_cut [6] (fun v6 wc => ∃ (kq : Nat) (x6_2 : Int), v6 = .int .i64 x6_2 ∧ Aside0 (impl_AddHand.j0 kq l0 x6_2 a1_0 a1_1 a1_2 a1_3 a1_4 = some (r1, r2)) ∧ Aside0 (kq ≤ k) ∧ Aside0 (wc.heap[gb152]? = some (.cells #[.int .i64 a1_0, .int .i64 a1_1, .int .i64 a1_2, .int .i64 a1_3, .int .i64 a1_4] 138 (0, 0))) ∧ Aside0 (Below w.heap.size w wc))
 case first =>
  have H := HC3.out
  clear HC3
  by_cases c5 : (l0.length : Int) > 0
  rotate_left
  ·rw [if_neg c5] at H
   have c5b0 : decide (0 < (l0.length : Int)) = false := decide_eq_false c5
   have c5b1 : decide (0 < l0.length) = false := decide_eq_false (by omega)
   clear c5
   (first | rw [c5b0] | rw [c5b1] | (simp only [i64_w, i32_w]; rw [c5b0]) | skip)
   have H' := zK H
   clear H
   go_wp2
   go_meet
   case rel => exact ⟨_, (0), M3, H', ⟨by first | omega | exact Nat.le_refl _⟩, ⟨by exact qK BK152.out⟩, ⟨by repeat (first | (with_reducible first | exact HB.out | apply bA | apply bN | apply b1 | refine bS ?_ GE152.out) | exact HB.out)⟩⟩
  rw [if_pos c5] at H
  have c5b0 : decide (0 < (l0.length : Int)) = true := decide_eq_true c5
  have c5b1 : decide (0 < l0.length) = true := decide_eq_true (by omega)
  clear c5
  (first | rw [c5b0] | rw [c5b1] | (simp only [i64_w, i32_w]; rw [c5b0]) | skip)
  obtain ⟨ji6, hji6⟩ : ∃ j_ : Int, (wrap64 ((l0.length : Int) - 1)) = j_ := ⟨_, rfl⟩
  replace H : (if 0 ≤ (ji6) then (if (ji6) < (l0.length : Int) then (impl_AddHand.j0 k l0 ((rd_T138 l0 (ji6)).f4) a1_0 a1_1 a1_2 a1_3 a1_4) else (none)) else (none)) = some (r1, r2) := by first | (rw [hji6] at H; exact H) | (simp only [hji6] at H ⊢; exact H)
  have hji6w : (IntKind.i64.wrap ((l0.length : Int) - 1)) = ji6 := (i64_w _).trans hji6
  by_cases c7 : 0 ≤ (ji6)
  rotate_left
  ·rw [if_neg c7] at H
   exact absurd H (by simp)
  rw [if_pos c7] at H
  have c7b0 : decide (0 ≤ (ji6)) = true := decide_eq_true c7
  clear c7
  by_cases c8 : (ji6) < (l0.length : Int)
  rotate_left
  ·rw [if_neg c8] at H
   exact absurd H (by simp)
  rw [if_pos c8] at H
  have c8b0 : decide ((ji6) < (l0.length : Int)) = true := decide_eq_true c8
  clear c8
  have H' := zK H
  clear H
  have p153 : 0 ≤ ((ji6) : Int) := oD M1
  have q153 : (ji6) < (l0.length : Int) := oD M1
  obtain ⟨ad153, e153, hx153_0, hx153_1, hx153_2, hx153_3, hx153_4⟩ := at_T138 HR0.out (ji6) p153 q153
  cases e153
  replace hx153_0 := (HB.out.cell (bL w hx153_0)).trans hx153_0
  replace hx153_1 := (HB.out.cell (bL w hx153_1)).trans hx153_1
  replace hx153_2 := (HB.out.cell (bL w hx153_2)).trans hx153_2
  replace hx153_3 := (HB.out.cell (bL w hx153_3)).trans hx153_3
  replace hx153_4 := (HB.out.cell (bL w hx153_4)).trans hx153_4
  replace p153 := eq_true p153
  replace q153 := eq_true q153
  go_wp2
  go_meet
  case rel => exact ⟨_, ((rd_T138 l0 (ji6)).f4), (by first | rfl | (simp; done) | (simp only [← hji6] <;> (first | rfl | simp)) | (simp [*]; done)), H', ⟨by first | omega | exact Nat.le_refl _⟩, ⟨by exact qK BK152.out⟩, ⟨by repeat (first | (with_reducible first | exact HB.out | apply bA | apply bN | apply b1 | refine bS ?_ GE152.out) | exact HB.out)⟩⟩
 case rest =>
  clear HC3
  try clear c1
  try clear p1
  try clear q1
  try clear hx1
  try clear p2
  try clear c5
  try clear c5b0
  try clear c5b1
  try clear p6
  try clear c7
  try clear c7b0
  try clear c8
  try clear c8b0
  try clear hx153_0
  try clear hx153_1
  try clear hx153_2
  try clear hx153_3
  try clear hx153_4
  try clear p153
  try clear q153
  obtain ⟨kq, x6_2, rfl, HA, HJ2, BK152, HB⟩ := hcut
  cases kq with
  | zero => exact absurd HA.out (by simp [impl_AddHand.j0])
  | succ kj2 =>
   have H := HA.out
   clear HA
   simp only [impl_AddHand.j0] at H
   replace H := Option.bind_eq_some_iff.mp H
   obtain ⟨t154, A90, H⟩ := H
   replace H : ((impl_Hand.f l0).bind fun t155 => ((some (([(⟨a1_0, a1_1, a1_2, a1_3, t154⟩ : S138)] : List (S138)) : List (S138))).bind fun y158 => (if t155.length + y158.length < 3518437208883 then ((some (t155 ++ y158 : List (S138))).bind fun y161 => ((impl_IsChain.f kj2 y161).bind fun t164 => (if t164 = true then (some (y161, true)) else ((impl_Hand.f l0).bind fun t165 => (some (t165, false)))))) else (none)))) = some (r1, r2) := H
   have A9 := zK A90
   clear A90
   replace H := Option.bind_eq_some_iff.mp H
   obtain ⟨t155, A100, H⟩ := H
   replace H : ((some (([(⟨a1_0, a1_1, a1_2, a1_3, t154⟩ : S138)] : List (S138)) : List (S138))).bind fun y158 => (if t155.length + y158.length < 3518437208883 then ((some (t155 ++ y158 : List (S138))).bind fun y161 => ((impl_IsChain.f kj2 y161).bind fun t164 => (if t164 = true then (some (y161, true)) else ((impl_Hand.f l0).bind fun t165 => (some (t165, false)))))) else (none))) = some (r1, r2) := H
   have A10 := zK A100
   clear A100
   obtain ⟨y158, hy158⟩ : ∃ y_ : List (S138), y_ = (([(⟨a1_0, a1_1, a1_2, a1_3, t154⟩ : S138)] : List (S138))) := ⟨_, rfl⟩
   replace H : (if t155.length + y158.length < 3518437208883 then ((some (t155 ++ y158 : List (S138))).bind fun y161 => ((impl_IsChain.f kj2 y161).bind fun t164 => (if t164 = true then (some (y161, true)) else ((impl_Hand.f l0).bind fun t165 => (some (t165, false)))))) else (none)) = some (r1, r2) := by first | (rw [hy158]; with_reducible exact H) | (have H2_ := (Option.bind_some _ _).symm.trans H; rw [hy158]; with_reducible exact H2_) | (have H2_ := (Option.bind_some _ _).symm.trans H; with_reducible exact H2_) | with_reducible exact H | (rw [hy158]; exact H) | exact H
   have Ny158 := zK hy158
   clear hy158
   by_cases c11 : t155.length + y158.length < 3518437208883
   rotate_left
   ·rw [if_neg c11] at H
    exact absurd H (by simp)
   rw [if_pos c11] at H
   have LMc11 := zK c11
   clear c11
   obtain ⟨y161, hy161⟩ : ∃ y_ : List (S138), y_ = (t155 ++ y158) := ⟨_, rfl⟩
   replace H : ((impl_IsChain.f kj2 y161).bind fun t164 => (if t164 = true then (some (y161, true)) else ((impl_Hand.f l0).bind fun t165 => (some (t165, false))))) = some (r1, r2) := by first | (rw [hy161]; with_reducible exact H) | (have H2_ := (Option.bind_some _ _).symm.trans H; rw [hy161]; with_reducible exact H2_) | (have H2_ := (Option.bind_some _ _).symm.trans H; with_reducible exact H2_) | with_reducible exact H | (rw [hy161]; exact H) | exact H
   have Ny161 := zK hy161
   clear hy161
   replace H := Option.bind_eq_some_iff.mp H
   obtain ⟨t164, A120, H⟩ := H
   replace H : (if t164 = true then (some (y161, true)) else ((impl_Hand.f l0).bind fun t165 => (some (t165, false)))) = some (r1, r2) := H
   have A12 := zK A120
   clear A120
   by_cases c13 : t164 = true
   ·subst c13
    have H1 : (some (y161, true)) = some (r1, r2) := by rw [if_pos rfl] at H; exact H
    clear H
    have H := H1
    clear H1
    simp only [Option.some.injEq, Prod.mk.injEq] at H
    obtain ⟨rfl, rfl⟩ := H
    have hcz14_0 : wc.cell? ⟨gb152, 0, none⟩ = some (.int .i64 a1_0) := (bc BK152.out 0).trans rfl
    have hcz14_1 : wc.cell? ⟨gb152, 1, none⟩ = some (.int .i64 a1_1) := (bc BK152.out 1).trans rfl
    have hcz14_2 : wc.cell? ⟨gb152, 2, none⟩ = some (.int .i64 a1_2) := (bc BK152.out 2).trans rfl
    have hcz14_3 : wc.cell? ⟨gb152, 3, none⟩ = some (.int .i64 a1_3) := (bc BK152.out 3).trans rfl
    have hcz14_4 : wc.cell? ⟨gb152, 4, none⟩ = some (.int .i64 a1_4) := (bc BK152.out 4).trans rfl
    have hfz14_0 := bf BK152.out 0
    have hfz14_1 := bf BK152.out 1
    have hfz14_2 := bf BK152.out 2
    have hfz14_3 := bf BK152.out 3
    have hfz14_4 := bf BK152.out 4
    try go_wp2_with (first | ((with_reducible refine gate_callee (f := 107) rfl ?_); refine goesL_ (some 20) rfl rfl Try.func107 (by kernel_rfl) rfl #[.int .i64 x6_2, .agg #[.int .i64 a1_0, .int .i64 a1_1, .int .i64 a1_2, .int .i64 a1_3, .int .i64 a1_4]] rfl M0 ?_; (with_reducible refine (impl_HandSeal.calls kj2 x6_2 a1_0 a1_1 a1_2 a1_3 a1_4 t154 _ A9.out).mono ?_); rintro e w15 ⟨rfl, hb⟩; refine ⟨_, rfl, ?_⟩; have n0_ := zK (bB (g := gb152) (o := .cells #[.int .i64 a1_0, .int .i64 a1_1, .int .i64 a1_2, .int .i64 a1_3, .int .i64 a1_4] 138 (0, 0)) (qK BK152.out) hb); have n1_ := zK (bT M4 hb); clear BK152 HB; have BK152 := n0_; have HB := n1_; clear n0_ n1_; (try clear hb); (try clear hb2); (try clear hk); (try clear hi); have hcz16_0 : w15.cell? ⟨gb152, 0, none⟩ = some (.int .i64 a1_0) := (bc BK152.out 0).trans rfl; have hcz16_1 : w15.cell? ⟨gb152, 1, none⟩ = some (.int .i64 a1_1) := (bc BK152.out 1).trans rfl; have hcz16_2 : w15.cell? ⟨gb152, 2, none⟩ = some (.int .i64 a1_2) := (bc BK152.out 2).trans rfl; have hcz16_3 : w15.cell? ⟨gb152, 3, none⟩ = some (.int .i64 a1_3) := (bc BK152.out 3).trans rfl; have hcz16_4 : w15.cell? ⟨gb152, 4, none⟩ = some (.int .i64 a1_4) := (bc BK152.out 4).trans rfl; have hfz16_0 := bf BK152.out 0; have hfz16_1 := bf BK152.out 1; have hfz16_2 := bf BK152.out 2; have hfz16_3 := bf BK152.out 3; have hfz16_4 := bf BK152.out 4))
    have n0_ : Aside0 ((w15.setCell ⟨gb152, 4, none⟩ (.int .i64 t154)).heap[gb152]? = some (.cells #[.int .i64 a1_0, .int .i64 a1_1, .int .i64 a1_2, .int .i64 a1_3, .int .i64 t154] 138 (0, 0))) := ⟨by (with_reducible repeat (first | refine kN ?_ _ | refine kD ?_ | refine kA ?_ _)); refine blk_put (cs := #[.int .i64 a1_0, .int .i64 a1_1, .int .i64 a1_2, .int .i64 a1_3, .int .i64 a1_4]) ?_ 4 _ rfl; exact qK BK152.out⟩
    have n1_ : Aside0 (Below w.heap.size w (w15.setCell ⟨gb152, 4, none⟩ (.int .i64 t154))) := ⟨by repeat (first | (with_reducible first | exact HB.out | apply bA | apply bN | apply b1 | refine bS ?_ GE152.out) | exact HB.out)⟩
    (try clear BK152)
    (try clear HB)
    generalize (w15.setCell ⟨gb152, 4, none⟩ (.int .i64 t154)) = w17 at n0_ n1_ ⊢
    have BK152 := n0_
    have HB := n1_
    clear n0_ n1_
    have n0_ := zK (kD BK152.out)
    have n1_ := zK (b1 HB.out)
    clear BK152
    clear HB
    have BK152 := n0_
    have HB := n1_
    clear n0_ n1_
    refine start_ (n := 6) (S := fun w' => w'.cell? ⟨gb152, 0, none⟩ = some (.int .i64 a1_0) ∧ w'.cell? ⟨gb152, 1, none⟩ = some (.int .i64 a1_1) ∧ w'.cell? ⟨gb152, 2, none⟩ = some (.int .i64 a1_2) ∧ w'.cell? ⟨gb152, 3, none⟩ = some (.int .i64 a1_3) ∧ w'.cell? ⟨gb152, 4, none⟩ = some (.int .i64 t154)) (ds := []) b4A0 (by kernel_rfl) rfl rfl ⟨(bc BK152.out 0).trans rfl, (bc BK152.out 1).trans rfl, (bc BK152.out 2).trans rfl, (bc BK152.out 3).trans rfl, (bc BK152.out 4).trans rfl⟩ (fun hHeld => ?_)
    generalize w17.drew = w18 at BK152 HB hHeld ⊢
    refine pure_ (i := 0) (N := some 22) (v := ?_) (a' := ?_) b4A1 rfl rfl (by kernel_rfl) (fun _ _ _ h => h) (Or.inl ⟨by rfl, ?_⟩) ?_ ?_
    rotate_left
    ·intro w'
     go_simp
     with_reducible rfl
    rotate_left
    ·simp only [Act.put, sA, sZ, sS, i64_w, i32_w]
     rfl
    refine take_ (i := 2) (N := some 24) (v := ?_) (a' := ?_) b4A2 rfl rfl (by kernel_rfl) (fun _ _ _ h => h) (Or.inl ⟨by rfl, ?_⟩) hHeld ?_ ?_
    rotate_left
    ·rintro w' ⟨s0, s1, s2, s3, s4⟩
     go_simp
     with_reducible rfl
    rotate_left
    ·simp only [Act.put, sA, sZ, sS, i64_w, i32_w]
     rfl
    refine join_ (σ := Value × Value) 2 #[true, true, true, true, false, false] (fun s_ => [(23, s_.1), (25, s_.2)]) (fun s_ w' => (w'.cell? ⟨gb152, 0, none⟩ = some (.int .i64 a1_0) ∧ w'.cell? ⟨gb152, 1, none⟩ = some (.int .i64 a1_1) ∧ w'.cell? ⟨gb152, 2, none⟩ = some (.int .i64 a1_2) ∧ w'.cell? ⟨gb152, 3, none⟩ = some (.int .i64 a1_3) ∧ w'.cell? ⟨gb152, 4, none⟩ = some (.int .i64 t154)) ∧ (Kd.R k138 138 w' w.heap.size (fun k_ => some k_ ≠ (s_.2 : Value).ownBlock ∧ k_ ≠ gb152) s_.1 t155) ∧ (Kd.R k138 138 w' w.heap.size (fun k_ => some k_ ≠ (s_.1 : Value).ownBlock ∧ k_ ≠ gb152) s_.2 y158) ∧ (w'.heap[gb152]? = some (.cells #[.int .i64 a1_0, .int .i64 a1_1, .int .i64 a1_2, .int .i64 a1_3, .int .i64 t154] 138 (0, 0))) ∧ (Below w.heap.size w w')) ?_ ?_
    rotate_left
    ·intro hCont
     refine two_ (i := 1) (j := 3) (Ni := some 23) (Nj := some 25) b4A3 b4A4 rfl rfl rfl rfl (by kernel_rfl) (by decide) (by decide) (fun K hK => ?_) (fun K hK => ?_)
     rotate_left
     ·skip
      refine Kd.R_lit_step k138 _ 138 ?hg (N := 25) ?hd (xs := ([(⟨a1_0, a1_1, a1_2, a1_3, t154⟩ : S138)] : List (S138))) (inner := [.int .i64 a1_0, .int .i64 a1_1, .int .i64 a1_2, .int .i64 a1_3, .int .i64 t154]) (ok := fun _ => True) (okp := fun _ => True) ?hr ?hp (fun _ hk => hk) trivial (Below.refl _ _) (Nat.le_refl _) (by simp) ?_; (case hd => rfl); (case hg => rfl); (case hr => first | (go_simp; done) | (go_simp; rfl)); (case hp => exact (Reps.c5 (show Kd.M k138 _ _ _ (⟨a1_0, a1_1, a1_2, a1_3, t154⟩ : S138) [.int .i64 a1_0, .int .i64 a1_1, .int .i64 a1_2, .int .i64 a1_3, .int .i64 t154] from (k138_mkM _ _ _ (⟨a1_0, a1_1, a1_2, a1_3, t154⟩ : S138) )) (Reps.none _ _)))
      intro v159 w19 ho20 hb hg_ hnew_
      clear hg_ hnew_
      (first | rw [← Ny158.out] at ho20 | (simp only [Int.reduceToNat] at ho20; rw [← Ny158.out] at ho20))
      have n0_ := zK (Kd.R_lower (Kd.R_newB ho20 (g := gb152) (o := .cells #[.int .i64 a1_0, .int .i64 a1_1, .int .i64 a1_2, .int .i64 a1_3, .int .i64 t154] 138 (0, 0)) (qK BK152.out)) (bZ M4))
      have n1_ := zK (bB (g := gb152) (o := .cells #[.int .i64 a1_0, .int .i64 a1_1, .int .i64 a1_2, .int .i64 a1_3, .int .i64 t154] 138 (0, 0)) (qK BK152.out) hb)
      have n2_ := zK (bT M4 hb)
      clear BK152
      clear HB
      have HO160 := n0_
      have BK152 := n1_
      have HB := n2_
      clear n0_ n1_ n2_
      clear hb ho20
      refine hK.out _ _ ⟨(bc BK152.out 0).trans rfl, (bc BK152.out 1).trans rfl, (bc BK152.out 2).trans rfl, (bc BK152.out 3).trans rfl, (bc BK152.out 4).trans rfl⟩ (fun hHeld => ?_)
      clear hK K
      refine norm_ (a' := ?_) ?_ ?_
      rotate_left
      ·show Act.put _ (some 25) _ = _
       simp only [Act.put, sA, sZ, sS, i64_w, i32_w]
       rfl
      refine one_ (i := 1) (N := some 23) #[true, true, true, true, false, false] rfl rfl (by kernel_rfl) (by decide) (fun K hK => ?_)
      refine goes_ Try.func101 (by kernel_rfl) rfl #[.slice A0 l0.length c0] (by rfl) rfl rfl M0 ?_
      with_reducible refine (impl_Hand.calls _ _ l0 t155 _ ?side1 ?side2 A10.out).mono ?_
      (case side1 => exact Kd.qC (Kd.C_below HR0.out HB.out))
      (case side2 => exact HC0.out)
      rintro e w21 ⟨v156, rfl, ho0, hb⟩
      refine ⟨_, rfl, ?_⟩
      have n0_ := zK (Kd.R_elder' (Kd.qR HO160.out) (Kd.R_base ho0) hb)
      have n1_ := zK (Kd.R_lower (Kd.R_newB (Kd.R_new' ho0 (Kd.R_lt (Kd.qR HO160.out))) (g := gb152) (o := .cells #[.int .i64 a1_0, .int .i64 a1_1, .int .i64 a1_2, .int .i64 a1_3, .int .i64 t154] 138 (0, 0)) (qK BK152.out)) (bZ M4))
      have n2_ := zK (bB (g := gb152) (o := .cells #[.int .i64 a1_0, .int .i64 a1_1, .int .i64 a1_2, .int .i64 a1_3, .int .i64 t154] 138 (0, 0)) (qK BK152.out) hb)
      have n3_ := zK (bT M4 hb)
      clear HO160
      clear BK152
      clear HB
      have HO160 := n0_
      have HO157 := n1_
      have BK152 := n2_
      have HB := n3_
      clear n0_ n1_ n2_ n3_
      (try clear hb)
      (try clear hb2)
      (try clear hk)
      (try clear hi)
      (try clear ho0)
      refine hK.out _ _ ⟨(bc BK152.out 0).trans rfl, (bc BK152.out 1).trans rfl, (bc BK152.out 2).trans rfl, (bc BK152.out 3).trans rfl, (bc BK152.out 4).trans rfl⟩ (fun hHeld => ?_)
      clear hK K
      refine norm_ (a' := ?_) ?_ ?_
      rotate_left
      ·show Act.put _ (some 23) _ = _
       simp only [Act.put, sA, sZ, sS, i64_w, i32_w]
       rfl
      exact norm_ M16 (hCont (v156, v159) _ ⟨hHeld, (by (with_reducible repeat (first | apply Kd.RA | apply Kd.RN | apply Kd.RD)); exact Kd.R_mono HO157.out (fun _ hk => ⟨hk.1.2, hk.2⟩)), (by (with_reducible repeat (first | apply Kd.RA | apply Kd.RN | apply Kd.RD)); exact Kd.R_mono HO160.out (fun _ hk => ⟨hk.2, hk.1.2⟩)), (qK BK152.out), M4⟩)
     skip
     refine goes_ Try.func101 (by kernel_rfl) rfl #[.slice A0 l0.length c0] (by rfl) rfl rfl M0 ?_
     with_reducible refine (impl_Hand.calls _ _ l0 t155 _ ?side1 ?side2 A10.out).mono ?_
     (case side1 => exact Kd.qC (Kd.C_below HR0.out HB.out))
     (case side2 => exact HC0.out)
     rintro e w19 ⟨v156, rfl, ho0, hb⟩
     refine ⟨_, rfl, ?_⟩
     have n0_ := zK (Kd.R_lower (Kd.R_newB ho0 (g := gb152) (o := .cells #[.int .i64 a1_0, .int .i64 a1_1, .int .i64 a1_2, .int .i64 a1_3, .int .i64 t154] 138 (0, 0)) (qK BK152.out)) (bZ M4))
     have n1_ := zK (bB (g := gb152) (o := .cells #[.int .i64 a1_0, .int .i64 a1_1, .int .i64 a1_2, .int .i64 a1_3, .int .i64 t154] 138 (0, 0)) (qK BK152.out) hb)
     have n2_ := zK (bT M4 hb)
     clear BK152
     clear HB
     have HO157 := n0_
     have BK152 := n1_
     have HB := n2_
     clear n0_ n1_ n2_
     (try clear hb)
     (try clear hb2)
     (try clear hk)
     (try clear hi)
     (try clear ho0)
     refine hK.out _ _ ⟨(bc BK152.out 0).trans rfl, (bc BK152.out 1).trans rfl, (bc BK152.out 2).trans rfl, (bc BK152.out 3).trans rfl, (bc BK152.out 4).trans rfl⟩ (fun hHeld => ?_)
     clear hK K
     refine norm_ (a' := ?_) ?_ ?_
     rotate_left
     ·show Act.put _ (some 23) _ = _
      simp only [Act.put, sA, sZ, sS, i64_w, i32_w]
      rfl
     refine one_ (i := 3) (N := some 25) #[true, true, true, true, false, false] rfl rfl (by kernel_rfl) (by decide) (fun K hK => ?_)
     refine Kd.R_lit_step k138 _ 138 ?hg (N := 25) ?hd (xs := ([(⟨a1_0, a1_1, a1_2, a1_3, t154⟩ : S138)] : List (S138))) (inner := [.int .i64 a1_0, .int .i64 a1_1, .int .i64 a1_2, .int .i64 a1_3, .int .i64 t154]) (ok := fun _ => True) (okp := fun _ => True) ?hr ?hp (fun _ hk => hk) trivial (Below.refl _ _) (Nat.le_refl _) (by simp) ?_; (case hd => rfl); (case hg => rfl); (case hr => first | (go_simp; done) | (go_simp; rfl)); (case hp => exact (Reps.c5 (show Kd.M k138 _ _ _ (⟨a1_0, a1_1, a1_2, a1_3, t154⟩ : S138) [.int .i64 a1_0, .int .i64 a1_1, .int .i64 a1_2, .int .i64 a1_3, .int .i64 t154] from (k138_mkM _ _ _ (⟨a1_0, a1_1, a1_2, a1_3, t154⟩ : S138) )) (Reps.none _ _)))
     intro v159 w20 ho21 hb hg_ hnew_
     clear hg_ hnew_
     (first | rw [← Ny158.out] at ho21 | (simp only [Int.reduceToNat] at ho21; rw [← Ny158.out] at ho21))
     have n0_ := zK (Kd.R_elder' (Kd.qR HO157.out) (Kd.R_base ho21) hb)
     have n1_ := zK (Kd.R_lower (Kd.R_newB (Kd.R_new' ho21 (Kd.R_lt (Kd.qR HO157.out))) (g := gb152) (o := .cells #[.int .i64 a1_0, .int .i64 a1_1, .int .i64 a1_2, .int .i64 a1_3, .int .i64 t154] 138 (0, 0)) (qK BK152.out)) (bZ M4))
     have n2_ := zK (bB (g := gb152) (o := .cells #[.int .i64 a1_0, .int .i64 a1_1, .int .i64 a1_2, .int .i64 a1_3, .int .i64 t154] 138 (0, 0)) (qK BK152.out) hb)
     have n3_ := zK (bT M4 hb)
     clear HO157
     clear BK152
     clear HB
     have HO157 := n0_
     have HO160 := n1_
     have BK152 := n2_
     have HB := n3_
     clear n0_ n1_ n2_ n3_
     clear hb ho21
     refine hK.out _ _ ⟨(bc BK152.out 0).trans rfl, (bc BK152.out 1).trans rfl, (bc BK152.out 2).trans rfl, (bc BK152.out 3).trans rfl, (bc BK152.out 4).trans rfl⟩ (fun hHeld => ?_)
     clear hK K
     refine norm_ (a' := ?_) ?_ ?_
     rotate_left
     ·show Act.put _ (some 25) _ = _
      simp only [Act.put, sA, sZ, sS, i64_w, i32_w]
      rfl
     exact norm_ M16 (hCont (v156, v159) _ ⟨hHeld, (by (with_reducible repeat (first | apply Kd.RA | apply Kd.RN | apply Kd.RD)); exact Kd.R_mono HO157.out (fun _ hk => ⟨hk.2, hk.1.2⟩)), (by (with_reducible repeat (first | apply Kd.RA | apply Kd.RN | apply Kd.RD)); exact Kd.R_mono HO160.out (fun _ hk => ⟨hk.1.2, hk.2⟩)), (qK BK152.out), M4⟩)
    rintro ⟨v156, v159⟩ w22 ⟨hS_, h0_, h1_, h2_, h3_⟩
    have n0_ : Aside0 (Kd.R k138 138 w22 w.heap.size (fun k_ => some k_ ≠ (v159 : Value).ownBlock ∧ k_ ≠ gb152) v156 t155) := ⟨h0_⟩
    have n1_ : Aside0 (Kd.R k138 138 w22 w.heap.size (fun k_ => some k_ ≠ (v156 : Value).ownBlock ∧ k_ ≠ gb152) v159 y158) := ⟨h1_⟩
    have n2_ : Aside0 (w22.heap[gb152]? = some (.cells #[.int .i64 a1_0, .int .i64 a1_1, .int .i64 a1_2, .int .i64 a1_3, .int .i64 t154] 138 (0, 0))) := ⟨h2_⟩
    have n3_ : Aside0 (Below w.heap.size w w22) := ⟨h3_⟩
    clear BK152
    clear HB
    clear h0_ h1_ h2_ h3_
    have HO157 := n0_
    have HO160 := n1_
    have BK152 := n2_
    have HB := n3_
    clear n0_ n1_ n2_ n3_
    have hHeld : w22.cell? ⟨gb152, 0, none⟩ = some (.int .i64 a1_0) ∧ w22.cell? ⟨gb152, 1, none⟩ = some (.int .i64 a1_1) ∧ w22.cell? ⟨gb152, 2, none⟩ = some (.int .i64 a1_2) ∧ w22.cell? ⟨gb152, 3, none⟩ = some (.int .i64 a1_3) ∧ w22.cell? ⟨gb152, 4, none⟩ = some (.int .i64 t154) := hS_
    obtain ⟨Ao24, co24, eo24⟩ := Kd.R_slice HO160.out
    (first | subst eo24 | (injection eo24 with f1_ f2_ f3_; have f4_ := f1_.symm; have f5_ := f3_.symm; clear f1_ f2_ f3_; subst f4_; subst f5_))
    refine norm_ (a' := ?_) ?_ ?_
    rotate_left
    ·simp only [putAll, Act.put, sA, sZ, sS]
     rfl
    refine one_ (i := 4) (N := some 26) #[true, true, true, true, true, false] rfl rfl (by kernel_rfl) (by decide) (fun K hK => ?_)
    refine Kd.R_append_rows_step k138 (w0 := w) w.heap.size (by rfl) (.tmp 23) (.tmp 25) 51 138 (.agg #[(.int .i64 0), (.int .i64 0), (.int .i64 0), (.int .i64 0), (.int .i64 0)]) 40 rfl Try.underlying51 info138 rfl (by decide) (by omega) v156 t155 y158 _ _ _ (fun k_ => some k_ ≠ (.slice Ao24 y158.length co24 : Value).ownBlock ∧ k_ ≠ gb152) (fun _ => False) rfl rfl ?aO ?aR (fun _ _ h => h) (fun _ h => h.elim) ?aF ?aB ?aS ?aL ?_
    (case aR => exact Kd.qC (Kd.R_reads' HO160.out).2.2)
    (case aB => exact M4)
    (case aF => exact (fun k_ hk => ⟨Kd.fresh' (Kd.R_lt (Kd.qR HO160.out)) k_ hk, Kd.freshB (g := gb152) (o := .cells #[.int .i64 a1_0, .int .i64 a1_1, .int .i64 a1_2, .int .i64 a1_3, .int .i64 t154] 138 (0, 0)) (qK BK152.out) k_ hk⟩))
    (case aO => exact (Kd.qR HO157.out))
    (case aS => exact (bZ M4))
    (case aL => have := LMc11.out; omega)
    intro v162 w23 ho hb hg hat
    rw [← Ny161.out] at ho
    have n0_ := zK (blk_grown (g := gb152) (o := .cells #[.int .i64 a1_0, .int .i64 a1_1, .int .i64 a1_2, .int .i64 a1_3, .int .i64 t154] 138 (0, 0)) (qK BK152.out) hg (Kd.R_away HO157.out (fun _ hk => hk.2)))
    have n1_ := zK (Kd.R_after (ok := (fun k_ => k_ ≠ gb152)) (by (with_reducible repeat (first | apply Kd.RA | apply Kd.RN | apply Kd.RD)); exact Kd.R_mono HO160.out (fun _ hk => ⟨hk.2, hk.1⟩)) hg hat)
    have n2_ := zK (hb)
    have n3_ := zK (ho)
    clear BK152
    clear HO160
    clear HB
    clear HO157
    have BK152 := n0_
    have HO160 := n1_
    have HB := n2_
    have HO163 := n3_
    clear n0_ n1_ n2_ n3_
    clear ho hb hg hat
    refine hK.out _ _ ⟨(bc BK152.out 0).trans rfl, (bc BK152.out 1).trans rfl, (bc BK152.out 2).trans rfl, (bc BK152.out 3).trans rfl, (bc BK152.out 4).trans rfl⟩ (fun hHeld => ?_)
    clear hK K
    refine norm_ (a' := ?_) ?_ ?_
    rotate_left
    ·show Act.put _ (some 26) _ = _
     simp only [Act.put, sA, sZ, sS, i64_w, i32_w]
     rfl
    refine pure_ (i := 5) (N := some 7) (v := ?_) (a' := ?_) #[true, true, true, true, true, true] rfl rfl (by kernel_rfl) (fun _ _ _ h => h) (Or.inl ⟨by rfl, ?_⟩) ?_ ?_
    rotate_left
    ·intro w'
     go_simp
     with_reducible rfl
    rotate_left
    ·simp only [Act.put, sA, sZ, sS, i64_w, i32_w]
     rfl
    refine done_ (by kernel_rfl) ?_
    obtain ⟨Ao25, co25, eo25⟩ := Kd.R_slice HO163.out
    subst eo25
    try go_wp2_with (first | ((with_reducible refine gate_callee (f := 34) rfl ?_); refine goesL_ (some 28) rfl rfl Try.func34 (by kernel_rfl) rfl #[.slice Ao25 y161.length co25] rfl M0 ?_; (with_reducible refine (impl_IsChain.calls kj2 _ _ y161 true _ ?side1 ?side2 A12.out).mono ?_); (case side1 => exact Kd.qC (Kd.R_reads' HO163.out).2.2); (case side2 => exact (Kd.R_reads' HO163.out).2.1); rintro e w26 ⟨rfl, hb⟩; refine ⟨_, rfl, ?_⟩; have n0_ := zK (Kd.R_below (Kd.qR HO160.out) hb); have n1_ := zK (Kd.R_below (Kd.qR HO163.out) hb); have n2_ := zK (bB (g := gb152) (o := .cells #[.int .i64 a1_0, .int .i64 a1_1, .int .i64 a1_2, .int .i64 a1_3, .int .i64 t154] 138 (0, 0)) (qK BK152.out) hb); have n3_ := zK (bT M4 hb); clear HO160 HO163 BK152 HB; have HO160 := n0_; have HO163 := n1_; have BK152 := n2_; have HB := n3_; clear n0_ n1_ n2_ n3_; (try clear hb); (try clear hb2); (try clear hk); (try clear hi)))
    go_ret2
    exact ⟨_, by first | rfl | (simp [errW_none, errW_some] <;> rfl) | (simp [*, errW_none, errW_some] <;> rfl), by (with_reducible repeat (first | apply Kd.RA | apply Kd.RN | apply Kd.RD)); exact Kd.R_mono HO163.out (fun _ hk => trivial), by repeat (first | (with_reducible first | exact HB.out | apply bA | apply bN | apply b1 | refine bS ?_ GE152.out) | exact HB.out)⟩
   replace c13 := Bool.eq_false_iff.mpr c13
   subst c13
   have H1 : ((impl_Hand.f l0).bind fun t165 => (some (t165, false))) = some (r1, r2) := by rw [if_neg (show ¬ (false = true) by decide)] at H; exact H
   clear H
   have H := H1
   clear H1
   replace H := Option.bind_eq_some_iff.mp H
   obtain ⟨t165, A270, H⟩ := H
   replace H : (some (t165, false)) = some (r1, r2) := H
   have A27 := zK A270
   clear A270
   simp only [Option.some.injEq, Prod.mk.injEq] at H
   obtain ⟨rfl, rfl⟩ := H
   have hcz28_0 : wc.cell? ⟨gb152, 0, none⟩ = some (.int .i64 a1_0) := (bc BK152.out 0).trans rfl
   have hcz28_1 : wc.cell? ⟨gb152, 1, none⟩ = some (.int .i64 a1_1) := (bc BK152.out 1).trans rfl
   have hcz28_2 : wc.cell? ⟨gb152, 2, none⟩ = some (.int .i64 a1_2) := (bc BK152.out 2).trans rfl
   have hcz28_3 : wc.cell? ⟨gb152, 3, none⟩ = some (.int .i64 a1_3) := (bc BK152.out 3).trans rfl
   have hcz28_4 : wc.cell? ⟨gb152, 4, none⟩ = some (.int .i64 a1_4) := (bc BK152.out 4).trans rfl
   have hfz28_0 := bf BK152.out 0
   have hfz28_1 := bf BK152.out 1
   have hfz28_2 := bf BK152.out 2
   have hfz28_3 := bf BK152.out 3
   have hfz28_4 := bf BK152.out 4
   try go_wp2_with (first | ((with_reducible refine gate_callee (f := 107) rfl ?_); refine goesL_ (some 20) rfl rfl Try.func107 (by kernel_rfl) rfl #[.int .i64 x6_2, .agg #[.int .i64 a1_0, .int .i64 a1_1, .int .i64 a1_2, .int .i64 a1_3, .int .i64 a1_4]] rfl M0 ?_; (with_reducible refine (impl_HandSeal.calls kj2 x6_2 a1_0 a1_1 a1_2 a1_3 a1_4 t154 _ A9.out).mono ?_); rintro e w29 ⟨rfl, hb⟩; refine ⟨_, rfl, ?_⟩; have n0_ := zK (bB (g := gb152) (o := .cells #[.int .i64 a1_0, .int .i64 a1_1, .int .i64 a1_2, .int .i64 a1_3, .int .i64 a1_4] 138 (0, 0)) (qK BK152.out) hb); have n1_ := zK (bT M4 hb); clear BK152 HB; have BK152 := n0_; have HB := n1_; clear n0_ n1_; (try clear hb); (try clear hb2); (try clear hk); (try clear hi); have hcz30_0 : w29.cell? ⟨gb152, 0, none⟩ = some (.int .i64 a1_0) := (bc BK152.out 0).trans rfl; have hcz30_1 : w29.cell? ⟨gb152, 1, none⟩ = some (.int .i64 a1_1) := (bc BK152.out 1).trans rfl; have hcz30_2 : w29.cell? ⟨gb152, 2, none⟩ = some (.int .i64 a1_2) := (bc BK152.out 2).trans rfl; have hcz30_3 : w29.cell? ⟨gb152, 3, none⟩ = some (.int .i64 a1_3) := (bc BK152.out 3).trans rfl; have hcz30_4 : w29.cell? ⟨gb152, 4, none⟩ = some (.int .i64 a1_4) := (bc BK152.out 4).trans rfl; have hfz30_0 := bf BK152.out 0; have hfz30_1 := bf BK152.out 1; have hfz30_2 := bf BK152.out 2; have hfz30_3 := bf BK152.out 3; have hfz30_4 := bf BK152.out 4))
   have n0_ : Aside0 ((w29.setCell ⟨gb152, 4, none⟩ (.int .i64 t154)).heap[gb152]? = some (.cells #[.int .i64 a1_0, .int .i64 a1_1, .int .i64 a1_2, .int .i64 a1_3, .int .i64 t154] 138 (0, 0))) := ⟨by (with_reducible repeat (first | refine kN ?_ _ | refine kD ?_ | refine kA ?_ _)); refine blk_put (cs := #[.int .i64 a1_0, .int .i64 a1_1, .int .i64 a1_2, .int .i64 a1_3, .int .i64 a1_4]) ?_ 4 _ rfl; exact qK BK152.out⟩
   have n1_ : Aside0 (Below w.heap.size w (w29.setCell ⟨gb152, 4, none⟩ (.int .i64 t154))) := ⟨by repeat (first | (with_reducible first | exact HB.out | apply bA | apply bN | apply b1 | refine bS ?_ GE152.out) | exact HB.out)⟩
   (try clear BK152)
   (try clear HB)
   generalize (w29.setCell ⟨gb152, 4, none⟩ (.int .i64 t154)) = w31 at n0_ n1_ ⊢
   have BK152 := n0_
   have HB := n1_
   clear n0_ n1_
   have n0_ := zK (kD BK152.out)
   have n1_ := zK (b1 HB.out)
   clear BK152
   clear HB
   have BK152 := n0_
   have HB := n1_
   clear n0_ n1_
   refine start_ (n := 6) (S := fun w' => w'.cell? ⟨gb152, 0, none⟩ = some (.int .i64 a1_0) ∧ w'.cell? ⟨gb152, 1, none⟩ = some (.int .i64 a1_1) ∧ w'.cell? ⟨gb152, 2, none⟩ = some (.int .i64 a1_2) ∧ w'.cell? ⟨gb152, 3, none⟩ = some (.int .i64 a1_3) ∧ w'.cell? ⟨gb152, 4, none⟩ = some (.int .i64 t154)) (ds := []) b4A0 (by kernel_rfl) rfl rfl ⟨(bc BK152.out 0).trans rfl, (bc BK152.out 1).trans rfl, (bc BK152.out 2).trans rfl, (bc BK152.out 3).trans rfl, (bc BK152.out 4).trans rfl⟩ (fun hHeld => ?_)
   generalize w31.drew = w32 at BK152 HB hHeld ⊢
   refine pure_ (i := 0) (N := some 22) (v := ?_) (a' := ?_) b4A1 rfl rfl (by kernel_rfl) (fun _ _ _ h => h) (Or.inl ⟨by rfl, ?_⟩) ?_ ?_
   rotate_left
   ·intro w'
    go_simp
    with_reducible rfl
   rotate_left
   ·simp only [Act.put, sA, sZ, sS, i64_w, i32_w]
    rfl
   refine take_ (i := 2) (N := some 24) (v := ?_) (a' := ?_) b4A2 rfl rfl (by kernel_rfl) (fun _ _ _ h => h) (Or.inl ⟨by rfl, ?_⟩) hHeld ?_ ?_
   rotate_left
   ·rintro w' ⟨s0, s1, s2, s3, s4⟩
    go_simp
    with_reducible rfl
   rotate_left
   ·simp only [Act.put, sA, sZ, sS, i64_w, i32_w]
    rfl
   refine join_ (σ := Value × Value) 2 #[true, true, true, true, false, false] (fun s_ => [(23, s_.1), (25, s_.2)]) (fun s_ w' => (w'.cell? ⟨gb152, 0, none⟩ = some (.int .i64 a1_0) ∧ w'.cell? ⟨gb152, 1, none⟩ = some (.int .i64 a1_1) ∧ w'.cell? ⟨gb152, 2, none⟩ = some (.int .i64 a1_2) ∧ w'.cell? ⟨gb152, 3, none⟩ = some (.int .i64 a1_3) ∧ w'.cell? ⟨gb152, 4, none⟩ = some (.int .i64 t154)) ∧ (Kd.R k138 138 w' w.heap.size (fun k_ => some k_ ≠ (s_.2 : Value).ownBlock ∧ k_ ≠ gb152) s_.1 t155) ∧ (Kd.R k138 138 w' w.heap.size (fun k_ => some k_ ≠ (s_.1 : Value).ownBlock ∧ k_ ≠ gb152) s_.2 y158) ∧ (w'.heap[gb152]? = some (.cells #[.int .i64 a1_0, .int .i64 a1_1, .int .i64 a1_2, .int .i64 a1_3, .int .i64 t154] 138 (0, 0))) ∧ (Below w.heap.size w w')) ?_ ?_
   rotate_left
   ·intro hCont
    refine two_ (i := 1) (j := 3) (Ni := some 23) (Nj := some 25) b4A3 b4A4 rfl rfl rfl rfl (by kernel_rfl) (by decide) (by decide) (fun K hK => ?_) (fun K hK => ?_)
    rotate_left
    ·skip
     refine Kd.R_lit_step k138 _ 138 ?hg (N := 25) ?hd (xs := ([(⟨a1_0, a1_1, a1_2, a1_3, t154⟩ : S138)] : List (S138))) (inner := [.int .i64 a1_0, .int .i64 a1_1, .int .i64 a1_2, .int .i64 a1_3, .int .i64 t154]) (ok := fun _ => True) (okp := fun _ => True) ?hr ?hp (fun _ hk => hk) trivial (Below.refl _ _) (Nat.le_refl _) (by simp) ?_; (case hd => rfl); (case hg => rfl); (case hr => first | (go_simp; done) | (go_simp; rfl)); (case hp => exact (Reps.c5 (show Kd.M k138 _ _ _ (⟨a1_0, a1_1, a1_2, a1_3, t154⟩ : S138) [.int .i64 a1_0, .int .i64 a1_1, .int .i64 a1_2, .int .i64 a1_3, .int .i64 t154] from (k138_mkM _ _ _ (⟨a1_0, a1_1, a1_2, a1_3, t154⟩ : S138) )) (Reps.none _ _)))
     intro v159 w33 ho34 hb hg_ hnew_
     clear hg_ hnew_
     (first | rw [← Ny158.out] at ho34 | (simp only [Int.reduceToNat] at ho34; rw [← Ny158.out] at ho34))
     have n0_ := zK (Kd.R_lower (Kd.R_newB ho34 (g := gb152) (o := .cells #[.int .i64 a1_0, .int .i64 a1_1, .int .i64 a1_2, .int .i64 a1_3, .int .i64 t154] 138 (0, 0)) (qK BK152.out)) (bZ M4))
     have n1_ := zK (bB (g := gb152) (o := .cells #[.int .i64 a1_0, .int .i64 a1_1, .int .i64 a1_2, .int .i64 a1_3, .int .i64 t154] 138 (0, 0)) (qK BK152.out) hb)
     have n2_ := zK (bT M4 hb)
     clear BK152
     clear HB
     have HO160 := n0_
     have BK152 := n1_
     have HB := n2_
     clear n0_ n1_ n2_
     clear hb ho34
     refine hK.out _ _ ⟨(bc BK152.out 0).trans rfl, (bc BK152.out 1).trans rfl, (bc BK152.out 2).trans rfl, (bc BK152.out 3).trans rfl, (bc BK152.out 4).trans rfl⟩ (fun hHeld => ?_)
     clear hK K
     refine norm_ (a' := ?_) ?_ ?_
     rotate_left
     ·show Act.put _ (some 25) _ = _
      simp only [Act.put, sA, sZ, sS, i64_w, i32_w]
      rfl
     refine one_ (i := 1) (N := some 23) #[true, true, true, true, false, false] rfl rfl (by kernel_rfl) (by decide) (fun K hK => ?_)
     refine goes_ Try.func101 (by kernel_rfl) rfl #[.slice A0 l0.length c0] (by rfl) rfl rfl M0 ?_
     with_reducible refine (impl_Hand.calls _ _ l0 t155 _ ?side1 ?side2 A10.out).mono ?_
     (case side1 => exact Kd.qC (Kd.C_below HR0.out HB.out))
     (case side2 => exact HC0.out)
     rintro e w35 ⟨v156, rfl, ho0, hb⟩
     refine ⟨_, rfl, ?_⟩
     have n0_ := zK (Kd.R_elder' (Kd.qR HO160.out) (Kd.R_base ho0) hb)
     have n1_ := zK (Kd.R_lower (Kd.R_newB (Kd.R_new' ho0 (Kd.R_lt (Kd.qR HO160.out))) (g := gb152) (o := .cells #[.int .i64 a1_0, .int .i64 a1_1, .int .i64 a1_2, .int .i64 a1_3, .int .i64 t154] 138 (0, 0)) (qK BK152.out)) (bZ M4))
     have n2_ := zK (bB (g := gb152) (o := .cells #[.int .i64 a1_0, .int .i64 a1_1, .int .i64 a1_2, .int .i64 a1_3, .int .i64 t154] 138 (0, 0)) (qK BK152.out) hb)
     have n3_ := zK (bT M4 hb)
     clear HO160
     clear BK152
     clear HB
     have HO160 := n0_
     have HO157 := n1_
     have BK152 := n2_
     have HB := n3_
     clear n0_ n1_ n2_ n3_
     (try clear hb)
     (try clear hb2)
     (try clear hk)
     (try clear hi)
     (try clear ho0)
     refine hK.out _ _ ⟨(bc BK152.out 0).trans rfl, (bc BK152.out 1).trans rfl, (bc BK152.out 2).trans rfl, (bc BK152.out 3).trans rfl, (bc BK152.out 4).trans rfl⟩ (fun hHeld => ?_)
     clear hK K
     refine norm_ (a' := ?_) ?_ ?_
     rotate_left
     ·show Act.put _ (some 23) _ = _
      simp only [Act.put, sA, sZ, sS, i64_w, i32_w]
      rfl
     exact norm_ M16 (hCont (v156, v159) _ ⟨hHeld, (by (with_reducible repeat (first | apply Kd.RA | apply Kd.RN | apply Kd.RD)); exact Kd.R_mono HO157.out (fun _ hk => ⟨hk.1.2, hk.2⟩)), (by (with_reducible repeat (first | apply Kd.RA | apply Kd.RN | apply Kd.RD)); exact Kd.R_mono HO160.out (fun _ hk => ⟨hk.2, hk.1.2⟩)), (qK BK152.out), M4⟩)
    skip
    refine goes_ Try.func101 (by kernel_rfl) rfl #[.slice A0 l0.length c0] (by rfl) rfl rfl M0 ?_
    with_reducible refine (impl_Hand.calls _ _ l0 t155 _ ?side1 ?side2 A10.out).mono ?_
    (case side1 => exact Kd.qC (Kd.C_below HR0.out HB.out))
    (case side2 => exact HC0.out)
    rintro e w33 ⟨v156, rfl, ho0, hb⟩
    refine ⟨_, rfl, ?_⟩
    have n0_ := zK (Kd.R_lower (Kd.R_newB ho0 (g := gb152) (o := .cells #[.int .i64 a1_0, .int .i64 a1_1, .int .i64 a1_2, .int .i64 a1_3, .int .i64 t154] 138 (0, 0)) (qK BK152.out)) (bZ M4))
    have n1_ := zK (bB (g := gb152) (o := .cells #[.int .i64 a1_0, .int .i64 a1_1, .int .i64 a1_2, .int .i64 a1_3, .int .i64 t154] 138 (0, 0)) (qK BK152.out) hb)
    have n2_ := zK (bT M4 hb)
    clear BK152
    clear HB
    have HO157 := n0_
    have BK152 := n1_
    have HB := n2_
    clear n0_ n1_ n2_
    (try clear hb)
    (try clear hb2)
    (try clear hk)
    (try clear hi)
    (try clear ho0)
    refine hK.out _ _ ⟨(bc BK152.out 0).trans rfl, (bc BK152.out 1).trans rfl, (bc BK152.out 2).trans rfl, (bc BK152.out 3).trans rfl, (bc BK152.out 4).trans rfl⟩ (fun hHeld => ?_)
    clear hK K
    refine norm_ (a' := ?_) ?_ ?_
    rotate_left
    ·show Act.put _ (some 23) _ = _
     simp only [Act.put, sA, sZ, sS, i64_w, i32_w]
     rfl
    refine one_ (i := 3) (N := some 25) #[true, true, true, true, false, false] rfl rfl (by kernel_rfl) (by decide) (fun K hK => ?_)
    refine Kd.R_lit_step k138 _ 138 ?hg (N := 25) ?hd (xs := ([(⟨a1_0, a1_1, a1_2, a1_3, t154⟩ : S138)] : List (S138))) (inner := [.int .i64 a1_0, .int .i64 a1_1, .int .i64 a1_2, .int .i64 a1_3, .int .i64 t154]) (ok := fun _ => True) (okp := fun _ => True) ?hr ?hp (fun _ hk => hk) trivial (Below.refl _ _) (Nat.le_refl _) (by simp) ?_; (case hd => rfl); (case hg => rfl); (case hr => first | (go_simp; done) | (go_simp; rfl)); (case hp => exact (Reps.c5 (show Kd.M k138 _ _ _ (⟨a1_0, a1_1, a1_2, a1_3, t154⟩ : S138) [.int .i64 a1_0, .int .i64 a1_1, .int .i64 a1_2, .int .i64 a1_3, .int .i64 t154] from (k138_mkM _ _ _ (⟨a1_0, a1_1, a1_2, a1_3, t154⟩ : S138) )) (Reps.none _ _)))
    intro v159 w34 ho35 hb hg_ hnew_
    clear hg_ hnew_
    (first | rw [← Ny158.out] at ho35 | (simp only [Int.reduceToNat] at ho35; rw [← Ny158.out] at ho35))
    have n0_ := zK (Kd.R_elder' (Kd.qR HO157.out) (Kd.R_base ho35) hb)
    have n1_ := zK (Kd.R_lower (Kd.R_newB (Kd.R_new' ho35 (Kd.R_lt (Kd.qR HO157.out))) (g := gb152) (o := .cells #[.int .i64 a1_0, .int .i64 a1_1, .int .i64 a1_2, .int .i64 a1_3, .int .i64 t154] 138 (0, 0)) (qK BK152.out)) (bZ M4))
    have n2_ := zK (bB (g := gb152) (o := .cells #[.int .i64 a1_0, .int .i64 a1_1, .int .i64 a1_2, .int .i64 a1_3, .int .i64 t154] 138 (0, 0)) (qK BK152.out) hb)
    have n3_ := zK (bT M4 hb)
    clear HO157
    clear BK152
    clear HB
    have HO157 := n0_
    have HO160 := n1_
    have BK152 := n2_
    have HB := n3_
    clear n0_ n1_ n2_ n3_
    clear hb ho35
    refine hK.out _ _ ⟨(bc BK152.out 0).trans rfl, (bc BK152.out 1).trans rfl, (bc BK152.out 2).trans rfl, (bc BK152.out 3).trans rfl, (bc BK152.out 4).trans rfl⟩ (fun hHeld => ?_)
    clear hK K
    refine norm_ (a' := ?_) ?_ ?_
    rotate_left
    ·show Act.put _ (some 25) _ = _
     simp only [Act.put, sA, sZ, sS, i64_w, i32_w]
     rfl
    exact norm_ M16 (hCont (v156, v159) _ ⟨hHeld, (by (with_reducible repeat (first | apply Kd.RA | apply Kd.RN | apply Kd.RD)); exact Kd.R_mono HO157.out (fun _ hk => ⟨hk.2, hk.1.2⟩)), (by (with_reducible repeat (first | apply Kd.RA | apply Kd.RN | apply Kd.RD)); exact Kd.R_mono HO160.out (fun _ hk => ⟨hk.1.2, hk.2⟩)), (qK BK152.out), M4⟩)
   rintro ⟨v156, v159⟩ w36 ⟨hS_, h0_, h1_, h2_, h3_⟩
   have n0_ : Aside0 (Kd.R k138 138 w36 w.heap.size (fun k_ => some k_ ≠ (v159 : Value).ownBlock ∧ k_ ≠ gb152) v156 t155) := ⟨h0_⟩
   have n1_ : Aside0 (Kd.R k138 138 w36 w.heap.size (fun k_ => some k_ ≠ (v156 : Value).ownBlock ∧ k_ ≠ gb152) v159 y158) := ⟨h1_⟩
   have n2_ : Aside0 (w36.heap[gb152]? = some (.cells #[.int .i64 a1_0, .int .i64 a1_1, .int .i64 a1_2, .int .i64 a1_3, .int .i64 t154] 138 (0, 0))) := ⟨h2_⟩
   have n3_ : Aside0 (Below w.heap.size w w36) := ⟨h3_⟩
   clear BK152
   clear HB
   clear h0_ h1_ h2_ h3_
   have HO157 := n0_
   have HO160 := n1_
   have BK152 := n2_
   have HB := n3_
   clear n0_ n1_ n2_ n3_
   have hHeld : w36.cell? ⟨gb152, 0, none⟩ = some (.int .i64 a1_0) ∧ w36.cell? ⟨gb152, 1, none⟩ = some (.int .i64 a1_1) ∧ w36.cell? ⟨gb152, 2, none⟩ = some (.int .i64 a1_2) ∧ w36.cell? ⟨gb152, 3, none⟩ = some (.int .i64 a1_3) ∧ w36.cell? ⟨gb152, 4, none⟩ = some (.int .i64 t154) := hS_
   obtain ⟨Ao38, co38, eo38⟩ := Kd.R_slice HO160.out
   (first | subst eo38 | (injection eo38 with f1_ f2_ f3_; have f4_ := f1_.symm; have f5_ := f3_.symm; clear f1_ f2_ f3_; subst f4_; subst f5_))
   refine norm_ (a' := ?_) ?_ ?_
   rotate_left
   ·simp only [putAll, Act.put, sA, sZ, sS]
    rfl
   refine one_ (i := 4) (N := some 26) #[true, true, true, true, true, false] rfl rfl (by kernel_rfl) (by decide) (fun K hK => ?_)
   refine Kd.R_append_rows_step k138 (w0 := w) w.heap.size (by rfl) (.tmp 23) (.tmp 25) 51 138 (.agg #[(.int .i64 0), (.int .i64 0), (.int .i64 0), (.int .i64 0), (.int .i64 0)]) 40 rfl Try.underlying51 info138 rfl (by decide) (by omega) v156 t155 y158 _ _ _ (fun k_ => some k_ ≠ (.slice Ao38 y158.length co38 : Value).ownBlock ∧ k_ ≠ gb152) (fun _ => False) rfl rfl ?aO ?aR (fun _ _ h => h) (fun _ h => h.elim) ?aF ?aB ?aS ?aL ?_
   (case aR => exact Kd.qC (Kd.R_reads' HO160.out).2.2)
   (case aB => exact M4)
   (case aF => exact (fun k_ hk => ⟨Kd.fresh' (Kd.R_lt (Kd.qR HO160.out)) k_ hk, Kd.freshB (g := gb152) (o := .cells #[.int .i64 a1_0, .int .i64 a1_1, .int .i64 a1_2, .int .i64 a1_3, .int .i64 t154] 138 (0, 0)) (qK BK152.out) k_ hk⟩))
   (case aO => exact (Kd.qR HO157.out))
   (case aS => exact (bZ M4))
   (case aL => have := LMc11.out; omega)
   intro v162 w37 ho hb hg hat
   rw [← Ny161.out] at ho
   have n0_ := zK (blk_grown (g := gb152) (o := .cells #[.int .i64 a1_0, .int .i64 a1_1, .int .i64 a1_2, .int .i64 a1_3, .int .i64 t154] 138 (0, 0)) (qK BK152.out) hg (Kd.R_away HO157.out (fun _ hk => hk.2)))
   have n1_ := zK (Kd.R_after (ok := (fun k_ => k_ ≠ gb152)) (by (with_reducible repeat (first | apply Kd.RA | apply Kd.RN | apply Kd.RD)); exact Kd.R_mono HO160.out (fun _ hk => ⟨hk.2, hk.1⟩)) hg hat)
   have n2_ := zK (hb)
   have n3_ := zK (ho)
   clear BK152
   clear HO160
   clear HB
   clear HO157
   have BK152 := n0_
   have HO160 := n1_
   have HB := n2_
   have HO163 := n3_
   clear n0_ n1_ n2_ n3_
   clear ho hb hg hat
   refine hK.out _ _ ⟨(bc BK152.out 0).trans rfl, (bc BK152.out 1).trans rfl, (bc BK152.out 2).trans rfl, (bc BK152.out 3).trans rfl, (bc BK152.out 4).trans rfl⟩ (fun hHeld => ?_)
   clear hK K
   refine norm_ (a' := ?_) ?_ ?_
   rotate_left
   ·show Act.put _ (some 26) _ = _
    simp only [Act.put, sA, sZ, sS, i64_w, i32_w]
    rfl
   refine pure_ (i := 5) (N := some 7) (v := ?_) (a' := ?_) #[true, true, true, true, true, true] rfl rfl (by kernel_rfl) (fun _ _ _ h => h) (Or.inl ⟨by rfl, ?_⟩) ?_ ?_
   rotate_left
   ·intro w'
    go_simp
    with_reducible rfl
   rotate_left
   ·simp only [Act.put, sA, sZ, sS, i64_w, i32_w]
    rfl
   refine done_ (by kernel_rfl) ?_
   obtain ⟨Ao39, co39, eo39⟩ := Kd.R_slice HO163.out
   subst eo39
   try go_wp2_with (first | ((with_reducible refine gate_callee (f := 34) rfl ?_); refine goesL_ (some 28) rfl rfl Try.func34 (by kernel_rfl) rfl #[.slice Ao39 y161.length co39] rfl M0 ?_; (with_reducible refine (impl_IsChain.calls kj2 _ _ y161 false _ ?side1 ?side2 A12.out).mono ?_); (case side1 => exact Kd.qC (Kd.R_reads' HO163.out).2.2); (case side2 => exact (Kd.R_reads' HO163.out).2.1); rintro e w40 ⟨rfl, hb⟩; refine ⟨_, rfl, ?_⟩; have n0_ := zK (Kd.R_below (Kd.qR HO160.out) hb); have n1_ := zK (Kd.R_below (Kd.qR HO163.out) hb); have n2_ := zK (bB (g := gb152) (o := .cells #[.int .i64 a1_0, .int .i64 a1_1, .int .i64 a1_2, .int .i64 a1_3, .int .i64 t154] 138 (0, 0)) (qK BK152.out) hb); have n3_ := zK (bT M4 hb); clear HO160 HO163 BK152 HB; have HO160 := n0_; have HO163 := n1_; have BK152 := n2_; have HB := n3_; clear n0_ n1_ n2_ n3_; (try clear hb); (try clear hb2); (try clear hk); (try clear hi)) | ((with_reducible refine gate_callee (f := 101) rfl ?_); refine goesL_ (some 31) rfl rfl Try.func101 (by kernel_rfl) rfl #[.slice A0 l0.length c0] rfl M0 ?_; (with_reducible refine (impl_Hand.calls _ _ l0 t165 _ ?side1 ?side2 A27.out).mono ?_); (case side1 => exact Kd.qC (Kd.C_below HR0.out HB.out)); (case side2 => exact HC0.out); rintro e w41 ⟨v166, rfl, ho0, hb⟩; refine ⟨_, rfl, ?_⟩; have n0_ := zK (Kd.R_elder' (Kd.qR HO160.out) (Kd.R_base ho0) hb); have n1_ := zK (Kd.R_elder' (Kd.qR HO163.out) (Kd.R_base ho0) hb); have n2_ := zK (Kd.R_lower (Kd.R_newB (Kd.R_new' (Kd.R_new' ho0 (Kd.R_lt (Kd.qR HO160.out))) (Kd.R_lt (Kd.qR HO163.out))) (g := gb152) (o := .cells #[.int .i64 a1_0, .int .i64 a1_1, .int .i64 a1_2, .int .i64 a1_3, .int .i64 t154] 138 (0, 0)) (qK BK152.out)) (bZ M4)); have n3_ := zK (bB (g := gb152) (o := .cells #[.int .i64 a1_0, .int .i64 a1_1, .int .i64 a1_2, .int .i64 a1_3, .int .i64 t154] 138 (0, 0)) (qK BK152.out) hb); have n4_ := zK (bT M4 hb); clear HO160 HO163 BK152 HB; have HO160 := n0_; have HO163 := n1_; have HO167 := n2_; have BK152 := n3_; have HB := n4_; clear n0_ n1_ n2_ n3_ n4_; (try clear hb); (try clear hb2); (try clear hk); (try clear hi); (try clear ho0)))
   go_ret2
   exact ⟨_, by first | rfl | (simp [errW_none, errW_some] <;> rfl) | (simp [*, errW_none, errW_some] <;> rfl), by (with_reducible repeat (first | apply Kd.RA | apply Kd.RN | apply Kd.RD)); exact Kd.R_mono HO167.out (fun _ hk => trivial), by repeat (first | (with_reducible first | exact HB.out | apply bA | apply bN | apply b1 | refine bS ?_ GE152.out) | exact HB.out)⟩
/-! ### slices_Index_int_int: function 148 -/
def slices_Index_int_int.l0 : Nat → List Int → Int → Int → Int → Option (Int)
 | 0, _, _, _, _ => none
 | k + 1, x0, x1, x7, x8 => if x8 < x7 then (if 0 ≤ x8 then (if x8 < (x0.length : Int) then (if x1 = (rd x0 x8) then (some x8) else (slices_Index_int_int.l0 k x0 x1 x7 (wrap64 (x8 + 1)))) else (none)) else (none)) else (some (-1))
def slices_Index_int_int.f (k : Nat) (l0 : List Int) (a1 : Int) : Option (Int) := slices_Index_int_int.l0 k l0 a1 (l0.length : Int) 0
set_option maxHeartbeats 8000000 in
set_option maxRecDepth 100000 in
theorem slices_Index_int_int.calls (k : Nat) (A0 : Option Addr) (c0 : Nat) (l0 : List Int) (a1 : Int) (r : Int) (w : World) (hr0 : Kd.C (Kd.int .i64) w A0 l0.length l0) (hc0 : l0.length ≤ c0) (h : slices_Index_int_int.f k l0 a1 = some r) :
  Calls Try.prog 148 #[.slice A0 l0.length c0, .int .i64 a1] w fun e w' => e = .returned (.int .i64 r) ∧ Drawn0 w w' := by
 have HR0 := zK hr0
 have HC0 := zK hc0
 clear hr0 hc0
 have H : (slices_Index_int_int.l0 k l0 a1 (l0.length : Int) 0) = some r := h
 clear h
 have H' := zK H
 clear H
 go_enter Try.func148, Try.ntmps148
 go_wp2
 go_loopg [8] k (fun kq v8 w' => ∃ (x8_1 : Int), v8 = .int .i64 x8_1 ∧ Aside0 (slices_Index_int_int.l0 kq l0 a1 (l0.length : Int) x8_1 = some r) ∧ Aside0 (kq ≤ k) ∧ Drawn0 w w')
 case atStart => exact ⟨(0), M3, H', ⟨Nat.le_refl _⟩, by repeat (first | exact Drawn0.refl _ | apply Drawn0.step)⟩
 case round =>
  clear H'
  try clear c1
  try clear p2
  obtain ⟨x8_1, rfl, HA, HK1, ⟨m1, rfl⟩⟩ := hrel
  cases gk with
  | zero => exact absurd HA.out (by simp [slices_Index_int_int.l0])
  | succ k1 =>
   have H := HA.out
   clear HA
   simp only [slices_Index_int_int.l0] at H
   by_cases c3 : x8_1 < (l0.length : Int)
   rotate_left
   ·rw [if_neg c3] at H
    have c3b0 : decide (x8_1 < (l0.length : Int)) = false := decide_eq_false c3
    clear c3
    obtain rfl := Option.some.inj H
    go_wp2
    go_ret
    exact ⟨by first | rfl | (simp; done) | (simp [*]; done), by repeat (first | exact Drawn0.refl _ | apply Drawn0.step)⟩
   rw [if_pos c3] at H
   have c3b0 : decide (x8_1 < (l0.length : Int)) = true := decide_eq_true c3
   clear c3
   by_cases c4 : 0 ≤ x8_1
   rotate_left
   ·rw [if_neg c4] at H
    exact absurd H (by simp)
   rw [if_pos c4] at H
   have c4b0 : decide (0 ≤ x8_1) = true := decide_eq_true c4
   clear c4
   by_cases c5 : x8_1 < (l0.length : Int)
   rotate_left
   ·rw [if_neg c5] at H
    exact absurd H (by simp)
   rw [if_pos c5] at H
   have c5b0 : decide (x8_1 < (l0.length : Int)) = true := decide_eq_true c5
   clear c5
   by_cases c6 : a1 = (rd l0 x8_1)
   ·rw [if_pos c6] at H
    have c6b0 : (a1 == (rd l0 x8_1)) = true := beq_iff_eq.mpr c6
    have c6b1 : (a1 != (rd l0 x8_1)) = false := bne_eq_false_iff_eq.mpr c6
    clear c6
    obtain rfl := Option.some.inj H
    have p168 : 0 ≤ (x8_1 : Int) := oD M1
    have q168 : x8_1 < (l0.length : Int) := oD M1
    obtain ⟨ad168, e168, hx168_0⟩ := Kd.at_int HR0.out x8_1 p168 q168
    cases e168
    replace p168 := eq_true p168
    replace q168 := eq_true q168
    go_wp2
    go_ret
    exact ⟨by first | rfl | (simp; done) | (simp [*]; done), by repeat (first | exact Drawn0.refl _ | apply Drawn0.step)⟩
   rw [if_neg c6] at H
   have c6b0 : (a1 == (rd l0 x8_1)) = false := beq_eq_false_iff_ne.mpr c6
   have c6b1 : (a1 != (rd l0 x8_1)) = true := bne_iff_ne.mpr c6
   have H' := zK H
   clear H
   have p168 : 0 ≤ (x8_1 : Int) := oD M1
   have q168 : x8_1 < (l0.length : Int) := oD M1
   obtain ⟨ad168, e168, hx168_0⟩ := Kd.at_int HR0.out x8_1 p168 q168
   cases e168
   replace p168 := eq_true p168
   replace q168 := eq_true q168
   go_wp2
   go_roundg k1
   case measure => have := HK1.out; omega
   case rel => exact ⟨(wrap64 (x8_1 + 1)), M3, H', ⟨by have := HK1.out; omega⟩, by repeat (first | exact Drawn0.refl _ | apply Drawn0.step)⟩
/-! ### slices_Contains_int_int: function 103 -/
def slices_Contains_int_int.f (k : Nat) (l0 : List Int) (a1 : Int) : Option (Bool) := (slices_Index_int_int.f k l0 a1).bind fun t169 => (some (decide (t169 ≥ 0)))
set_option maxHeartbeats 8000000 in
set_option maxRecDepth 100000 in
theorem slices_Contains_int_int.calls (k : Nat) (A0 : Option Addr) (c0 : Nat) (l0 : List Int) (a1 : Int) (r : Bool) (w : World) (hr0 : Kd.C (Kd.int .i64) w A0 l0.length l0) (hc0 : l0.length ≤ c0) (h : slices_Contains_int_int.f k l0 a1 = some r) :
  Calls Try.prog 103 #[.slice A0 l0.length c0, .int .i64 a1] w fun e w' => e = .returned (.bool r) ∧ Drawn0 w w' := by
 have HR0 := zK hr0
 have HC0 := zK hc0
 clear hr0 hc0
 have H : ((slices_Index_int_int.f k l0 a1).bind fun t169 => (some (decide (t169 ≥ 0)))) = some r := h
 clear h
 replace H := Option.bind_eq_some_iff.mp H
 obtain ⟨t169, A30, H⟩ := H
 replace H : (some (decide (t169 ≥ 0))) = some r := H
 have A3 := zK A30
 clear A30
 obtain rfl := Option.some.inj H
 go_enter Try.func103, Try.ntmps103
 go_wp2_with (first | ((with_reducible refine gate_callee (f := 148) rfl ?_); refine goesL_ (some 7) rfl rfl Try.func148 (by kernel_rfl) rfl #[.slice A0 l0.length c0, .int .i64 a1] rfl M0 ?_; (with_reducible refine (slices_Index_int_int.calls k _ _ l0 a1 t169 _ ?side1 ?side2 A3.out).mono ?_); (case side1 => exact Kd.qC HR0.out); (case side2 => exact HC0.out); rintro e w' ⟨rfl, ⟨nd, rfl⟩⟩; refine ⟨_, rfl, ?_⟩))
 go_ret
 exact ⟨by first | rfl | (simp; done) | (simp [*]; done), by repeat (first | exact Drawn0.refl _ | apply Drawn0.step)⟩

end Go.Proofs.Ytejhjenlodclpaa.PFnExactSendAll
