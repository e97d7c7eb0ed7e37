/- Walks of functions that FnExactSendAll reaches: written by a tool of the kit for this claim, then shortened by a program of ours. -/
import Derived.Test.YtejhjenlodclpaaPFnExactSendAllx0
import Derived.Test.YtejhjenlodclpaaPFnExactSendAllx5
/- narrow -/
namespace Go.Proofs.Ytejhjenlodclpaa.PFnExactSendAll
open Go.RowKit Go.Proofs.YtejhjenlodclpaaW.PrintWords Go.Proofs.YtejhjenlodclpaaW.PrintLast Go.Proofs.YtejhjenlodclpaaW.PrintMore
attribute [local go_sem] max2_int min2_int max_two min_two max_three min_three max_four min_four   -- for this text's walks alone
set_option linter.unusedVariables false
set_option linter.unusedSimpArgs false

abbrev b6A0 : Array Bool := #[bo, bo, bo, bo, bo, bo, bo, bo, bo, bo]
abbrev b6A1 : Array Bool := #[bi, bo, bo, bo, bo, bo, bo, bo, bo, bo]
abbrev b6A2 : Array Bool := #[bi, bi, bo, bo, bo, bo, bo, bo, bo, bo]
abbrev b6A3 : Array Bool := #[bi, bi, bi, bo, bo, bo, bo, bo, bo, bo]
abbrev b6A4 : Array Bool := #[bi, bi, bi, bo, bi, bo, bo, bo, bo, bo]
abbrev b6A5 : Array Bool := #[bi, bi, bi, bo, bi, bi, bo, bo, bo, bo]
abbrev b6A6 : Array Bool := #[bi, bi, bi, bo, bi, bi, bi, bo, bo, bo]
abbrev b6A7 : Array Bool := #[bi, bi, bi, bi, bi, bi, bi, bo, bo, bo]
abbrev b6A8 : Array Bool := #[bi, bi, bi, bi, bi, bi, bi, bi, bo, bo]
abbrev b6A9 : Array Bool := #[bi, bi, bi, bi, bi, bi, bi, bi, bi, bo]
abbrev b6A10 : Array Bool := #[bi, bi, bi, bi, bi, bi, bi, bi, bi, bi]
/-! ### laws_eqHandS: function 52 -/
def laws_eqHandS.l0 : Nat → List (S138) → List (S138) → Int → Option (Bool)
 | 0, _, _, _ => none
 | k + 1, x0, x1, x5 => if x5 < (x0.length : Int) then (if 0 ≤ x5 then (if x5 < (x1.length : Int) then ((laws_eqHand.f ((rd_T138 x0 x5).f0) ((rd_T138 x0 x5).f1) ((rd_T138 x0 x5).f2) ((rd_T138 x0 x5).f3) ((rd_T138 x0 x5).f4) ((rd_T138 x1 x5).f0) ((rd_T138 x1 x5).f1) ((rd_T138 x1 x5).f2) ((rd_T138 x1 x5).f3) ((rd_T138 x1 x5).f4)).bind fun t219 => (if t219 = true then (laws_eqHandS.l0 k x0 x1 (wrap64 (x5 + 1))) else (some false))) else (none)) else (none)) else (some true)
def laws_eqHandS.f (k : Nat) (l0 : List (S138)) (l1 : List (S138)) : Option (Bool) := if (l0.length : Int) = (l1.length : Int) then (laws_eqHandS.l0 k l0 l1 0) else (some false)
def laws_eqHandS.T6 : Bool × List (List Nat × List Nat) := (true, [([], []), ([], []), ([0, 1], [0, 1]), ([2], [2]), ([], []), ([], []), ([4, 5], [4, 5]), ([6], [6]), ([3, 7], [3, 7]), ([8], [8])])
def laws_eqHandS.B6 : List Nat := [0, 0, 3, 7, 0, 0, 48, 112, 255, 511]
theorem laws_eqHandS.tab6 : rtab .any (opsOf Try.f52 6) = laws_eqHandS.T6 := by kernel_rfl
theorem laws_eqHandS.bits6 : waitsOk laws_eqHandS.T6.2 laws_eqHandS.B6 = true := by kernel_rfl
set_option maxHeartbeats 8000000 in
set_option maxRecDepth 100000 in
theorem laws_eqHandS.calls (k : Nat) (A0 : Option Addr) (c0 : Nat) (l0 : List (S138)) (A1 : Option Addr) (c1 : Nat) (l1 : List (S138)) (r : Bool) (w : World) (hr0 : Kd.C k138 w A0 l0.length l0) (hc0 : l0.length ≤ c0) (hr1 : Kd.C k138 w A1 l1.length l1) (hc1 : l1.length ≤ c1) (h : laws_eqHandS.f k l0 l1 = some r) :
  Calls Try.prog 52 #[.slice A0 l0.length c0, .slice A1 l1.length c1] w fun e w' => e = .returned (.bool r) ∧ Below w.heap.size w w' := by
 have hu138 := Try.underlying138
 have HR0 := zK hr0
 have HC0 := zK hc0
 clear hr0 hc0
 have HR1 := zK hr1
 have HC1 := zK hc1
 clear hr1 hc1
 have HB := zK (Below.refl w.heap.size w)
 have H : (if (l0.length : Int) = (l1.length : Int) then (laws_eqHandS.l0 k l0 l1 0) else (some false)) = some r := h
 clear h
 by_cases c3 : (l0.length : Int) = (l1.length : Int)
 rotate_left
 ·rw [if_neg c3] at H
  have c3b0 : ((l0.length : Int) == (l1.length : Int)) = false := beq_eq_false_iff_ne.mpr c3
  have c3b1 : ((l0.length : Int) != (l1.length : Int)) = true := bne_iff_ne.mpr c3
  have c3b2 : (l0.length == l1.length) = false := by first | simpa using c3 | (simp at c3 ⊢; omega)
  obtain rfl := Option.some.inj H
  go_enter Try.func52, Try.ntmps52
  go_wp2
  go_ret
  exact ⟨by first | rfl | (simp [errW_none, errW_some] <;> rfl) | (simp [*, errW_none, errW_some] <;> rfl), by exact qB HB.out⟩
 rw [if_pos c3] at H
 have c3b0 : ((l0.length : Int) == (l1.length : Int)) = true := beq_iff_eq.mpr c3
 have c3b1 : ((l0.length : Int) != (l1.length : Int)) = false := bne_eq_false_iff_eq.mpr c3
 have c3b2 : (l0.length == l1.length) = true := by first | simpa using c3 | (simp at c3 ⊢; omega)
 clear c3
 have H' := zK H
 clear H
 go_enter Try.func52, Try.ntmps52
 go_wp2
 go_loopg [5] k (fun kq v5 w' => ∃ (x5_1 : Int), v5 = .int .i64 x5_1 ∧ Aside0 (laws_eqHandS.l0 kq l0 l1 x5_1 = some r) ∧ Aside0 (kq ≤ k) ∧ Aside0 (Below w.heap.size w w'))
 case atStart => exact ⟨(0), M3, H', ⟨Nat.le_refl _⟩, ⟨by exact qB HB.out⟩⟩
 case round =>
  clear H'
  try clear c1
  try clear p2
  try clear c3
  try clear c3b0
  try clear c3b1
  try clear c3b2
  obtain ⟨x5_1, rfl, HA, HK1, HB⟩ := hrel
  cases gk with
  | zero => exact absurd HA.out (by simp [laws_eqHandS.l0])
  | succ k1 =>
   have H := HA.out
   clear HA
   simp only [laws_eqHandS.l0] at H
   by_cases c4 : x5_1 < (l0.length : Int)
   rotate_left
   ·rw [if_neg c4] at H
    have c4b0 : decide (x5_1 < (l0.length : Int)) = false := decide_eq_false c4
    clear c4
    obtain rfl := Option.some.inj H
    go_wp2
    go_ret
    exact ⟨by first | rfl | (simp [errW_none, errW_some] <;> rfl) | (simp [*, errW_none, errW_some] <;> rfl), by exact qB HB.out⟩
   rw [if_pos c4] at H
   have c4b0 : decide (x5_1 < (l0.length : Int)) = true := decide_eq_true c4
   clear c4
   by_cases c5 : 0 ≤ x5_1
   rotate_left
   ·rw [if_neg c5] at H
    exact absurd H (by simp)
   rw [if_pos c5] at H
   have c5b0 : decide (0 ≤ x5_1) = true := decide_eq_true c5
   clear c5
   by_cases c6 : x5_1 < (l1.length : Int)
   rotate_left
   ·rw [if_neg c6] at H
    exact absurd H (by simp)
   rw [if_pos c6] at H
   have c6b0 : decide (x5_1 < (l1.length : Int)) = true := decide_eq_true c6
   clear c6
   replace H := Option.bind_eq_some_iff.mp H
   obtain ⟨t219, A70, H⟩ := H
   replace H : (if t219 = true then (laws_eqHandS.l0 k1 l0 l1 (wrap64 (x5_1 + 1))) else (some false)) = some r := H
   have A7 := zK A70
   clear A70
   by_cases c8 : t219 = true
   rotate_left
   ·replace c8 := Bool.eq_false_iff.mpr c8
    subst c8
    have H1 : (some false) = some r := by rw [if_neg (show ¬ (false = true) by decide)] at H; exact H
    clear H
    have H := H1
    clear H1
    obtain rfl := Option.some.inj H
    try go_wp2
    have n0_ := zK (b1 HB.out)
    clear HB
    have HB := n0_
    clear n0_
    have p217 : 0 ≤ (x5_1 : Int) := oD M1
    have q217 : x5_1 < (l0.length : Int) := oD M1
    obtain ⟨ad217, e217, hx217_0, hx217_1, hx217_2, hx217_3, hx217_4⟩ := at_T138 HR0.out x5_1 p217 q217
    have hw217_4 := hx217_4
    have hw217_3 := hx217_3
    have hw217_2 := hx217_2
    have hw217_1 := hx217_1
    have hw217_0 := hx217_0
    cases e217
    replace hx217_0 := (HB.out.cell (bL w hx217_0)).trans hx217_0
    replace hx217_1 := (HB.out.cell (bL w hx217_1)).trans hx217_1
    replace hx217_2 := (HB.out.cell (bL w hx217_2)).trans hx217_2
    replace hx217_3 := (HB.out.cell (bL w hx217_3)).trans hx217_3
    replace hx217_4 := (HB.out.cell (bL w hx217_4)).trans hx217_4
    replace p217 := eq_true p217
    replace q217 := eq_true q217
    have p218 : 0 ≤ (x5_1 : Int) := oD M1
    have q218 : x5_1 < (l1.length : Int) := oD M1
    obtain ⟨ad218, e218, hx218_0, hx218_1, hx218_2, hx218_3, hx218_4⟩ := at_T138 HR1.out x5_1 p218 q218
    have hw218_4 := hx218_4
    have hw218_3 := hx218_3
    have hw218_2 := hx218_2
    have hw218_1 := hx218_1
    have hw218_0 := hx218_0
    cases e218
    replace hx218_0 := (HB.out.cell (bL w hx218_0)).trans hx218_0
    replace hx218_1 := (HB.out.cell (bL w hx218_1)).trans hx218_1
    replace hx218_2 := (HB.out.cell (bL w hx218_2)).trans hx218_2
    replace hx218_3 := (HB.out.cell (bL w hx218_3)).trans hx218_3
    replace hx218_4 := (HB.out.cell (bL w hx218_4)).trans hx218_4
    replace p218 := eq_true p218
    replace q218 := eq_true q218
    refine start_ (n := 10) (S := fun w' => w'.cell? (ad217.add ((x5_1).toNat * 5)) = some (.int .i64 ((rd_T138 l0 x5_1).f0)) ∧ w'.cell? ⟨(ad217.add ((x5_1).toNat * 5)).block, (ad217.add ((x5_1).toNat * 5)).off + 1, none⟩ = some (.int .i64 ((rd_T138 l0 x5_1).f1)) ∧ w'.cell? ⟨(ad217.add ((x5_1).toNat * 5)).block, (ad217.add ((x5_1).toNat * 5)).off + 2, none⟩ = some (.int .i64 ((rd_T138 l0 x5_1).f2)) ∧ w'.cell? ⟨(ad217.add ((x5_1).toNat * 5)).block, (ad217.add ((x5_1).toNat * 5)).off + 3, none⟩ = some (.int .i64 ((rd_T138 l0 x5_1).f3)) ∧ w'.cell? ⟨(ad217.add ((x5_1).toNat * 5)).block, (ad217.add ((x5_1).toNat * 5)).off + 4, none⟩ = some (.int .i64 ((rd_T138 l0 x5_1).f4)) ∧ w'.cell? (ad218.add ((x5_1).toNat * 5)) = some (.int .i64 ((rd_T138 l1 x5_1).f0)) ∧ w'.cell? ⟨(ad218.add ((x5_1).toNat * 5)).block, (ad218.add ((x5_1).toNat * 5)).off + 1, none⟩ = some (.int .i64 ((rd_T138 l1 x5_1).f1)) ∧ w'.cell? ⟨(ad218.add ((x5_1).toNat * 5)).block, (ad218.add ((x5_1).toNat * 5)).off + 2, none⟩ = some (.int .i64 ((rd_T138 l1 x5_1).f2)) ∧ w'.cell? ⟨(ad218.add ((x5_1).toNat * 5)).block, (ad218.add ((x5_1).toNat * 5)).off + 3, none⟩ = some (.int .i64 ((rd_T138 l1 x5_1).f3)) ∧ w'.cell? ⟨(ad218.add ((x5_1).toNat * 5)).block, (ad218.add ((x5_1).toNat * 5)).off + 4, none⟩ = some (.int .i64 ((rd_T138 l1 x5_1).f4))) (ds := []) b6A0 (by kernel_rfl) rfl rfl ⟨((HB.out.cell (bL w hw217_0)).trans hw217_0), ((HB.out.cell (bL w hw217_1)).trans hw217_1), ((HB.out.cell (bL w hw217_2)).trans hw217_2), ((HB.out.cell (bL w hw217_3)).trans hw217_3), ((HB.out.cell (bL w hw217_4)).trans hw217_4), ((HB.out.cell (bL w hw218_0)).trans hw218_0), ((HB.out.cell (bL w hw218_1)).trans hw218_1), ((HB.out.cell (bL w hw218_2)).trans hw218_2), ((HB.out.cell (bL w hw218_3)).trans hw218_3), ((HB.out.cell (bL w hw218_4)).trans hw218_4)⟩ (fun hHeld => ?_); refine with_tabW laws_eqHandS.tab6 laws_eqHandS.bits6 (fun HT_ HW_ => ?_)
    generalize wr.drew = w11 at HB hx217_0 hx217_1 hx217_2 hx217_3 hx217_4 hx218_0 hx218_1 hx218_2 hx218_3 hx218_4 hHeld ⊢
    refine pI 0 (some 17) b6A1 HT_ ?_
    refine pI 1 (some 18) b6A2 HT_ ?_
    refine pI 2 (some 19) b6A3 HT_ ?_
    refine pI 4 (some 21) b6A4 HT_ ?_
    refine pI 5 (some 22) b6A5 HT_ ?_
    refine pI 6 (some 23) b6A6 HT_ ?_
    refine tI 3 (some 20) b6A7 HT_ HW_ hHeld rfl rfl (Or.inl ⟨by rfl, by rintro w' ⟨s0, s1, s2, s3, s4, s5, s6, s7, s8, s9⟩; go_simp; with_reducible rfl⟩) ?_
    refine tI 7 (some 24) b6A8 HT_ HW_ hHeld rfl rfl (Or.inl ⟨by rfl, by rintro w' ⟨s0, s1, s2, s3, s4, s5, s6, s7, s8, s9⟩; go_simp; with_reducible rfl⟩) ?_
    refine one_ (i := 8) (N := some 25) b6A9 rfl rfl (one_of HT_.out (by kernel_rfl)) (by decide) (fun K hK => ?_)
    refine goes_ Try.func113 (by kernel_rfl) rfl #[.agg #[.int .i64 ((rd_T138 l0 x5_1).f0), .int .i64 ((rd_T138 l0 x5_1).f1), .int .i64 ((rd_T138 l0 x5_1).f2), .int .i64 ((rd_T138 l0 x5_1).f3), .int .i64 ((rd_T138 l0 x5_1).f4)], .agg #[.int .i64 ((rd_T138 l1 x5_1).f0), .int .i64 ((rd_T138 l1 x5_1).f1), .int .i64 ((rd_T138 l1 x5_1).f2), .int .i64 ((rd_T138 l1 x5_1).f3), .int .i64 ((rd_T138 l1 x5_1).f4)]] (by rfl) rfl rfl M0 ?_
    with_reducible refine (laws_eqHand.calls ((rd_T138 l0 x5_1).f0) ((rd_T138 l0 x5_1).f1) ((rd_T138 l0 x5_1).f2) ((rd_T138 l0 x5_1).f3) ((rd_T138 l0 x5_1).f4) ((rd_T138 l1 x5_1).f0) ((rd_T138 l1 x5_1).f1) ((rd_T138 l1 x5_1).f2) ((rd_T138 l1 x5_1).f3) ((rd_T138 l1 x5_1).f4) false _ A7.out).mono ?_
    rintro e w12 ⟨rfl, hb⟩
    refine ⟨_, rfl, ?_⟩
    have n0_ := zK (bT (qB HB.out) hb)
    clear HB
    have HB := n0_
    clear n0_
    (try clear hb)
    (try clear hb2)
    (try clear hk)
    (try clear hi)
    refine hK.out _ _ ⟨((HB.out.cell (bL w hw217_0)).trans hw217_0), ((HB.out.cell (bL w hw217_1)).trans hw217_1), ((HB.out.cell (bL w hw217_2)).trans hw217_2), ((HB.out.cell (bL w hw217_3)).trans hw217_3), ((HB.out.cell (bL w hw217_4)).trans hw217_4), ((HB.out.cell (bL w hw218_0)).trans hw218_0), ((HB.out.cell (bL w hw218_1)).trans hw218_1), ((HB.out.cell (bL w hw218_2)).trans hw218_2), ((HB.out.cell (bL w hw218_3)).trans hw218_3), ((HB.out.cell (bL w hw218_4)).trans hw218_4)⟩ (fun hHeld => ?_)
    clear hK K
    refine norm_ (a' := ?_) ?_ ?_
    rotate_left
    ·show Act.put _ (some 25) _ = _
     simp only [Act.put, sA, sZ, sS, i64_w, i32_w]
     rfl
    refine pI 9 (some 26) b6A10 HT_ ?_
    refine done_ (done_of HT_.out (by kernel_rfl)) ?_
    try go_wp2
    go_ret
    exact ⟨by first | rfl | (simp [errW_none, errW_some] <;> rfl) | (simp [*, errW_none, errW_some] <;> rfl), by exact qB HB.out⟩
   subst c8
   have H1 : (laws_eqHandS.l0 k1 l0 l1 (wrap64 (x5_1 + 1))) = some r := by rw [if_pos rfl] at H; exact H
   clear H
   have H := H1
   clear H1
   have H' := zK H
   clear H
   try go_wp2
   have n0_ := zK (b1 HB.out)
   clear HB
   have HB := n0_
   clear n0_
   have p217 : 0 ≤ (x5_1 : Int) := oD M1
   have q217 : x5_1 < (l0.length : Int) := oD M1
   obtain ⟨ad217, e217, hx217_0, hx217_1, hx217_2, hx217_3, hx217_4⟩ := at_T138 HR0.out x5_1 p217 q217
   have hw217_4 := hx217_4
   have hw217_3 := hx217_3
   have hw217_2 := hx217_2
   have hw217_1 := hx217_1
   have hw217_0 := hx217_0
   cases e217
   replace hx217_0 := (HB.out.cell (bL w hx217_0)).trans hx217_0
   replace hx217_1 := (HB.out.cell (bL w hx217_1)).trans hx217_1
   replace hx217_2 := (HB.out.cell (bL w hx217_2)).trans hx217_2
   replace hx217_3 := (HB.out.cell (bL w hx217_3)).trans hx217_3
   replace hx217_4 := (HB.out.cell (bL w hx217_4)).trans hx217_4
   replace p217 := eq_true p217
   replace q217 := eq_true q217
   have p218 : 0 ≤ (x5_1 : Int) := oD M1
   have q218 : x5_1 < (l1.length : Int) := oD M1
   obtain ⟨ad218, e218, hx218_0, hx218_1, hx218_2, hx218_3, hx218_4⟩ := at_T138 HR1.out x5_1 p218 q218
   have hw218_4 := hx218_4
   have hw218_3 := hx218_3
   have hw218_2 := hx218_2
   have hw218_1 := hx218_1
   have hw218_0 := hx218_0
   cases e218
   replace hx218_0 := (HB.out.cell (bL w hx218_0)).trans hx218_0
   replace hx218_1 := (HB.out.cell (bL w hx218_1)).trans hx218_1
   replace hx218_2 := (HB.out.cell (bL w hx218_2)).trans hx218_2
   replace hx218_3 := (HB.out.cell (bL w hx218_3)).trans hx218_3
   replace hx218_4 := (HB.out.cell (bL w hx218_4)).trans hx218_4
   replace p218 := eq_true p218
   replace q218 := eq_true q218
   refine start_ (n := 10) (S := fun w' => w'.cell? (ad217.add ((x5_1).toNat * 5)) = some (.int .i64 ((rd_T138 l0 x5_1).f0)) ∧ w'.cell? ⟨(ad217.add ((x5_1).toNat * 5)).block, (ad217.add ((x5_1).toNat * 5)).off + 1, none⟩ = some (.int .i64 ((rd_T138 l0 x5_1).f1)) ∧ w'.cell? ⟨(ad217.add ((x5_1).toNat * 5)).block, (ad217.add ((x5_1).toNat * 5)).off + 2, none⟩ = some (.int .i64 ((rd_T138 l0 x5_1).f2)) ∧ w'.cell? ⟨(ad217.add ((x5_1).toNat * 5)).block, (ad217.add ((x5_1).toNat * 5)).off + 3, none⟩ = some (.int .i64 ((rd_T138 l0 x5_1).f3)) ∧ w'.cell? ⟨(ad217.add ((x5_1).toNat * 5)).block, (ad217.add ((x5_1).toNat * 5)).off + 4, none⟩ = some (.int .i64 ((rd_T138 l0 x5_1).f4)) ∧ w'.cell? (ad218.add ((x5_1).toNat * 5)) = some (.int .i64 ((rd_T138 l1 x5_1).f0)) ∧ w'.cell? ⟨(ad218.add ((x5_1).toNat * 5)).block, (ad218.add ((x5_1).toNat * 5)).off + 1, none⟩ = some (.int .i64 ((rd_T138 l1 x5_1).f1)) ∧ w'.cell? ⟨(ad218.add ((x5_1).toNat * 5)).block, (ad218.add ((x5_1).toNat * 5)).off + 2, none⟩ = some (.int .i64 ((rd_T138 l1 x5_1).f2)) ∧ w'.cell? ⟨(ad218.add ((x5_1).toNat * 5)).block, (ad218.add ((x5_1).toNat * 5)).off + 3, none⟩ = some (.int .i64 ((rd_T138 l1 x5_1).f3)) ∧ w'.cell? ⟨(ad218.add ((x5_1).toNat * 5)).block, (ad218.add ((x5_1).toNat * 5)).off + 4, none⟩ = some (.int .i64 ((rd_T138 l1 x5_1).f4))) (ds := []) b6A0 (by kernel_rfl) rfl rfl ⟨((HB.out.cell (bL w hw217_0)).trans hw217_0), ((HB.out.cell (bL w hw217_1)).trans hw217_1), ((HB.out.cell (bL w hw217_2)).trans hw217_2), ((HB.out.cell (bL w hw217_3)).trans hw217_3), ((HB.out.cell (bL w hw217_4)).trans hw217_4), ((HB.out.cell (bL w hw218_0)).trans hw218_0), ((HB.out.cell (bL w hw218_1)).trans hw218_1), ((HB.out.cell (bL w hw218_2)).trans hw218_2), ((HB.out.cell (bL w hw218_3)).trans hw218_3), ((HB.out.cell (bL w hw218_4)).trans hw218_4)⟩ (fun hHeld => ?_); refine with_tabW laws_eqHandS.tab6 laws_eqHandS.bits6 (fun HT_ HW_ => ?_)
   generalize wr.drew = w9 at HB hx217_0 hx217_1 hx217_2 hx217_3 hx217_4 hx218_0 hx218_1 hx218_2 hx218_3 hx218_4 hHeld ⊢
   refine pI 0 (some 17) b6A1 HT_ ?_
   refine pI 1 (some 18) b6A2 HT_ ?_
   refine pI 2 (some 19) b6A3 HT_ ?_
   refine pI 4 (some 21) b6A4 HT_ ?_
   refine pI 5 (some 22) b6A5 HT_ ?_
   refine pI 6 (some 23) b6A6 HT_ ?_
   refine tI 3 (some 20) b6A7 HT_ HW_ hHeld rfl rfl (Or.inl ⟨by rfl, by rintro w' ⟨s0, s1, s2, s3, s4, s5, s6, s7, s8, s9⟩; go_simp; with_reducible rfl⟩) ?_
   refine tI 7 (some 24) b6A8 HT_ HW_ hHeld rfl rfl (Or.inl ⟨by rfl, by rintro w' ⟨s0, s1, s2, s3, s4, s5, s6, s7, s8, s9⟩; go_simp; with_reducible rfl⟩) ?_
   refine one_ (i := 8) (N := some 25) b6A9 rfl rfl (one_of HT_.out (by kernel_rfl)) (by decide) (fun K hK => ?_)
   refine goes_ Try.func113 (by kernel_rfl) rfl #[.agg #[.int .i64 ((rd_T138 l0 x5_1).f0), .int .i64 ((rd_T138 l0 x5_1).f1), .int .i64 ((rd_T138 l0 x5_1).f2), .int .i64 ((rd_T138 l0 x5_1).f3), .int .i64 ((rd_T138 l0 x5_1).f4)], .agg #[.int .i64 ((rd_T138 l1 x5_1).f0), .int .i64 ((rd_T138 l1 x5_1).f1), .int .i64 ((rd_T138 l1 x5_1).f2), .int .i64 ((rd_T138 l1 x5_1).f3), .int .i64 ((rd_T138 l1 x5_1).f4)]] (by rfl) rfl rfl M0 ?_
   with_reducible refine (laws_eqHand.calls ((rd_T138 l0 x5_1).f0) ((rd_T138 l0 x5_1).f1) ((rd_T138 l0 x5_1).f2) ((rd_T138 l0 x5_1).f3) ((rd_T138 l0 x5_1).f4) ((rd_T138 l1 x5_1).f0) ((rd_T138 l1 x5_1).f1) ((rd_T138 l1 x5_1).f2) ((rd_T138 l1 x5_1).f3) ((rd_T138 l1 x5_1).f4) true _ A7.out).mono ?_
   rintro e w10 ⟨rfl, hb⟩
   refine ⟨_, rfl, ?_⟩
   have n0_ := zK (bT (qB HB.out) hb)
   clear HB
   have HB := n0_
   clear n0_
   (try clear hb)
   (try clear hb2)
   (try clear hk)
   (try clear hi)
   refine hK.out _ _ ⟨((HB.out.cell (bL w hw217_0)).trans hw217_0), ((HB.out.cell (bL w hw217_1)).trans hw217_1), ((HB.out.cell (bL w hw217_2)).trans hw217_2), ((HB.out.cell (bL w hw217_3)).trans hw217_3), ((HB.out.cell (bL w hw217_4)).trans hw217_4), ((HB.out.cell (bL w hw218_0)).trans hw218_0), ((HB.out.cell (bL w hw218_1)).trans hw218_1), ((HB.out.cell (bL w hw218_2)).trans hw218_2), ((HB.out.cell (bL w hw218_3)).trans hw218_3), ((HB.out.cell (bL w hw218_4)).trans hw218_4)⟩ (fun hHeld => ?_)
   clear hK K
   refine norm_ (a' := ?_) ?_ ?_
   rotate_left
   ·show Act.put _ (some 25) _ = _
    simp only [Act.put, sA, sZ, sS, i64_w, i32_w]
    rfl
   refine pI 9 (some 26) b6A10 HT_ ?_
   refine done_ (done_of HT_.out (by kernel_rfl)) ?_
   try go_wp2
   go_roundg k1
   case measure => have := HK1.out; omega
   case rel => exact ⟨(wrap64 (x5_1 + 1)), M3, H', ⟨by have := HK1.out; omega⟩, ⟨by exact qB HB.out⟩⟩
/-! ### laws_markHandS: function 54 -/
def laws_markHandS.l0 : Nat → List (S138) → Int → Int → Option (Int × (List (S138)))
 | 0, _, _, _ => none
 | k + 1, x0, x1, x5 => if x5 < (x0.length : Int) then (if 0 ≤ x5 then ((some (x0.set (x5 : Int).toNat (⟨x1, (rd_T138 x0 x5).f1, (rd_T138 x0 x5).f2, (rd_T138 x0 x5).f3, (rd_T138 x0 x5).f4⟩ : S138) : List (S138))).bind fun y220 => ((some (y220.set (x5 : Int).toNat (⟨(rd_T138 y220 x5).f0, wrap64 (x1 + 1), (rd_T138 y220 x5).f2, (rd_T138 y220 x5).f3, (rd_T138 y220 x5).f4⟩ : S138) : List (S138))).bind fun y221 => ((some (y221.set (x5 : Int).toNat (⟨(rd_T138 y221 x5).f0, (rd_T138 y221 x5).f1, wrap64 ((wrap64 (x1 + 1)) + 1), (rd_T138 y221 x5).f3, (rd_T138 y221 x5).f4⟩ : S138) : List (S138))).bind fun y222 => ((some (y222.set (x5 : Int).toNat (⟨(rd_T138 y222 x5).f0, (rd_T138 y222 x5).f1, (rd_T138 y222 x5).f2, wrap64 ((wrap64 ((wrap64 (x1 + 1)) + 1)) + 1), (rd_T138 y222 x5).f4⟩ : S138) : List (S138))).bind fun y223 => (laws_markHandS.l0 k (y223.set (x5 : Int).toNat (⟨(rd_T138 y223 x5).f0, (rd_T138 y223 x5).f1, (rd_T138 y223 x5).f2, (rd_T138 y223 x5).f3, wrap64 ((wrap64 ((wrap64 ((wrap64 (x1 + 1)) + 1)) + 1)) + 1)⟩ : S138)) (wrap64 ((wrap64 ((wrap64 ((wrap64 ((wrap64 (x1 + 1)) + 1)) + 1)) + 1)) + 1)) (wrap64 (x5 + 1))))))) else (none)) else (some (x1, x0))
def laws_markHandS.f (k : Nat) (l0 : List (S138)) (a1 : Int) : Option (Int × (List (S138))) := laws_markHandS.l0 k l0 a1 0
set_option maxHeartbeats 8000000 in
set_option maxRecDepth 100000 in
theorem laws_markHandS.calls (k : Nat) (P0_ : Nat → Prop) (u9000_ : Value) (l0 : List (S138)) (a1 : Int) (r1 : Int) (r2 : List (S138)) (w0 w : World) (hB : Below w0.heap.size w0 w) (ho0 : Kd.R k138 138 w w0.heap.size P0_ u9000_ l0) (h : laws_markHandS.f k l0 a1 = some (r1, r2)) :
  Calls Try.prog 54 #[u9000_, .int .i64 a1] w fun e w' => e = .returned (.int .i64 r1) ∧ Kd.R k138 138 w' w0.heap.size (fun k_ => (P0_ k_ ∨ w.heap.size ≤ k_)) u9000_ r2 ∧ Below w0.heap.size w0 w' ∧ Kept w w' (fun k_ => P0_ k_) := by
 have HO0 := zK (show Kd.R k138 138 w w0.heap.size (fun k_ => (P0_ k_ ∨ w.heap.size ≤ k_)) u9000_ l0 from Kd.R_mono ho0 (fun k_ hk => (.inl hk)))
 have HK := zK (Kept.refl w (fun k_ => P0_ k_))
 have HW0 := zK hB.size
 have HB := zK hB
 clear hB
 have H : (laws_markHandS.l0 k l0 a1 0) = some (r1, r2) := h
 clear h
 have H' := zK H
 clear H
 go_enter Try.func54, Try.ntmps54
 go_wp2
 go_loopg [1, 5] k (fun kq v1 v5 w' => ∃ (x0_1 : List (S138)) (x1_1 : Int) (x5_1 : Int), v1 = .int .i64 x1_1 ∧ v5 = .int .i64 x5_1 ∧ Aside0 (laws_markHandS.l0 kq x0_1 x1_1 x5_1 = some (r1, r2)) ∧ Aside0 (kq ≤ k) ∧ Aside0 (Kd.R k138 138 w' w0.heap.size (fun k_ => (P0_ k_ ∨ w.heap.size ≤ k_)) u9000_ x0_1) ∧ Aside0 (Kept w w' (fun k_ => P0_ k_)) ∧ Aside0 (Below w0.heap.size w0 w'))
 case atStart => exact ⟨(l0), (a1), (0), M3, M3, H', ⟨Nat.le_refl _⟩, ⟨by exact Kd.qR HO0.out⟩, ⟨by repeat (first | (with_reducible first | exact HK.out | apply Kept.alloc | apply Kept.drewN | apply Kept.drew) | exact HK.out)⟩, ⟨by exact qB HB.out⟩⟩
 case round =>
  clear H'
  try clear p2
  obtain ⟨x0_1, x1_1, x5_1, rfl, rfl, HA, HK1, HO_0, HK, HB⟩ := hrel
  cases gk with
  | zero => exact absurd HA.out (by simp [laws_markHandS.l0])
  | succ k1 =>
   have H := HA.out
   clear HA
   simp only [laws_markHandS.l0] at H
   by_cases c3 : x5_1 < (x0_1.length : Int)
   rotate_left
   ·rw [if_neg c3] at H
    have c3b0 : decide (x5_1 < (x0_1.length : Int)) = false := decide_eq_false c3
    clear c3
    simp only [Option.some.injEq, Prod.mk.injEq] at H
    obtain ⟨rfl, rfl⟩ := H
    obtain ⟨Ao21, co21, eo21⟩ := Kd.R_slice HO_0.out
    subst eo21
    go_wp2
    go_ret
    exact ⟨by first | rfl | (simp [errW_none, errW_some] <;> rfl) | (simp [*, errW_none, errW_some] <;> rfl), by exact Kd.qR HO_0.out, by exact qB HB.out, by repeat (first | (with_reducible first | exact HK.out | apply Kept.alloc | apply Kept.drewN | apply Kept.drew) | exact HK.out)⟩
   rw [if_pos c3] at H
   have c3b0 : decide (x5_1 < (x0_1.length : Int)) = true := decide_eq_true c3
   clear c3
   by_cases c4 : 0 ≤ x5_1
   rotate_left
   ·rw [if_neg c4] at H
    exact absurd H (by simp)
   rw [if_pos c4] at H
   have c4b0 : decide (0 ≤ x5_1) = true := decide_eq_true c4
   clear c4
   obtain ⟨y220, hy220⟩ : ∃ y_ : List (S138), y_ = (x0_1.set (x5_1 : Int).toNat (⟨x1_1, (rd_T138 x0_1 x5_1).f1, (rd_T138 x0_1 x5_1).f2, (rd_T138 x0_1 x5_1).f3, (rd_T138 x0_1 x5_1).f4⟩ : S138)) := ⟨_, rfl⟩
   replace H : ((some (y220.set (x5_1 : Int).toNat (⟨(rd_T138 y220 x5_1).f0, wrap64 (x1_1 + 1), (rd_T138 y220 x5_1).f2, (rd_T138 y220 x5_1).f3, (rd_T138 y220 x5_1).f4⟩ : S138) : List (S138))).bind fun y221 => ((some (y221.set (x5_1 : Int).toNat (⟨(rd_T138 y221 x5_1).f0, (rd_T138 y221 x5_1).f1, wrap64 ((wrap64 (x1_1 + 1)) + 1), (rd_T138 y221 x5_1).f3, (rd_T138 y221 x5_1).f4⟩ : S138) : List (S138))).bind fun y222 => ((some (y222.set (x5_1 : Int).toNat (⟨(rd_T138 y222 x5_1).f0, (rd_T138 y222 x5_1).f1, (rd_T138 y222 x5_1).f2, wrap64 ((wrap64 ((wrap64 (x1_1 + 1)) + 1)) + 1), (rd_T138 y222 x5_1).f4⟩ : S138) : List (S138))).bind fun y223 => (laws_markHandS.l0 k1 (y223.set (x5_1 : Int).toNat (⟨(rd_T138 y223 x5_1).f0, (rd_T138 y223 x5_1).f1, (rd_T138 y223 x5_1).f2, (rd_T138 y223 x5_1).f3, wrap64 ((wrap64 ((wrap64 ((wrap64 (x1_1 + 1)) + 1)) + 1)) + 1)⟩ : S138)) (wrap64 ((wrap64 ((wrap64 ((wrap64 ((wrap64 (x1_1 + 1)) + 1)) + 1)) + 1)) + 1)) (wrap64 (x5_1 + 1)))))) = some (r1, r2) := by first | (rw [hy220]; with_reducible exact H) | (have H2_ := (Option.bind_some _ _).symm.trans H; rw [hy220]; with_reducible exact H2_) | (have H2_ := (Option.bind_some _ _).symm.trans H; with_reducible exact H2_) | with_reducible exact H | (rw [hy220]; exact H) | exact H
   have Ny220 := zK hy220
   clear hy220
   obtain ⟨y221, hy221⟩ : ∃ y_ : List (S138), y_ = (y220.set (x5_1 : Int).toNat (⟨(rd_T138 y220 x5_1).f0, wrap64 (x1_1 + 1), (rd_T138 y220 x5_1).f2, (rd_T138 y220 x5_1).f3, (rd_T138 y220 x5_1).f4⟩ : S138)) := ⟨_, rfl⟩
   replace H : ((some (y221.set (x5_1 : Int).toNat (⟨(rd_T138 y221 x5_1).f0, (rd_T138 y221 x5_1).f1, wrap64 ((wrap64 (x1_1 + 1)) + 1), (rd_T138 y221 x5_1).f3, (rd_T138 y221 x5_1).f4⟩ : S138) : List (S138))).bind fun y222 => ((some (y222.set (x5_1 : Int).toNat (⟨(rd_T138 y222 x5_1).f0, (rd_T138 y222 x5_1).f1, (rd_T138 y222 x5_1).f2, wrap64 ((wrap64 ((wrap64 (x1_1 + 1)) + 1)) + 1), (rd_T138 y222 x5_1).f4⟩ : S138) : List (S138))).bind fun y223 => (laws_markHandS.l0 k1 (y223.set (x5_1 : Int).toNat (⟨(rd_T138 y223 x5_1).f0, (rd_T138 y223 x5_1).f1, (rd_T138 y223 x5_1).f2, (rd_T138 y223 x5_1).f3, wrap64 ((wrap64 ((wrap64 ((wrap64 (x1_1 + 1)) + 1)) + 1)) + 1)⟩ : S138)) (wrap64 ((wrap64 ((wrap64 ((wrap64 ((wrap64 (x1_1 + 1)) + 1)) + 1)) + 1)) + 1)) (wrap64 (x5_1 + 1))))) = some (r1, r2) := by first | (rw [hy221]; with_reducible exact H) | (have H2_ := (Option.bind_some _ _).symm.trans H; rw [hy221]; with_reducible exact H2_) | (have H2_ := (Option.bind_some _ _).symm.trans H; with_reducible exact H2_) | with_reducible exact H | (rw [hy221]; exact H) | exact H
   have Ny221 := zK hy221
   clear hy221
   obtain ⟨y222, hy222⟩ : ∃ y_ : List (S138), y_ = (y221.set (x5_1 : Int).toNat (⟨(rd_T138 y221 x5_1).f0, (rd_T138 y221 x5_1).f1, wrap64 ((wrap64 (x1_1 + 1)) + 1), (rd_T138 y221 x5_1).f3, (rd_T138 y221 x5_1).f4⟩ : S138)) := ⟨_, rfl⟩
   replace H : ((some (y222.set (x5_1 : Int).toNat (⟨(rd_T138 y222 x5_1).f0, (rd_T138 y222 x5_1).f1, (rd_T138 y222 x5_1).f2, wrap64 ((wrap64 ((wrap64 (x1_1 + 1)) + 1)) + 1), (rd_T138 y222 x5_1).f4⟩ : S138) : List (S138))).bind fun y223 => (laws_markHandS.l0 k1 (y223.set (x5_1 : Int).toNat (⟨(rd_T138 y223 x5_1).f0, (rd_T138 y223 x5_1).f1, (rd_T138 y223 x5_1).f2, (rd_T138 y223 x5_1).f3, wrap64 ((wrap64 ((wrap64 ((wrap64 (x1_1 + 1)) + 1)) + 1)) + 1)⟩ : S138)) (wrap64 ((wrap64 ((wrap64 ((wrap64 ((wrap64 (x1_1 + 1)) + 1)) + 1)) + 1)) + 1)) (wrap64 (x5_1 + 1)))) = some (r1, r2) := by first | (rw [hy222]; with_reducible exact H) | (have H2_ := (Option.bind_some _ _).symm.trans H; rw [hy222]; with_reducible exact H2_) | (have H2_ := (Option.bind_some _ _).symm.trans H; with_reducible exact H2_) | with_reducible exact H | (rw [hy222]; exact H) | exact H
   have Ny222 := zK hy222
   clear hy222
   obtain ⟨y223, hy223⟩ : ∃ y_ : List (S138), y_ = (y222.set (x5_1 : Int).toNat (⟨(rd_T138 y222 x5_1).f0, (rd_T138 y222 x5_1).f1, (rd_T138 y222 x5_1).f2, wrap64 ((wrap64 ((wrap64 (x1_1 + 1)) + 1)) + 1), (rd_T138 y222 x5_1).f4⟩ : S138)) := ⟨_, rfl⟩
   replace H : (laws_markHandS.l0 k1 (y223.set (x5_1 : Int).toNat (⟨(rd_T138 y223 x5_1).f0, (rd_T138 y223 x5_1).f1, (rd_T138 y223 x5_1).f2, (rd_T138 y223 x5_1).f3, wrap64 ((wrap64 ((wrap64 ((wrap64 (x1_1 + 1)) + 1)) + 1)) + 1)⟩ : S138)) (wrap64 ((wrap64 ((wrap64 ((wrap64 ((wrap64 (x1_1 + 1)) + 1)) + 1)) + 1)) + 1)) (wrap64 (x5_1 + 1))) = some (r1, r2) := by first | (rw [hy223]; with_reducible exact H) | (have H2_ := (Option.bind_some _ _).symm.trans H; rw [hy223]; with_reducible exact H2_) | (have H2_ := (Option.bind_some _ _).symm.trans H; with_reducible exact H2_) | with_reducible exact H | (rw [hy223]; exact H) | exact H
   have Ny223 := zK hy223
   clear hy223
   obtain ⟨y224, hy224⟩ : ∃ y_ : List (S138), y_ = (y223.set (x5_1 : Int).toNat (⟨(rd_T138 y223 x5_1).f0, (rd_T138 y223 x5_1).f1, (rd_T138 y223 x5_1).f2, (rd_T138 y223 x5_1).f3, wrap64 ((wrap64 ((wrap64 ((wrap64 (x1_1 + 1)) + 1)) + 1)) + 1)⟩ : S138)) := ⟨_, rfl⟩
   replace H : (laws_markHandS.l0 k1 y224 (wrap64 ((wrap64 ((wrap64 ((wrap64 ((wrap64 (x1_1 + 1)) + 1)) + 1)) + 1)) + 1)) (wrap64 (x5_1 + 1))) = some (r1, r2) := by first | (rw [hy224]; with_reducible exact H) | (have H2_ := (Option.bind_some _ _).symm.trans H; rw [hy224]; with_reducible exact H2_) | (have H2_ := (Option.bind_some _ _).symm.trans H; with_reducible exact H2_) | with_reducible exact H | (rw [hy224]; exact H) | exact H
   have Ny224 := zK hy224
   clear hy224
   have H' := zK H
   clear H
   obtain ⟨Ao10, co10, eo10⟩ := Kd.R_slice HO_0.out
   subst eo10
   have p5 : 0 ≤ (x5_1 : Int) := oD M1
   have q5 : (x5_1 : Int) < ((x0_1.length : Int) : Int) := oD M1
   obtain ⟨go5, co5, eo5, gb5, gl5, cl5, HG5⟩ := Kd.R_form HO_0.out (by omega)
   (first | cases eo5 | (injection eo5 with ea_ en_ ec_; (first | subst ea_ | (injection ea_ with ea_; subst ea_)); subst ec_; clear en_))
   have GB5 := zK gb5
   have GG5 := zK HG5
   clear gb5 gl5 HG5
   have HMgo5 := zK (show (P0_ go5 ∨ w.heap.size ≤ go5) from (HO_0.out.1 _ rfl))
   obtain ⟨ce5, hcl5, hM5, hcc5, hfr5⟩ := Kd.R_elem HO_0.out z138 (x5_1 : Int) p5 q5
   obtain rfl := k138_openM hM5
   have hx5_0 : wr.cell? ⟨go5, (x5_1 : Int).toNat * 5, none⟩ = some (.int .i64 ((rd_T138 x0_1 x5_1).f0)) := hcc5 0 _ rfl
   have hx5_1 : wr.cell? ⟨go5, (x5_1 : Int).toNat * 5 + 1, none⟩ = some (.int .i64 ((rd_T138 x0_1 x5_1).f1)) := hcc5 1 _ rfl
   have hx5_2 : wr.cell? ⟨go5, (x5_1 : Int).toNat * 5 + 2, none⟩ = some (.int .i64 ((rd_T138 x0_1 x5_1).f2)) := hcc5 2 _ rfl
   have hx5_3 : wr.cell? ⟨go5, (x5_1 : Int).toNat * 5 + 3, none⟩ = some (.int .i64 ((rd_T138 x0_1 x5_1).f3)) := hcc5 3 _ rfl
   have hx5_4 : wr.cell? ⟨go5, (x5_1 : Int).toNat * 5 + 4, none⟩ = some (.int .i64 ((rd_T138 x0_1 x5_1).f4)) := hcc5 4 _ rfl
   have hf5_0 : wr.frozen? ⟨go5, (x5_1 : Int).toNat * 5, none⟩ = false := hfr5 0
   have hf5_1 : wr.frozen? ⟨go5, (x5_1 : Int).toNat * 5 + 1, none⟩ = false := hfr5 1
   have hf5_2 : wr.frozen? ⟨go5, (x5_1 : Int).toNat * 5 + 2, none⟩ = false := hfr5 2
   have hf5_3 : wr.frozen? ⟨go5, (x5_1 : Int).toNat * 5 + 3, none⟩ = false := hfr5 3
   have hf5_4 : wr.frozen? ⟨go5, (x5_1 : Int).toNat * 5 + 4, none⟩ = false := hfr5 4
   clear hcl5 hcc5 hfr5 hM5
   replace p5 := eq_true p5
   replace q5 := eq_true q5
   have HX11 := zK (show Kd.R k138 138 wr w0.heap.size (fun k_ => (P0_ k_ ∨ w.heap.size ≤ k_)) (.slice (some ⟨go5, 0, none⟩) x0_1.length co10) x0_1 from (Kd.qR HO_0.out))
   obtain ⟨ce11, hcl11, hM11, hcc11, hfr11⟩ := Kd.R_elem HX11.out z138 (x5_1 : Int) (oD M1) (by have h_ : (x5_1 : Int) < ((x0_1.length : Int) : Int) := oD M1; first | exact h_ | (have e_ := (Kd.R_reads' HO_0.out).1; omega) | simpa using h_)
   obtain rfl := k138_openM hM11
   have HP11 := Kd.R_seg HX11.out (x5_1 : Int) (oD M1) (by have h_ : (x5_1 : Int) < ((x0_1.length : Int) : Int) := oD M1; first | exact h_ | (have e_ := (Kd.R_reads' HO_0.out).1; omega) | simpa using h_) (seg := [.int .i64 x1_1]) (j := 0) hcl11 hcc11 (show 1 ≤ 5 from by decide) (x' := (⟨x1_1, (rd_T138 x0_1 x5_1).f1, (rd_T138 x0_1 x5_1).f2, (rd_T138 x0_1 x5_1).f3, (rd_T138 x0_1 x5_1).f4⟩ : S138)) (k138_mkM _ _ _ (⟨x1_1, (rd_T138 x0_1 x5_1).f1, (rd_T138 x0_1 x5_1).f2, (rd_T138 x0_1 x5_1).f3, (rd_T138 x0_1 x5_1).f4⟩ : S138) ) (fun _ hk => hk)
   have hx11_0 := hcc11 0 _ rfl
   (try simp only [show (k138).sz = 5 from rfl, Nat.mul_one, Nat.add_zero] at hx11_0)
   have hf11_0 := hfr11 0
   (try simp only [show (k138).sz = 5 from rfl, Nat.mul_one, Nat.add_zero] at hf11_0)
   clear hcl11 hcc11 hfr11 hM11
   go_wp2_with (first | ((with_reducible refine gate_store (t := 3) (p := 16) rfl ?_); refine store_event (t := 3) (p := 16) (v := ?vo_w12) (w1 := (wr.setCell ⟨go5, (x5_1 : Int).toNat * 5, none⟩ (.int .i64 x1_1))) ?hg ?ho ?hn ?hr ?_; (case ho => rfl); (case hg => rfl); (case hn => rfl); (case hr => first | (go_simp; done) | (go_simp; rfl)); intro w12 hw; have hg : wr.grownBy w12 (some go5) := (by rw [hw]; exact HP11.2); have hp_ : Kd.R k138 138 w12 w0.heap.size (fun k_ => (P0_ k_ ∨ w.heap.size ≤ k_)) (.slice (some ⟨go5, 0, none⟩) x0_1.length co10) y220 := (by rw [hw, Ny220.out]; exact HP11.1); clear HP11; have n0_ := zK (hp_); have n1_ := zK ((by rw [hw]; exact bS (HB.out) GB5.out : Below w0.heap.size w0 w12)); have n2_ := zK (Kept.of_grown (S := (fun k_ => P0_ k_)) hg M14 (fun k_ e_ => (HO_0.out.1 k_ e_))); clear HO_0 HB HK; have HO_0 := n0_; have HB := n1_; have HK := n2_; clear n0_ n1_ n2_; clear hg hw hp_; have p6 : 0 ≤ (x5_1 : Int) := oD M1; have q6 : (x5_1 : Int) < ((x0_1.length : Int) : Int) := oD M1; obtain ⟨ce6, hcl6, hM6, hcc6, hfr6⟩ := Kd.R_elem HO_0.out z138 (x5_1 : Int) p6 q6; obtain rfl := k138_openM hM6; have hx6_0 : w12.cell? ⟨go5, (x5_1 : Int).toNat * 5, none⟩ = some (.int .i64 ((rd_T138 y220 x5_1).f0)) := hcc6 0 _ rfl; have hx6_1 : w12.cell? ⟨go5, (x5_1 : Int).toNat * 5 + 1, none⟩ = some (.int .i64 ((rd_T138 y220 x5_1).f1)) := hcc6 1 _ rfl; have hx6_2 : w12.cell? ⟨go5, (x5_1 : Int).toNat * 5 + 2, none⟩ = some (.int .i64 ((rd_T138 y220 x5_1).f2)) := hcc6 2 _ rfl; have hx6_3 : w12.cell? ⟨go5, (x5_1 : Int).toNat * 5 + 3, none⟩ = some (.int .i64 ((rd_T138 y220 x5_1).f3)) := hcc6 3 _ rfl; have hx6_4 : w12.cell? ⟨go5, (x5_1 : Int).toNat * 5 + 4, none⟩ = some (.int .i64 ((rd_T138 y220 x5_1).f4)) := hcc6 4 _ rfl; have hf6_0 : w12.frozen? ⟨go5, (x5_1 : Int).toNat * 5, none⟩ = false := hfr6 0; have hf6_1 : w12.frozen? ⟨go5, (x5_1 : Int).toNat * 5 + 1, none⟩ = false := hfr6 1; have hf6_2 : w12.frozen? ⟨go5, (x5_1 : Int).toNat * 5 + 2, none⟩ = false := hfr6 2; have hf6_3 : w12.frozen? ⟨go5, (x5_1 : Int).toNat * 5 + 3, none⟩ = false := hfr6 3; have hf6_4 : w12.frozen? ⟨go5, (x5_1 : Int).toNat * 5 + 4, none⟩ = false := hfr6 4; clear hcl6 hcc6 hfr6 hM6; replace p6 := eq_true p6; replace q6 := eq_true q6; have HX13 := zK (show Kd.R k138 138 w12 w0.heap.size (fun k_ => (P0_ k_ ∨ w.heap.size ≤ k_)) (.slice (some ⟨go5, 0, none⟩) x0_1.length co10) y220 from (Kd.qR HO_0.out)); obtain ⟨ce13, hcl13, hM13, hcc13, hfr13⟩ := Kd.R_elem HX13.out z138 (x5_1 : Int) (oD M1) (by have h_ : (x5_1 : Int) < ((x0_1.length : Int) : Int) := oD M1; first | exact h_ | (have e_ := (Kd.R_reads' HO_0.out).1; omega) | simpa using h_); obtain rfl := k138_openM hM13; have HP13 := Kd.R_seg HX13.out (x5_1 : Int) (oD M1) (by have h_ : (x5_1 : Int) < ((x0_1.length : Int) : Int) := oD M1; first | exact h_ | (have e_ := (Kd.R_reads' HO_0.out).1; omega) | simpa using h_) (seg := [.int .i64 (wrap64 (x1_1 + 1))]) (j := 1) hcl13 hcc13 (show 2 ≤ 5 from by decide) (x' := (⟨(rd_T138 y220 x5_1).f0, wrap64 (x1_1 + 1), (rd_T138 y220 x5_1).f2, (rd_T138 y220 x5_1).f3, (rd_T138 y220 x5_1).f4⟩ : S138)) (k138_mkM _ _ _ (⟨(rd_T138 y220 x5_1).f0, wrap64 (x1_1 + 1), (rd_T138 y220 x5_1).f2, (rd_T138 y220 x5_1).f3, (rd_T138 y220 x5_1).f4⟩ : S138) ) (fun _ hk => hk); have hx13_1 := hcc13 1 _ rfl; (try simp only [show (k138).sz = 5 from rfl, Nat.mul_one, Nat.add_zero] at hx13_1); have hf13_1 := hfr13 1; (try simp only [show (k138).sz = 5 from rfl, Nat.mul_one, Nat.add_zero] at hf13_1); clear hcl13 hcc13 hfr13 hM13) | ((with_reducible refine gate_store (t := 3) (p := 23) rfl ?_); refine store_event (t := 3) (p := 23) (v := ?vo_w14) (w1 := (w12.setCell ⟨go5, (x5_1 : Int).toNat * 5 + 1, none⟩ (.int .i64 (wrap64 (x1_1 + 1))))) ?hg ?ho ?hn ?hr ?_; (case ho => rfl); (case hg => rfl); (case hn => rfl); (case hr => first | (go_simp; done) | (go_simp; rfl)); intro w14 hw; have hg : w12.grownBy w14 (some go5) := (by rw [hw]; exact HP13.2); have hp_ : Kd.R k138 138 w14 w0.heap.size (fun k_ => (P0_ k_ ∨ w.heap.size ≤ k_)) (.slice (some ⟨go5, 0, none⟩) x0_1.length co10) y221 := (by rw [hw, Ny221.out]; exact HP13.1); clear HP13; have n0_ := zK (hp_); have n1_ := zK ((by rw [hw]; exact bS (HB.out) GB5.out : Below w0.heap.size w0 w14)); have n2_ := zK (Kept.of_grown (S := (fun k_ => P0_ k_)) hg M14 (fun k_ e_ => (HO_0.out.1 k_ e_))); clear HO_0 HB HK; have HO_0 := n0_; have HB := n1_; have HK := n2_; clear n0_ n1_ n2_; clear hg hw hp_; have p7 : 0 ≤ (x5_1 : Int) := oD M1; have q7 : (x5_1 : Int) < ((x0_1.length : Int) : Int) := oD M1; obtain ⟨ce7, hcl7, hM7, hcc7, hfr7⟩ := Kd.R_elem HO_0.out z138 (x5_1 : Int) p7 q7; obtain rfl := k138_openM hM7; have hx7_0 : w14.cell? ⟨go5, (x5_1 : Int).toNat * 5, none⟩ = some (.int .i64 ((rd_T138 y221 x5_1).f0)) := hcc7 0 _ rfl; have hx7_1 : w14.cell? ⟨go5, (x5_1 : Int).toNat * 5 + 1, none⟩ = some (.int .i64 ((rd_T138 y221 x5_1).f1)) := hcc7 1 _ rfl; have hx7_2 : w14.cell? ⟨go5, (x5_1 : Int).toNat * 5 + 2, none⟩ = some (.int .i64 ((rd_T138 y221 x5_1).f2)) := hcc7 2 _ rfl; have hx7_3 : w14.cell? ⟨go5, (x5_1 : Int).toNat * 5 + 3, none⟩ = some (.int .i64 ((rd_T138 y221 x5_1).f3)) := hcc7 3 _ rfl; have hx7_4 : w14.cell? ⟨go5, (x5_1 : Int).toNat * 5 + 4, none⟩ = some (.int .i64 ((rd_T138 y221 x5_1).f4)) := hcc7 4 _ rfl; have hf7_0 : w14.frozen? ⟨go5, (x5_1 : Int).toNat * 5, none⟩ = false := hfr7 0; have hf7_1 : w14.frozen? ⟨go5, (x5_1 : Int).toNat * 5 + 1, none⟩ = false := hfr7 1; have hf7_2 : w14.frozen? ⟨go5, (x5_1 : Int).toNat * 5 + 2, none⟩ = false := hfr7 2; have hf7_3 : w14.frozen? ⟨go5, (x5_1 : Int).toNat * 5 + 3, none⟩ = false := hfr7 3; have hf7_4 : w14.frozen? ⟨go5, (x5_1 : Int).toNat * 5 + 4, none⟩ = false := hfr7 4; clear hcl7 hcc7 hfr7 hM7; replace p7 := eq_true p7; replace q7 := eq_true q7; have HX15 := zK (show Kd.R k138 138 w14 w0.heap.size (fun k_ => (P0_ k_ ∨ w.heap.size ≤ k_)) (.slice (some ⟨go5, 0, none⟩) x0_1.length co10) y221 from (Kd.qR HO_0.out)); obtain ⟨ce15, hcl15, hM15, hcc15, hfr15⟩ := Kd.R_elem HX15.out z138 (x5_1 : Int) (oD M1) (by have h_ : (x5_1 : Int) < ((x0_1.length : Int) : Int) := oD M1; first | exact h_ | (have e_ := (Kd.R_reads' HO_0.out).1; omega) | simpa using h_); obtain rfl := k138_openM hM15; have HP15 := Kd.R_seg HX15.out (x5_1 : Int) (oD M1) (by have h_ : (x5_1 : Int) < ((x0_1.length : Int) : Int) := oD M1; first | exact h_ | (have e_ := (Kd.R_reads' HO_0.out).1; omega) | simpa using h_) (seg := [.int .i64 (wrap64 ((wrap64 (x1_1 + 1)) + 1))]) (j := 2) hcl15 hcc15 (show 3 ≤ 5 from by decide) (x' := (⟨(rd_T138 y221 x5_1).f0, (rd_T138 y221 x5_1).f1, wrap64 ((wrap64 (x1_1 + 1)) + 1), (rd_T138 y221 x5_1).f3, (rd_T138 y221 x5_1).f4⟩ : S138)) (k138_mkM _ _ _ (⟨(rd_T138 y221 x5_1).f0, (rd_T138 y221 x5_1).f1, wrap64 ((wrap64 (x1_1 + 1)) + 1), (rd_T138 y221 x5_1).f3, (rd_T138 y221 x5_1).f4⟩ : S138) ) (fun _ hk => hk); have hx15_2 := hcc15 2 _ rfl; (try simp only [show (k138).sz = 5 from rfl, Nat.mul_one, Nat.add_zero] at hx15_2); have hf15_2 := hfr15 2; (try simp only [show (k138).sz = 5 from rfl, Nat.mul_one, Nat.add_zero] at hf15_2); clear hcl15 hcc15 hfr15 hM15) | ((with_reducible refine gate_store (t := 3) (p := 30) rfl ?_); refine store_event (t := 3) (p := 30) (v := ?vo_w16) (w1 := (w14.setCell ⟨go5, (x5_1 : Int).toNat * 5 + 2, none⟩ (.int .i64 (wrap64 ((wrap64 (x1_1 + 1)) + 1))))) ?hg ?ho ?hn ?hr ?_; (case ho => rfl); (case hg => rfl); (case hn => rfl); (case hr => first | (go_simp; done) | (go_simp; rfl)); intro w16 hw; have hg : w14.grownBy w16 (some go5) := (by rw [hw]; exact HP15.2); have hp_ : Kd.R k138 138 w16 w0.heap.size (fun k_ => (P0_ k_ ∨ w.heap.size ≤ k_)) (.slice (some ⟨go5, 0, none⟩) x0_1.length co10) y222 := (by rw [hw, Ny222.out]; exact HP15.1); clear HP15; have n0_ := zK (hp_); have n1_ := zK ((by rw [hw]; exact bS (HB.out) GB5.out : Below w0.heap.size w0 w16)); have n2_ := zK (Kept.of_grown (S := (fun k_ => P0_ k_)) hg M14 (fun k_ e_ => (HO_0.out.1 k_ e_))); clear HO_0 HB HK; have HO_0 := n0_; have HB := n1_; have HK := n2_; clear n0_ n1_ n2_; clear hg hw hp_; have p8 : 0 ≤ (x5_1 : Int) := oD M1; have q8 : (x5_1 : Int) < ((x0_1.length : Int) : Int) := oD M1; obtain ⟨ce8, hcl8, hM8, hcc8, hfr8⟩ := Kd.R_elem HO_0.out z138 (x5_1 : Int) p8 q8; obtain rfl := k138_openM hM8; have hx8_0 : w16.cell? ⟨go5, (x5_1 : Int).toNat * 5, none⟩ = some (.int .i64 ((rd_T138 y222 x5_1).f0)) := hcc8 0 _ rfl; have hx8_1 : w16.cell? ⟨go5, (x5_1 : Int).toNat * 5 + 1, none⟩ = some (.int .i64 ((rd_T138 y222 x5_1).f1)) := hcc8 1 _ rfl; have hx8_2 : w16.cell? ⟨go5, (x5_1 : Int).toNat * 5 + 2, none⟩ = some (.int .i64 ((rd_T138 y222 x5_1).f2)) := hcc8 2 _ rfl; have hx8_3 : w16.cell? ⟨go5, (x5_1 : Int).toNat * 5 + 3, none⟩ = some (.int .i64 ((rd_T138 y222 x5_1).f3)) := hcc8 3 _ rfl; have hx8_4 : w16.cell? ⟨go5, (x5_1 : Int).toNat * 5 + 4, none⟩ = some (.int .i64 ((rd_T138 y222 x5_1).f4)) := hcc8 4 _ rfl; have hf8_0 : w16.frozen? ⟨go5, (x5_1 : Int).toNat * 5, none⟩ = false := hfr8 0; have hf8_1 : w16.frozen? ⟨go5, (x5_1 : Int).toNat * 5 + 1, none⟩ = false := hfr8 1; have hf8_2 : w16.frozen? ⟨go5, (x5_1 : Int).toNat * 5 + 2, none⟩ = false := hfr8 2; have hf8_3 : w16.frozen? ⟨go5, (x5_1 : Int).toNat * 5 + 3, none⟩ = false := hfr8 3; have hf8_4 : w16.frozen? ⟨go5, (x5_1 : Int).toNat * 5 + 4, none⟩ = false := hfr8 4; clear hcl8 hcc8 hfr8 hM8; replace p8 := eq_true p8; replace q8 := eq_true q8; have HX17 := zK (show Kd.R k138 138 w16 w0.heap.size (fun k_ => (P0_ k_ ∨ w.heap.size ≤ k_)) (.slice (some ⟨go5, 0, none⟩) x0_1.length co10) y222 from (Kd.qR HO_0.out)); obtain ⟨ce17, hcl17, hM17, hcc17, hfr17⟩ := Kd.R_elem HX17.out z138 (x5_1 : Int) (oD M1) (by have h_ : (x5_1 : Int) < ((x0_1.length : Int) : Int) := oD M1; first | exact h_ | (have e_ := (Kd.R_reads' HO_0.out).1; omega) | simpa using h_); obtain rfl := k138_openM hM17; have HP17 := Kd.R_seg HX17.out (x5_1 : Int) (oD M1) (by have h_ : (x5_1 : Int) < ((x0_1.length : Int) : Int) := oD M1; first | exact h_ | (have e_ := (Kd.R_reads' HO_0.out).1; omega) | simpa using h_) (seg := [.int .i64 (wrap64 ((wrap64 ((wrap64 (x1_1 + 1)) + 1)) + 1))]) (j := 3) hcl17 hcc17 (show 4 ≤ 5 from by decide) (x' := (⟨(rd_T138 y222 x5_1).f0, (rd_T138 y222 x5_1).f1, (rd_T138 y222 x5_1).f2, wrap64 ((wrap64 ((wrap64 (x1_1 + 1)) + 1)) + 1), (rd_T138 y222 x5_1).f4⟩ : S138)) (k138_mkM _ _ _ (⟨(rd_T138 y222 x5_1).f0, (rd_T138 y222 x5_1).f1, (rd_T138 y222 x5_1).f2, wrap64 ((wrap64 ((wrap64 (x1_1 + 1)) + 1)) + 1), (rd_T138 y222 x5_1).f4⟩ : S138) ) (fun _ hk => hk); have hx17_3 := hcc17 3 _ rfl; (try simp only [show (k138).sz = 5 from rfl, Nat.mul_one, Nat.add_zero] at hx17_3); have hf17_3 := hfr17 3; (try simp only [show (k138).sz = 5 from rfl, Nat.mul_one, Nat.add_zero] at hf17_3); clear hcl17 hcc17 hfr17 hM17) | ((with_reducible refine gate_store (t := 3) (p := 37) rfl ?_); refine store_event (t := 3) (p := 37) (v := ?vo_w18) (w1 := (w16.setCell ⟨go5, (x5_1 : Int).toNat * 5 + 3, none⟩ (.int .i64 (wrap64 ((wrap64 ((wrap64 (x1_1 + 1)) + 1)) + 1))))) ?hg ?ho ?hn ?hr ?_; (case ho => rfl); (case hg => rfl); (case hn => rfl); (case hr => first | (go_simp; done) | (go_simp; rfl)); intro w18 hw; have hg : w16.grownBy w18 (some go5) := (by rw [hw]; exact HP17.2); have hp_ : Kd.R k138 138 w18 w0.heap.size (fun k_ => (P0_ k_ ∨ w.heap.size ≤ k_)) (.slice (some ⟨go5, 0, none⟩) x0_1.length co10) y223 := (by rw [hw, Ny223.out]; exact HP17.1); clear HP17; have n0_ := zK (hp_); have n1_ := zK ((by rw [hw]; exact bS (HB.out) GB5.out : Below w0.heap.size w0 w18)); have n2_ := zK (Kept.of_grown (S := (fun k_ => P0_ k_)) hg M14 (fun k_ e_ => (HO_0.out.1 k_ e_))); clear HO_0 HB HK; have HO_0 := n0_; have HB := n1_; have HK := n2_; clear n0_ n1_ n2_; clear hg hw hp_; have p9 : 0 ≤ (x5_1 : Int) := oD M1; have q9 : (x5_1 : Int) < ((x0_1.length : Int) : Int) := oD M1; obtain ⟨ce9, hcl9, hM9, hcc9, hfr9⟩ := Kd.R_elem HO_0.out z138 (x5_1 : Int) p9 q9; obtain rfl := k138_openM hM9; have hx9_0 : w18.cell? ⟨go5, (x5_1 : Int).toNat * 5, none⟩ = some (.int .i64 ((rd_T138 y223 x5_1).f0)) := hcc9 0 _ rfl; have hx9_1 : w18.cell? ⟨go5, (x5_1 : Int).toNat * 5 + 1, none⟩ = some (.int .i64 ((rd_T138 y223 x5_1).f1)) := hcc9 1 _ rfl; have hx9_2 : w18.cell? ⟨go5, (x5_1 : Int).toNat * 5 + 2, none⟩ = some (.int .i64 ((rd_T138 y223 x5_1).f2)) := hcc9 2 _ rfl; have hx9_3 : w18.cell? ⟨go5, (x5_1 : Int).toNat * 5 + 3, none⟩ = some (.int .i64 ((rd_T138 y223 x5_1).f3)) := hcc9 3 _ rfl; have hx9_4 : w18.cell? ⟨go5, (x5_1 : Int).toNat * 5 + 4, none⟩ = some (.int .i64 ((rd_T138 y223 x5_1).f4)) := hcc9 4 _ rfl; have hf9_0 : w18.frozen? ⟨go5, (x5_1 : Int).toNat * 5, none⟩ = false := hfr9 0; have hf9_1 : w18.frozen? ⟨go5, (x5_1 : Int).toNat * 5 + 1, none⟩ = false := hfr9 1; have hf9_2 : w18.frozen? ⟨go5, (x5_1 : Int).toNat * 5 + 2, none⟩ = false := hfr9 2; have hf9_3 : w18.frozen? ⟨go5, (x5_1 : Int).toNat * 5 + 3, none⟩ = false := hfr9 3; have hf9_4 : w18.frozen? ⟨go5, (x5_1 : Int).toNat * 5 + 4, none⟩ = false := hfr9 4; clear hcl9 hcc9 hfr9 hM9; replace p9 := eq_true p9; replace q9 := eq_true q9; have HX19 := zK (show Kd.R k138 138 w18 w0.heap.size (fun k_ => (P0_ k_ ∨ w.heap.size ≤ k_)) (.slice (some ⟨go5, 0, none⟩) x0_1.length co10) y223 from (Kd.qR HO_0.out)); obtain ⟨ce19, hcl19, hM19, hcc19, hfr19⟩ := Kd.R_elem HX19.out z138 (x5_1 : Int) (oD M1) (by have h_ : (x5_1 : Int) < ((x0_1.length : Int) : Int) := oD M1; first | exact h_ | (have e_ := (Kd.R_reads' HO_0.out).1; omega) | simpa using h_); obtain rfl := k138_openM hM19; have HP19 := Kd.R_seg HX19.out (x5_1 : Int) (oD M1) (by have h_ : (x5_1 : Int) < ((x0_1.length : Int) : Int) := oD M1; first | exact h_ | (have e_ := (Kd.R_reads' HO_0.out).1; omega) | simpa using h_) (seg := [.int .i64 (wrap64 ((wrap64 ((wrap64 ((wrap64 (x1_1 + 1)) + 1)) + 1)) + 1))]) (j := 4) hcl19 hcc19 (show 5 ≤ 5 from by decide) (x' := (⟨(rd_T138 y223 x5_1).f0, (rd_T138 y223 x5_1).f1, (rd_T138 y223 x5_1).f2, (rd_T138 y223 x5_1).f3, wrap64 ((wrap64 ((wrap64 ((wrap64 (x1_1 + 1)) + 1)) + 1)) + 1)⟩ : S138)) (k138_mkM _ _ _ (⟨(rd_T138 y223 x5_1).f0, (rd_T138 y223 x5_1).f1, (rd_T138 y223 x5_1).f2, (rd_T138 y223 x5_1).f3, wrap64 ((wrap64 ((wrap64 ((wrap64 (x1_1 + 1)) + 1)) + 1)) + 1)⟩ : S138) ) (fun _ hk => hk); have hx19_4 := hcc19 4 _ rfl; (try simp only [show (k138).sz = 5 from rfl, Nat.mul_one, Nat.add_zero] at hx19_4); have hf19_4 := hfr19 4; (try simp only [show (k138).sz = 5 from rfl, Nat.mul_one, Nat.add_zero] at hf19_4); clear hcl19 hcc19 hfr19 hM19) | ((with_reducible refine gate_store (t := 3) (p := 44) rfl ?_); refine store_event (t := 3) (p := 44) (v := ?vo_w20) (w1 := (w18.setCell ⟨go5, (x5_1 : Int).toNat * 5 + 4, none⟩ (.int .i64 (wrap64 ((wrap64 ((wrap64 ((wrap64 (x1_1 + 1)) + 1)) + 1)) + 1))))) ?hg ?ho ?hn ?hr ?_; (case ho => rfl); (case hg => rfl); (case hn => rfl); (case hr => first | (go_simp; done) | (go_simp; rfl)); intro w20 hw; have hg : w18.grownBy w20 (some go5) := (by rw [hw]; exact HP19.2); have hp_ : Kd.R k138 138 w20 w0.heap.size (fun k_ => (P0_ k_ ∨ w.heap.size ≤ k_)) (.slice (some ⟨go5, 0, none⟩) x0_1.length co10) y224 := (by rw [hw, Ny224.out]; exact HP19.1); clear HP19; have n0_ := zK (hp_); have n1_ := zK ((by rw [hw]; exact bS (HB.out) GB5.out : Below w0.heap.size w0 w20)); have n2_ := zK (Kept.of_grown (S := (fun k_ => P0_ k_)) hg M14 (fun k_ e_ => (HO_0.out.1 k_ e_))); clear HO_0 HB HK; have HO_0 := n0_; have HB := n1_; have HK := n2_; clear n0_ n1_ n2_; clear hg hw hp_))
   go_roundg k1
   case measure => have := HK1.out; omega
   case rel => exact ⟨(y224), (wrap64 ((wrap64 ((wrap64 ((wrap64 ((wrap64 (x1_1 + 1)) + 1)) + 1)) + 1)) + 1)), (wrap64 (x5_1 + 1)), M3, M3, H', ⟨by have := HK1.out; omega⟩, ⟨by exact Kd.qR HO_0.out⟩, ⟨by repeat (first | (with_reducible first | exact HK.out | apply Kept.alloc | apply Kept.drewN | apply Kept.drew) | exact HK.out)⟩, ⟨by exact qB HB.out⟩⟩
/-! ### laws_heldHandS: function 56 -/
def laws_heldHandS.l0 : Nat → List (S138) → Int → Int → Option (Int)
 | 0, _, _, _ => none
 | k + 1, x0, x1, x5 => if x5 < (x0.length : Int) then (if 0 ≤ x5 then (if ((rd_T138 x0 x5).f0) = x1 then (if ((rd_T138 x0 x5).f1) = (wrap64 (x1 + 1)) then (if ((rd_T138 x0 x5).f2) = (wrap64 ((wrap64 (x1 + 1)) + 1)) then (if ((rd_T138 x0 x5).f3) = (wrap64 ((wrap64 ((wrap64 (x1 + 1)) + 1)) + 1)) then (if ((rd_T138 x0 x5).f4) = (wrap64 ((wrap64 ((wrap64 ((wrap64 (x1 + 1)) + 1)) + 1)) + 1)) then (laws_heldHandS.l0 k x0 (wrap64 ((wrap64 ((wrap64 ((wrap64 ((wrap64 (x1 + 1)) + 1)) + 1)) + 1)) + 1)) (wrap64 (x5 + 1))) else (some (-1))) else (some (-1))) else (some (-1))) else (some (-1))) else (some (-1))) else (none)) else (some x1)
def laws_heldHandS.f (k : Nat) (l0 : List (S138)) (a1 : Int) : Option (Int) := laws_heldHandS.l0 k l0 a1 0
set_option maxHeartbeats 8000000 in
set_option maxRecDepth 100000 in
theorem laws_heldHandS.calls (k : Nat) (A0 : Option Addr) (c0 : Nat) (l0 : List (S138)) (a1 : Int) (r : Int) (w : World) (hr0 : Kd.C k138 w A0 l0.length l0) (hc0 : l0.length ≤ c0) (h : laws_heldHandS.f k l0 a1 = some r) :
  Calls Try.prog 56 #[.slice A0 l0.length c0, .int .i64 a1] w fun e w' => e = .returned (.int .i64 r) ∧ Drawn0 w w' := by
 have HR0 := zK hr0
 have HC0 := zK hc0
 clear hr0 hc0
 have H : (laws_heldHandS.l0 k l0 a1 0) = some r := h
 clear h
 have H' := zK H
 clear H
 go_enter Try.func56, Try.ntmps56
 go_wp2
 go_loopg [1, 5] k (fun kq v1 v5 w' => ∃ (x1_1 : Int) (x5_1 : Int), v1 = .int .i64 x1_1 ∧ v5 = .int .i64 x5_1 ∧ Aside0 (laws_heldHandS.l0 kq l0 x1_1 x5_1 = some r) ∧ Aside0 (kq ≤ k) ∧ Drawn0 w w')
 case atStart => exact ⟨(a1), (0), M3, M3, H', ⟨Nat.le_refl _⟩, by repeat (first | exact Drawn0.refl _ | apply Drawn0.step)⟩
 case round =>
  clear H'
  try clear p2
  obtain ⟨x1_1, x5_1, rfl, rfl, HA, HK1, ⟨m1, rfl⟩⟩ := hrel
  cases gk with
  | zero => exact absurd HA.out (by simp [laws_heldHandS.l0])
  | succ k1 =>
   have H := HA.out
   clear HA
   simp only [laws_heldHandS.l0] at H
   by_cases c3 : x5_1 < (l0.length : Int)
   rotate_left
   ·rw [if_neg c3] at H
    have c3b0 : decide (x5_1 < (l0.length : Int)) = false := decide_eq_false c3
    clear c3
    obtain rfl := Option.some.inj H
    go_wp2
    go_ret
    exact ⟨by first | rfl | (simp; done) | (simp [*]; done), by repeat (first | exact Drawn0.refl _ | apply Drawn0.step)⟩
   rw [if_pos c3] at H
   have c3b0 : decide (x5_1 < (l0.length : Int)) = true := decide_eq_true c3
   clear c3
   by_cases c4 : 0 ≤ x5_1
   rotate_left
   ·rw [if_neg c4] at H
    exact absurd H (by simp)
   rw [if_pos c4] at H
   have c4b0 : decide (0 ≤ x5_1) = true := decide_eq_true c4
   clear c4
   by_cases c5 : ((rd_T138 l0 x5_1).f0) = x1_1
   rotate_left
   ·rw [if_neg c5] at H
    have c5b0 : (((rd_T138 l0 x5_1).f0) == x1_1) = false := beq_eq_false_iff_ne.mpr c5
    have c5b1 : (((rd_T138 l0 x5_1).f0) != x1_1) = true := bne_iff_ne.mpr c5
    obtain rfl := Option.some.inj H
    have p225 : 0 ≤ (x5_1 : Int) := oD M1
    have q225 : x5_1 < (l0.length : Int) := oD M1
    obtain ⟨ad225, e225, hx225_0, hx225_1, hx225_2, hx225_3, hx225_4⟩ := at_T138 HR0.out x5_1 p225 q225
    cases e225
    replace p225 := eq_true p225
    replace q225 := eq_true q225
    go_wp2
    go_ret
    exact ⟨by first | rfl | (simp; done) | (simp [*]; done), by repeat (first | exact Drawn0.refl _ | apply Drawn0.step)⟩
   rw [if_pos c5] at H
   have c5b0 : (((rd_T138 l0 x5_1).f0) == x1_1) = true := beq_iff_eq.mpr c5
   have c5b1 : (((rd_T138 l0 x5_1).f0) != x1_1) = false := bne_eq_false_iff_eq.mpr c5
   clear c5
   by_cases c6 : ((rd_T138 l0 x5_1).f1) = (wrap64 (x1_1 + 1))
   rotate_left
   ·rw [if_neg c6] at H
    have c6b0 : (((rd_T138 l0 x5_1).f1) == (wrap64 (x1_1 + 1))) = false := beq_eq_false_iff_ne.mpr c6
    have c6b1 : (((rd_T138 l0 x5_1).f1) != (wrap64 (x1_1 + 1))) = true := bne_iff_ne.mpr c6
    obtain rfl := Option.some.inj H
    have p225 : 0 ≤ (x5_1 : Int) := oD M1
    have q225 : x5_1 < (l0.length : Int) := oD M1
    obtain ⟨ad225, e225, hx225_0, hx225_1, hx225_2, hx225_3, hx225_4⟩ := at_T138 HR0.out x5_1 p225 q225
    cases e225
    replace p225 := eq_true p225
    replace q225 := eq_true q225
    have p226 : 0 ≤ (x5_1 : Int) := oD M1
    have q226 : x5_1 < (l0.length : Int) := oD M1
    obtain ⟨ad226, e226, hx226_0, hx226_1, hx226_2, hx226_3, hx226_4⟩ := at_T138 HR0.out x5_1 p226 q226
    obtain rfl : ad225 = ad226 := (by injection e226)
    replace p226 := eq_true p226
    replace q226 := eq_true q226
    go_wp2
    go_ret
    exact ⟨by first | rfl | (simp; done) | (simp [*]; done), by repeat (first | exact Drawn0.refl _ | apply Drawn0.step)⟩
   rw [if_pos c6] at H
   have c6b0 : (((rd_T138 l0 x5_1).f1) == (wrap64 (x1_1 + 1))) = true := beq_iff_eq.mpr c6
   have c6b1 : (((rd_T138 l0 x5_1).f1) != (wrap64 (x1_1 + 1))) = false := bne_eq_false_iff_eq.mpr c6
   clear c6
   by_cases c7 : ((rd_T138 l0 x5_1).f2) = (wrap64 ((wrap64 (x1_1 + 1)) + 1))
   rotate_left
   ·rw [if_neg c7] at H
    have c7b0 : (((rd_T138 l0 x5_1).f2) == (wrap64 ((wrap64 (x1_1 + 1)) + 1))) = false := beq_eq_false_iff_ne.mpr c7
    have c7b1 : (((rd_T138 l0 x5_1).f2) != (wrap64 ((wrap64 (x1_1 + 1)) + 1))) = true := bne_iff_ne.mpr c7
    obtain rfl := Option.some.inj H
    have p225 : 0 ≤ (x5_1 : Int) := oD M1
    have q225 : x5_1 < (l0.length : Int) := oD M1
    obtain ⟨ad225, e225, hx225_0, hx225_1, hx225_2, hx225_3, hx225_4⟩ := at_T138 HR0.out x5_1 p225 q225
    cases e225
    replace p225 := eq_true p225
    replace q225 := eq_true q225
    have p226 : 0 ≤ (x5_1 : Int) := oD M1
    have q226 : x5_1 < (l0.length : Int) := oD M1
    obtain ⟨ad226, e226, hx226_0, hx226_1, hx226_2, hx226_3, hx226_4⟩ := at_T138 HR0.out x5_1 p226 q226
    obtain rfl : ad225 = ad226 := (by injection e226)
    replace p226 := eq_true p226
    replace q226 := eq_true q226
    have p227 : 0 ≤ (x5_1 : Int) := oD M1
    have q227 : x5_1 < (l0.length : Int) := oD M1
    obtain ⟨ad227, e227, hx227_0, hx227_1, hx227_2, hx227_3, hx227_4⟩ := at_T138 HR0.out x5_1 p227 q227
    obtain rfl : ad225 = ad227 := (by injection e227)
    replace p227 := eq_true p227
    replace q227 := eq_true q227
    go_wp2
    go_ret
    exact ⟨by first | rfl | (simp; done) | (simp [*]; done), by repeat (first | exact Drawn0.refl _ | apply Drawn0.step)⟩
   rw [if_pos c7] at H
   have c7b0 : (((rd_T138 l0 x5_1).f2) == (wrap64 ((wrap64 (x1_1 + 1)) + 1))) = true := beq_iff_eq.mpr c7
   have c7b1 : (((rd_T138 l0 x5_1).f2) != (wrap64 ((wrap64 (x1_1 + 1)) + 1))) = false := bne_eq_false_iff_eq.mpr c7
   clear c7
   by_cases c8 : ((rd_T138 l0 x5_1).f3) = (wrap64 ((wrap64 ((wrap64 (x1_1 + 1)) + 1)) + 1))
   rotate_left
   ·rw [if_neg c8] at H
    have c8b0 : (((rd_T138 l0 x5_1).f3) == (wrap64 ((wrap64 ((wrap64 (x1_1 + 1)) + 1)) + 1))) = false := beq_eq_false_iff_ne.mpr c8
    have c8b1 : (((rd_T138 l0 x5_1).f3) != (wrap64 ((wrap64 ((wrap64 (x1_1 + 1)) + 1)) + 1))) = true := bne_iff_ne.mpr c8
    obtain rfl := Option.some.inj H
    have p225 : 0 ≤ (x5_1 : Int) := oD M1
    have q225 : x5_1 < (l0.length : Int) := oD M1
    obtain ⟨ad225, e225, hx225_0, hx225_1, hx225_2, hx225_3, hx225_4⟩ := at_T138 HR0.out x5_1 p225 q225
    cases e225
    replace p225 := eq_true p225
    replace q225 := eq_true q225
    have p226 : 0 ≤ (x5_1 : Int) := oD M1
    have q226 : x5_1 < (l0.length : Int) := oD M1
    obtain ⟨ad226, e226, hx226_0, hx226_1, hx226_2, hx226_3, hx226_4⟩ := at_T138 HR0.out x5_1 p226 q226
    obtain rfl : ad225 = ad226 := (by injection e226)
    replace p226 := eq_true p226
    replace q226 := eq_true q226
    have p227 : 0 ≤ (x5_1 : Int) := oD M1
    have q227 : x5_1 < (l0.length : Int) := oD M1
    obtain ⟨ad227, e227, hx227_0, hx227_1, hx227_2, hx227_3, hx227_4⟩ := at_T138 HR0.out x5_1 p227 q227
    obtain rfl : ad225 = ad227 := (by injection e227)
    replace p227 := eq_true p227
    replace q227 := eq_true q227
    have p228 : 0 ≤ (x5_1 : Int) := oD M1
    have q228 : x5_1 < (l0.length : Int) := oD M1
    obtain ⟨ad228, e228, hx228_0, hx228_1, hx228_2, hx228_3, hx228_4⟩ := at_T138 HR0.out x5_1 p228 q228
    obtain rfl : ad225 = ad228 := (by injection e228)
    replace p228 := eq_true p228
    replace q228 := eq_true q228
    go_wp2
    go_ret
    exact ⟨by first | rfl | (simp; done) | (simp [*]; done), by repeat (first | exact Drawn0.refl _ | apply Drawn0.step)⟩
   rw [if_pos c8] at H
   have c8b0 : (((rd_T138 l0 x5_1).f3) == (wrap64 ((wrap64 ((wrap64 (x1_1 + 1)) + 1)) + 1))) = true := beq_iff_eq.mpr c8
   have c8b1 : (((rd_T138 l0 x5_1).f3) != (wrap64 ((wrap64 ((wrap64 (x1_1 + 1)) + 1)) + 1))) = false := bne_eq_false_iff_eq.mpr c8
   clear c8
   by_cases c9 : ((rd_T138 l0 x5_1).f4) = (wrap64 ((wrap64 ((wrap64 ((wrap64 (x1_1 + 1)) + 1)) + 1)) + 1))
   rotate_left
   ·rw [if_neg c9] at H
    have c9b0 : (((rd_T138 l0 x5_1).f4) == (wrap64 ((wrap64 ((wrap64 ((wrap64 (x1_1 + 1)) + 1)) + 1)) + 1))) = false := beq_eq_false_iff_ne.mpr c9
    have c9b1 : (((rd_T138 l0 x5_1).f4) != (wrap64 ((wrap64 ((wrap64 ((wrap64 (x1_1 + 1)) + 1)) + 1)) + 1))) = true := bne_iff_ne.mpr c9
    obtain rfl := Option.some.inj H
    have p225 : 0 ≤ (x5_1 : Int) := oD M1
    have q225 : x5_1 < (l0.length : Int) := oD M1
    obtain ⟨ad225, e225, hx225_0, hx225_1, hx225_2, hx225_3, hx225_4⟩ := at_T138 HR0.out x5_1 p225 q225
    cases e225
    replace p225 := eq_true p225
    replace q225 := eq_true q225
    have p226 : 0 ≤ (x5_1 : Int) := oD M1
    have q226 : x5_1 < (l0.length : Int) := oD M1
    obtain ⟨ad226, e226, hx226_0, hx226_1, hx226_2, hx226_3, hx226_4⟩ := at_T138 HR0.out x5_1 p226 q226
    obtain rfl : ad225 = ad226 := (by injection e226)
    replace p226 := eq_true p226
    replace q226 := eq_true q226
    have p227 : 0 ≤ (x5_1 : Int) := oD M1
    have q227 : x5_1 < (l0.length : Int) := oD M1
    obtain ⟨ad227, e227, hx227_0, hx227_1, hx227_2, hx227_3, hx227_4⟩ := at_T138 HR0.out x5_1 p227 q227
    obtain rfl : ad225 = ad227 := (by injection e227)
    replace p227 := eq_true p227
    replace q227 := eq_true q227
    have p228 : 0 ≤ (x5_1 : Int) := oD M1
    have q228 : x5_1 < (l0.length : Int) := oD M1
    obtain ⟨ad228, e228, hx228_0, hx228_1, hx228_2, hx228_3, hx228_4⟩ := at_T138 HR0.out x5_1 p228 q228
    obtain rfl : ad225 = ad228 := (by injection e228)
    replace p228 := eq_true p228
    replace q228 := eq_true q228
    have p229 : 0 ≤ (x5_1 : Int) := oD M1
    have q229 : x5_1 < (l0.length : Int) := oD M1
    obtain ⟨ad229, e229, hx229_0, hx229_1, hx229_2, hx229_3, hx229_4⟩ := at_T138 HR0.out x5_1 p229 q229
    obtain rfl : ad225 = ad229 := (by injection e229)
    replace p229 := eq_true p229
    replace q229 := eq_true q229
    go_wp2
    go_ret
    exact ⟨by first | rfl | (simp; done) | (simp [*]; done), by repeat (first | exact Drawn0.refl _ | apply Drawn0.step)⟩
   rw [if_pos c9] at H
   have c9b0 : (((rd_T138 l0 x5_1).f4) == (wrap64 ((wrap64 ((wrap64 ((wrap64 (x1_1 + 1)) + 1)) + 1)) + 1))) = true := beq_iff_eq.mpr c9
   have c9b1 : (((rd_T138 l0 x5_1).f4) != (wrap64 ((wrap64 ((wrap64 ((wrap64 (x1_1 + 1)) + 1)) + 1)) + 1))) = false := bne_eq_false_iff_eq.mpr c9
   clear c9
   have H' := zK H
   clear H
   have p225 : 0 ≤ (x5_1 : Int) := oD M1
   have q225 : x5_1 < (l0.length : Int) := oD M1
   obtain ⟨ad225, e225, hx225_0, hx225_1, hx225_2, hx225_3, hx225_4⟩ := at_T138 HR0.out x5_1 p225 q225
   cases e225
   replace p225 := eq_true p225
   replace q225 := eq_true q225
   have p226 : 0 ≤ (x5_1 : Int) := oD M1
   have q226 : x5_1 < (l0.length : Int) := oD M1
   obtain ⟨ad226, e226, hx226_0, hx226_1, hx226_2, hx226_3, hx226_4⟩ := at_T138 HR0.out x5_1 p226 q226
   obtain rfl : ad225 = ad226 := (by injection e226)
   replace p226 := eq_true p226
   replace q226 := eq_true q226
   have p227 : 0 ≤ (x5_1 : Int) := oD M1
   have q227 : x5_1 < (l0.length : Int) := oD M1
   obtain ⟨ad227, e227, hx227_0, hx227_1, hx227_2, hx227_3, hx227_4⟩ := at_T138 HR0.out x5_1 p227 q227
   obtain rfl : ad225 = ad227 := (by injection e227)
   replace p227 := eq_true p227
   replace q227 := eq_true q227
   have p228 : 0 ≤ (x5_1 : Int) := oD M1
   have q228 : x5_1 < (l0.length : Int) := oD M1
   obtain ⟨ad228, e228, hx228_0, hx228_1, hx228_2, hx228_3, hx228_4⟩ := at_T138 HR0.out x5_1 p228 q228
   obtain rfl : ad225 = ad228 := (by injection e228)
   replace p228 := eq_true p228
   replace q228 := eq_true q228
   have p229 : 0 ≤ (x5_1 : Int) := oD M1
   have q229 : x5_1 < (l0.length : Int) := oD M1
   obtain ⟨ad229, e229, hx229_0, hx229_1, hx229_2, hx229_3, hx229_4⟩ := at_T138 HR0.out x5_1 p229 q229
   obtain rfl : ad225 = ad229 := (by injection e229)
   replace p229 := eq_true p229
   replace q229 := eq_true q229
   go_wp2
   go_roundg k1
   case measure => have := HK1.out; omega
   case rel => exact ⟨(wrap64 ((wrap64 ((wrap64 ((wrap64 ((wrap64 (x1_1 + 1)) + 1)) + 1)) + 1)) + 1)), (wrap64 (x5_1 + 1)), M3, M3, H', ⟨by have := HK1.out; omega⟩, by repeat (first | exact Drawn0.refl _ | apply Drawn0.step)⟩
/-! ### laws_szIntS: function 88 -/
def laws_szIntS.f (l0 : List Int) (a1 : Int) : Option (Int) := if (wrap64 (a1 - (l0.length : Int))) < 0 then (some (-1)) else (some (wrap64 (a1 - (l0.length : Int))))
set_option maxHeartbeats 8000000 in
set_option maxRecDepth 100000 in
theorem laws_szIntS.calls (A0 : Option Addr) (c0 : Nat) (l0 : List Int) (a1 : Int) (r : Int) (w : World) (hr0 : Kd.C (Kd.int .i64) w A0 l0.length l0) (hc0 : l0.length ≤ c0) (h : laws_szIntS.f l0 a1 = some r) :
  Calls Try.prog 88 #[.slice A0 l0.length c0, .int .i64 a1] w fun e w' => e = .returned (.int .i64 r) ∧ Drawn0 w w' := by
 have HR0 := zK hr0
 have HC0 := zK hc0
 clear hr0 hc0
 have H : (if (wrap64 (a1 - (l0.length : Int))) < 0 then (some (-1)) else (some (wrap64 (a1 - (l0.length : Int))))) = some r := h
 clear h
 by_cases c3 : (wrap64 (a1 - (l0.length : Int))) < 0
 ·rw [if_pos c3] at H
  have c3b0 : decide ((wrap64 (a1 - (l0.length : Int))) < 0) = true := decide_eq_true c3
  clear c3
  obtain rfl := Option.some.inj H
  go_enter Try.func88, Try.ntmps88
  go_wp2
  go_ret
  exact ⟨by first | rfl | (simp; done) | (simp [*]; done), by repeat (first | exact Drawn0.refl _ | apply Drawn0.step)⟩
 rw [if_neg c3] at H
 have c3b0 : decide ((wrap64 (a1 - (l0.length : Int))) < 0) = false := decide_eq_false c3
 clear c3
 obtain rfl := Option.some.inj H
 go_enter Try.func88, Try.ntmps88
 go_wp2
 go_ret
 exact ⟨by first | rfl | (simp; done) | (simp [*]; done), by repeat (first | exact Drawn0.refl _ | apply Drawn0.step)⟩
/-! ### laws_szParcel: function 48 -/
def laws_szParcel.f (a0_0 : Int) (a0_1 : Int) (l0_2 : List Int) (a0_3 : Int) (a1 : Int) : Option (Int) := (laws_szIntS.f l0_2 a1).bind fun t231 => (if t231 < 0 then (some (-1)) else (some t231))
set_option maxHeartbeats 8000000 in
set_option maxRecDepth 100000 in
theorem laws_szParcel.calls (a0_0 : Int) (a0_1 : Int) (A0_2 : Option Addr) (c0_2 : Nat) (l0_2 : List Int) (a0_3 : Int) (a1 : Int) (r : Int) (w : World) (hr0_2 : Kd.C (Kd.int .i64) w A0_2 l0_2.length l0_2) (hc0_2 : l0_2.length ≤ c0_2) (h : laws_szParcel.f a0_0 a0_1 l0_2 a0_3 a1 = some r) :
  Calls Try.prog 48 #[.agg #[.int .i64 a0_0, .int .i64 a0_1, .slice A0_2 l0_2.length c0_2, .int .i64 a0_3], .int .i64 a1] w fun e w' => e = .returned (.int .i64 r) ∧ Below w.heap.size w w' := by
 have hu74 := Try.underlying74
 have HR0_2 := zK hr0_2
 have HC0_2 := zK hc0_2
 clear hr0_2 hc0_2
 have HB := zK (Below.refl w.heap.size w)
 have H : ((laws_szIntS.f l0_2 a1).bind fun t231 => (if t231 < 0 then (some (-1)) else (some t231))) = some r := h
 clear h
 replace H := Option.bind_eq_some_iff.mp H
 obtain ⟨t231, A30, H⟩ := H
 replace H : (if t231 < 0 then (some (-1)) else (some t231)) = some r := H
 have A3 := zK A30
 clear A30
 by_cases c4 : t231 < 0
 ·rw [if_pos c4] at H
  have c4b0 : decide (t231 < 0) = true := decide_eq_true c4
  clear c4
  obtain rfl := Option.some.inj H
  go_enter Try.func48, Try.ntmps48
  go_wp2_with (first | ((with_reducible refine gate_dst (N := 2) rfl ?_); refine box_event ?hg (N := 2) ?hd (cs := #[.int .i64 a0_0, .int .i64 a0_1, .slice A0_2 l0_2.length c0_2, .int .i64 a0_3]) (t := 74) ?hr ?_; (case hd => rfl); (case hg => rfl); (case hr => first | (go_simp; done) | (go_simp; rfl)); intro gb230 hg w5 hbox hb; have n0_ := zK (bT (qB HB.out) hb); have n1_ := zK (hbox); have n2_ := zK ((by rw [hg]; exact (bZ (qB HB.out)) : w.heap.size ≤ gb230)); have n3_ := zK ((by rw [hg]; exact (bZ (qB HB.out)) : w.heap.size ≤ gb230)); clear HB; have HB := n0_; have BK230 := n1_; have GW230 := n2_; have GE230 := n3_; clear n0_ n1_ n2_ n3_; clear hb hbox hg; have hcz6_0 : w5.cell? ⟨gb230, 0, none⟩ = some (.int .i64 a0_0) := (bc BK230.out 0).trans rfl; have hcz6_1 : w5.cell? ⟨gb230, 1, none⟩ = some (.int .i64 a0_1) := (bc BK230.out 1).trans rfl; have hcz6_2 : w5.cell? ⟨gb230, 2, none⟩ = some (.slice A0_2 l0_2.length c0_2) := (bc BK230.out 2).trans rfl; have hcz6_3 : w5.cell? ⟨gb230, 3, none⟩ = some (.int .i64 a0_3) := (bc BK230.out 3).trans rfl; have hfz6_0 := bf BK230.out 0; have hfz6_1 := bf BK230.out 1; have hfz6_2 := bf BK230.out 2; have hfz6_3 := bf BK230.out 3) | ((with_reducible refine gate_callee (f := 88) rfl ?_); refine goesL_ (some 8) rfl rfl Try.func88 (by kernel_rfl) rfl #[.slice A0_2 l0_2.length c0_2, .int .i64 a1] rfl M0 ?_; (with_reducible refine (laws_szIntS.calls _ _ l0_2 a1 t231 _ ?side1 ?side2 A3.out).mono ?_); (case side1 => exact Kd.qC (Kd.C_below HR0_2.out HB.out)); (case side2 => exact HC0_2.out); rintro e w' ⟨rfl, ⟨nd, rfl⟩⟩; refine ⟨_, rfl, ?_⟩))
  go_ret
  exact ⟨by first | rfl | (simp [errW_none, errW_some] <;> rfl) | (simp [*, errW_none, errW_some] <;> rfl), by repeat (first | (with_reducible first | exact HB.out | apply bA | apply bN | apply b1 | refine bS ?_ GE230.out) | exact HB.out)⟩
 rw [if_neg c4] at H
 have c4b0 : decide (t231 < 0) = false := decide_eq_false c4
 clear c4
 obtain rfl := Option.some.inj H
 go_enter Try.func48, Try.ntmps48
 go_wp2_with (first | ((with_reducible refine gate_dst (N := 2) rfl ?_); refine box_event ?hg (N := 2) ?hd (cs := #[.int .i64 a0_0, .int .i64 a0_1, .slice A0_2 l0_2.length c0_2, .int .i64 a0_3]) (t := 74) ?hr ?_; (case hd => rfl); (case hg => rfl); (case hr => first | (go_simp; done) | (go_simp; rfl)); intro gb230 hg w7 hbox hb; have n0_ := zK (bT (qB HB.out) hb); have n1_ := zK (hbox); have n2_ := zK ((by rw [hg]; exact (bZ (qB HB.out)) : w.heap.size ≤ gb230)); have n3_ := zK ((by rw [hg]; exact (bZ (qB HB.out)) : w.heap.size ≤ gb230)); clear HB; have HB := n0_; have BK230 := n1_; have GW230 := n2_; have GE230 := n3_; clear n0_ n1_ n2_ n3_; clear hb hbox hg; have hcz8_0 : w7.cell? ⟨gb230, 0, none⟩ = some (.int .i64 a0_0) := (bc BK230.out 0).trans rfl; have hcz8_1 : w7.cell? ⟨gb230, 1, none⟩ = some (.int .i64 a0_1) := (bc BK230.out 1).trans rfl; have hcz8_2 : w7.cell? ⟨gb230, 2, none⟩ = some (.slice A0_2 l0_2.length c0_2) := (bc BK230.out 2).trans rfl; have hcz8_3 : w7.cell? ⟨gb230, 3, none⟩ = some (.int .i64 a0_3) := (bc BK230.out 3).trans rfl; have hfz8_0 := bf BK230.out 0; have hfz8_1 := bf BK230.out 1; have hfz8_2 := bf BK230.out 2; have hfz8_3 := bf BK230.out 3) | ((with_reducible refine gate_callee (f := 88) rfl ?_); refine goesL_ (some 8) rfl rfl Try.func88 (by kernel_rfl) rfl #[.slice A0_2 l0_2.length c0_2, .int .i64 a1] rfl M0 ?_; (with_reducible refine (laws_szIntS.calls _ _ l0_2 a1 t231 _ ?side1 ?side2 A3.out).mono ?_); (case side1 => exact Kd.qC (Kd.C_below HR0_2.out HB.out)); (case side2 => exact HC0_2.out); rintro e w' ⟨rfl, ⟨nd, rfl⟩⟩; refine ⟨_, rfl, ?_⟩))
 go_ret
 exact ⟨by first | rfl | (simp [errW_none, errW_some] <;> rfl) | (simp [*, errW_none, errW_some] <;> rfl), by repeat (first | (with_reducible first | exact HB.out | apply bA | apply bN | apply b1 | refine bS ?_ GE230.out) | exact HB.out)⟩

end Go.Proofs.Ytejhjenlodclpaa.PFnExactSendAll
