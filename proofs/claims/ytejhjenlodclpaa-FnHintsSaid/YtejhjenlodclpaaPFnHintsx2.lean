/- Walks of functions that FnHints reaches, shortened. -/
import Derived.Test.YtejhjenlodclpaaPFnHintsx0
import Derived.Test.YtejhjenlodclpaaPFnHintsx1
namespace Go.Proofs.Ytejhjenlodclpaa.PFnHints
open Go.RowKit Go.Proofs.YtejhjenlodclpaaW.PrintWords Go.Proofs.YtejhjenlodclpaaW.PrintLast Go.Proofs.YtejhjenlodclpaaW.PrintMore
attribute [local go_sem] max2_int min2_int max_two min_two max_three min_three max_four min_four
set_option linter.unusedVariables false
set_option linter.unusedSimpArgs false

abbrev b2A0 : Array Bool := #[O, O, O, O, O, O, O, O, O, O, O, O, O, O, O, O, O, O, O, O]
abbrev b2A1 : Array Bool := #[I, O, O, O, O, O, O, O, O, O, O, O, O, O, O, O, O, O, O, O]
abbrev b2A2 : Array Bool := #[I, I, O, O, O, O, O, O, O, O, O, O, O, O, O, O, O, O, O, O]
abbrev b2A3 : Array Bool := #[I, I, I, O, O, O, O, O, O, O, O, O, O, O, O, O, O, O, O, O]
abbrev b2A4 : Array Bool := #[I, I, I, I, O, O, O, O, O, O, O, O, O, O, O, O, O, O, O, O]
abbrev b2A5 : Array Bool := #[I, I, I, I, I, O, O, O, O, O, O, O, O, O, O, O, O, O, O, O]
abbrev b2A6 : Array Bool := #[I, I, I, I, I, I, O, O, O, O, O, O, O, O, O, O, O, O, O, O]
abbrev b2A7 : Array Bool := #[I, I, I, I, I, I, I, O, O, O, O, O, O, O, O, O, O, O, O, O]
abbrev b2A8 : Array Bool := #[I, I, I, I, I, I, I, I, O, O, O, O, O, O, O, O, O, O, O, O]
abbrev b2A9 : Array Bool := #[I, I, I, I, I, I, I, I, I, O, O, O, O, O, O, O, O, O, O, O]
abbrev b2A10 : Array Bool := #[I, I, I, I, I, I, I, I, I, O, I, O, O, O, O, O, O, O, O, O]
abbrev b2A11 : Array Bool := #[I, I, I, I, I, I, I, I, I, O, I, I, O, O, O, O, O, O, O, O]
abbrev b2A12 : Array Bool := #[I, I, I, I, I, I, I, I, I, O, I, I, I, O, O, O, O, O, O, O]
abbrev b2A13 : Array Bool := #[I, I, I, I, I, I, I, I, I, O, I, I, I, I, O, O, O, O, O, O]
abbrev b2A14 : Array Bool := #[I, I, I, I, I, I, I, I, I, O, I, I, I, I, I, O, O, O, O, O]
abbrev b2A15 : Array Bool := #[I, I, I, I, I, I, I, I, I, O, I, I, I, I, I, I, O, O, O, O]
abbrev b2A16 : Array Bool := #[I, I, I, I, I, I, I, I, I, I, I, I, I, I, I, I, O, O, O, O]
abbrev b2A17 : Array Bool := #[I, I, I, I, I, I, I, I, I, I, I, I, I, I, I, I, I, O, O, O]
abbrev b2A18 : Array Bool := #[I, I, I, I, I, I, I, I, I, I, I, I, I, I, I, I, I, I, O, O]
abbrev b2A19 : Array Bool := #[I, I, I, I, I, I, I, I, I, I, I, I, I, I, I, I, I, I, I, O]
abbrev b2A20 : Array Bool := #[I, I, I, I, I, I, I, I, I, I, I, I, I, I, I, I, I, I, I, I]
abbrev b2A21 : Array Bool := #[I, I, I, I, I, I, I, I, I, I, O, O, O, O, O, O, O, O, O, O]
abbrev b2A22 : Array Bool := #[I, I, I, I, I, I, I, I, I, I, I, O, O, O, O, O, O, O, O, O]
abbrev b2A23 : Array Bool := #[I, I, I, I, I, I, I, I, I, I, I, I, O, O, O, O, O, O, O, O]
abbrev b2A24 : Array Bool := #[I, I, I, I, I, I, I, I, I, I, I, I, I, O, O, O, O, O, O, O]
abbrev b2A25 : Array Bool := #[I, I, I, I, I, I, I, I, I, I, I, I, I, I, O, O, O, O, O, O]
abbrev b2A26 : Array Bool := #[I, I, I, I, I, I, I, I, I, I, I, I, I, I, I, O, O, O, O, O]
/-! ### impl_AreFinds: function 76 -/
def impl_AreFinds.l0 : Nat → List (S113) → List (S113) → Int → Int → Option (Bool)
 | 0, _, _, _, _ => none
 | k + 1, x0, x8, x9, x10 => if x10 < x9 then (if 0 ≤ x10 then (if x10 < (x8.length : Int) then ((impl_IsFind.f ((rd_T113 x8 x10).f0.f0) ((rd_T113 x8 x10).f0.f1) ((rd_T113 x8 x10).f0.f2) ((rd_T113 x8 x10).f0.f3) ((rd_T113 x8 x10).f0.f4) ((rd_T113 x8 x10).f1) ((rd_T113 x8 x10).f2) ((rd_T113 x8 x10).f3)).bind fun t114 => (if t114 = true then (if x10 > 0 then (if 0 ≤ (wrap64 (x10 - 1)) then (if (wrap64 (x10 - 1)) < (x0.length : Int) then (if ((rd_T113 x8 x10).f0.f0) ≤ ((rd_T113 x0 (wrap64 (x10 - 1))).f0.f0) then (some false) else (impl_AreFinds.l0 k x0 x8 x9 (wrap64 (x10 + 1)))) else (none)) else (none)) else (impl_AreFinds.l0 k x0 x8 x9 (wrap64 (x10 + 1)))) else (some false))) else (none)) else (none)) else (some true)
def impl_AreFinds.f (k : Nat) (l0 : List (S113)) : Option (Bool) := if (l0.length : Int) > 20 then (some false) else (impl_AreFinds.l0 k l0 l0 (l0.length : Int) 0)
def impl_AreFinds.T6 : Bool × List (List Nat × List Nat) := (true, [([], []), ([0], [0]), ([1], [1]), ([2, 1], [2]), ([3], [3]), ([4, 3], [3, 4]), ([5, 3, 3], [3, 5]), ([6], [6]), ([7, 6], [6, 7]), ([8, 6], [6, 8]), ([6], [6]), ([6], [6]), ([11, 6], [6, 11]), ([10, 12, 6], [6, 10, 12]), ([13, 6], [6, 13]), ([14, 6], [6, 14]), ([15, 6], [6, 15]), ([9, 16, 6], [6, 9, 16]), ([6, 17, 3], [3, 6, 17]), ([3, 18], [3, 18])])
def impl_AreFinds.B6 : List Nat := [0, 1, 3, 7, 15, 31, 63, 127, 255, 511, 127, 127, 2175, 7295, 15487, 31871, 64639, 131071, 262143, 524287]
theorem impl_AreFinds.tab6 : rtab .any (opsOf Try.f76 6) = impl_AreFinds.T6 := by kernel_rfl
theorem impl_AreFinds.bits6 : waitsOk impl_AreFinds.T6.2 impl_AreFinds.B6 = true := by kernel_rfl
set_option maxHeartbeats 8000000 in
set_option maxRecDepth 100000 in
theorem impl_AreFinds.calls (k : Nat) (A0 : Option Addr) (c0 : Nat) (l0 : List (S113)) (r : Bool) (w : World) (hr0 : Kd.C k113 w A0 l0.length l0) (hc0 : l0.length ≤ c0) (h : impl_AreFinds.f k l0 = some r) :
  Calls Try.prog 76 #[.slice A0 l0.length c0] w fun e w' => e = .returned (.bool r) ∧ Below w.heap.size w w' := by
 have hu113 := Try.underlying113
 have HR0 := zK hr0
 have HC0 := zK hc0
 clear hr0 hc0
 have HB := zK (Below.refl w.heap.size w)
 have H : (if (l0.length : Int) > 20 then (some false) else (impl_AreFinds.l0 k l0 l0 (l0.length : Int) 0)) = some r := h
 clear h
 by_cases c2 : (l0.length : Int) > 20
 ·rw [if_pos c2] at H
  have c2b0 : decide (20 < (l0.length : Int)) = true := decide_eq_true c2
  have c2b1 : decide (20 < l0.length) = true := decide_eq_true (by omega)
  clear c2
  obtain rfl := Option.some.inj H
  go_enter Try.func76, Try.ntmps76
  go_wp2
  go_ret
  exact ⟨o0, o8⟩
 rw [if_neg c2] at H
 have c2b0 : decide (20 < (l0.length : Int)) = false := decide_eq_false c2
 have c2b1 : decide (20 < l0.length) = false := decide_eq_false (by omega)
 clear c2
 have H' := zK H
 clear H
 go_enter Try.func76, Try.ntmps76
 go_wp2
 go_loopg [10] k (fun kq v10 w' => ∃ (x10_1 : Int), v10 = .int .i64 x10_1 ∧ Aside0 (impl_AreFinds.l0 kq l0 l0 (l0.length : Int) x10_1 = some r) ∧ Aside0 (kq ≤ k) ∧ Aside0 (Below w.heap.size w w'))
 case atStart => exact ⟨(0), M12, H', ⟨Nat.le_refl _⟩, ⟨o8⟩⟩
 case round =>
  clear H'
  try clear c2
  try clear c2b0
  try clear c2b1
  try clear p2
  obtain ⟨x10_1, rfl, HA, HK1, HB⟩ := hrel
  cases gk with
  | zero => exact absurd HA.o (by simp [impl_AreFinds.l0])
  | succ k1 =>
   have H := HA.o
   clear HA
   simp only [impl_AreFinds.l0] at H
   by_cases c3 : x10_1 < (l0.length : Int)
   rotate_left
   ·rw [if_neg c3] at H
    have c3b0 : decide (x10_1 < (l0.length : Int)) = false := decide_eq_false c3
    clear c3
    obtain rfl := Option.some.inj H
    go_wp2
    go_ret
    exact ⟨o0, o8⟩

   rw [if_pos c3] at H
   have c3b0 : decide (x10_1 < (l0.length : Int)) = true := decide_eq_true c3
   clear c3
   by_cases c4 : 0 ≤ x10_1
   rotate_left
   ·rw [if_neg c4] at H
    exact absurd H (by simp)
   rw [if_pos c4] at H
   have c4b0 : decide (0 ≤ x10_1) = true := decide_eq_true c4
   clear c4
   by_cases c5 : x10_1 < (l0.length : Int)
   rotate_left
   ·rw [if_neg c5] at H
    exact absurd H (by simp)
   rw [if_pos c5] at H
   have c5b0 : decide (x10_1 < (l0.length : Int)) = true := decide_eq_true c5
   clear c5
   replace H := Option.bind_eq_some_iff.mp H
   obtain ⟨t114, A60, H⟩ := H
   try dsimp only at H
   have A6 := zK A60
   clear A60
   by_cases c7 : t114 = true
   rotate_left
   ·replace c7 := Bool.eq_false_iff.mpr c7
    subst c7
    have H1 : (some false) = some r := by rw [if_neg (show ¬ (false = true) by decide)] at H; exact H
    clear H
    have H := H1
    clear H1
    obtain rfl := Option.some.inj H
    have p112 : 0 ≤ (x10_1 : Int) := oD M4
    have q112 : x10_1 < (l0.length : Int) := oD M4
    obtain ⟨ad112, e112, hx112_0, hx112_1, hx112_2, hx112_3, hx112_4, hx112_5, hx112_6, hx112_7⟩ := at_T113 HR0.o x10_1 p112 q112
    cases e112
    replace hx112_0 := cB HB.o hx112_0
    replace hx112_1 := cB HB.o hx112_1
    replace hx112_2 := cB HB.o hx112_2
    replace hx112_3 := cB HB.o hx112_3
    replace hx112_4 := cB HB.o hx112_4
    replace hx112_5 := cB HB.o hx112_5
    replace hx112_6 := cB HB.o hx112_6
    replace hx112_7 := cB HB.o hx112_7
    replace p112 := eq_true p112
    replace q112 := eq_true q112
    try go_wp2_with (first | ((with_reducible refine gd (N := 4) rfl ?_); refine bE (N := 4) (cs := #[.int .i64 0, .int .i64 0, .int .i64 0, .int .i64 0, .int .i64 0, .int .i64 0, .int .i64 0, .int .i64 0]) (t := 113) ?_; intro gb113 hg w28 hbox hb; have _ := zK (bT (qB HB.o) hb); have _ := zK (hbox); have _ := zK ((by rw [hg]; exact (bZ (qB HB.o)) : w.heap.size ≤ gb113)); have _ := zK ((by rw [hg]; exact (bZ (qB HB.o)) : w.heap.size ≤ gb113)); clear HB; rename_i HB BK113 GW113 GE113; clear hb hbox hg; obtain ⟨hcz29_0, hcz29_1, hcz29_2, hcz29_3, hcz29_4, hcz29_5, hcz29_6, hcz29_7, hfz29_0, hfz29_1, hfz29_2, hfz29_3, hfz29_4, hfz29_5, hfz29_6, hfz29_7⟩ := bx8 BK113.o))
    have n0_ : Aside0 (((((((((w28.setCell ⟨gb113, 0, none⟩ (.int .i64 ((rd_T113 l0 x10_1).f0.f0))).setCell ⟨gb113, 1, none⟩ (.int .i64 ((rd_T113 l0 x10_1).f0.f1))).setCell ⟨gb113, 2, none⟩ (.int .i64 ((rd_T113 l0 x10_1).f0.f2))).setCell ⟨gb113, 3, none⟩ (.int .i64 ((rd_T113 l0 x10_1).f0.f3))).setCell ⟨gb113, 4, none⟩ (.int .i64 ((rd_T113 l0 x10_1).f0.f4))).setCell ⟨gb113, 5, none⟩ (.int .i64 ((rd_T113 l0 x10_1).f1))).setCell ⟨gb113, 6, none⟩ (.int .i64 ((rd_T113 l0 x10_1).f2))).setCell ⟨gb113, 7, none⟩ (.int .i64 ((rd_T113 l0 x10_1).f3))).heap[gb113]? = some (.cells #[.int .i64 ((rd_T113 l0 x10_1).f0.f0), .int .i64 ((rd_T113 l0 x10_1).f0.f1), .int .i64 ((rd_T113 l0 x10_1).f0.f2), .int .i64 ((rd_T113 l0 x10_1).f0.f3), .int .i64 ((rd_T113 l0 x10_1).f0.f4), .int .i64 ((rd_T113 l0 x10_1).f1), .int .i64 ((rd_T113 l0 x10_1).f2), .int .i64 ((rd_T113 l0 x10_1).f3)] 113 (0, 0))) := ⟨qP BK113.o⟩
    have n1_ : Aside0 (Below w.heap.size w ((((((((w28.setCell ⟨gb113, 0, none⟩ (.int .i64 ((rd_T113 l0 x10_1).f0.f0))).setCell ⟨gb113, 1, none⟩ (.int .i64 ((rd_T113 l0 x10_1).f0.f1))).setCell ⟨gb113, 2, none⟩ (.int .i64 ((rd_T113 l0 x10_1).f0.f2))).setCell ⟨gb113, 3, none⟩ (.int .i64 ((rd_T113 l0 x10_1).f0.f3))).setCell ⟨gb113, 4, none⟩ (.int .i64 ((rd_T113 l0 x10_1).f0.f4))).setCell ⟨gb113, 5, none⟩ (.int .i64 ((rd_T113 l0 x10_1).f1))).setCell ⟨gb113, 6, none⟩ (.int .i64 ((rd_T113 l0 x10_1).f2))).setCell ⟨gb113, 7, none⟩ (.int .i64 ((rd_T113 l0 x10_1).f3)))) := ⟨o3⟩
    (try clear BK113)
    (try clear HB)
    generalize ((((((((w28.setCell ⟨gb113, 0, none⟩ (.int .i64 ((rd_T113 l0 x10_1).f0.f0))).setCell ⟨gb113, 1, none⟩ (.int .i64 ((rd_T113 l0 x10_1).f0.f1))).setCell ⟨gb113, 2, none⟩ (.int .i64 ((rd_T113 l0 x10_1).f0.f2))).setCell ⟨gb113, 3, none⟩ (.int .i64 ((rd_T113 l0 x10_1).f0.f3))).setCell ⟨gb113, 4, none⟩ (.int .i64 ((rd_T113 l0 x10_1).f0.f4))).setCell ⟨gb113, 5, none⟩ (.int .i64 ((rd_T113 l0 x10_1).f1))).setCell ⟨gb113, 6, none⟩ (.int .i64 ((rd_T113 l0 x10_1).f2))).setCell ⟨gb113, 7, none⟩ (.int .i64 ((rd_T113 l0 x10_1).f3))) = w30 at n0_ n1_ ⊢
    have BK113 := n0_
    have HB := n1_
    clear n0_ n1_
    have _ := zK (kD BK113.o)
    have _ := zK (b1 HB.o)
    clear BK113 HB
    rename_i BK113 HB
    refine start_ (n := 20) (S := fun w' => w'.cell? ⟨gb113, 0, none⟩ = some (.int .i64 ((rd_T113 l0 x10_1).f0.f0)) ∧ w'.cell? ⟨gb113, 1, none⟩ = some (.int .i64 ((rd_T113 l0 x10_1).f0.f1)) ∧ w'.cell? ⟨gb113, 2, none⟩ = some (.int .i64 ((rd_T113 l0 x10_1).f0.f2)) ∧ w'.cell? ⟨gb113, 3, none⟩ = some (.int .i64 ((rd_T113 l0 x10_1).f0.f3)) ∧ w'.cell? ⟨gb113, 4, none⟩ = some (.int .i64 ((rd_T113 l0 x10_1).f0.f4)) ∧ w'.cell? ⟨gb113, 5, none⟩ = some (.int .i64 ((rd_T113 l0 x10_1).f1)) ∧ w'.cell? ⟨gb113, 6, none⟩ = some (.int .i64 ((rd_T113 l0 x10_1).f2)) ∧ w'.cell? ⟨gb113, 7, none⟩ = some (.int .i64 ((rd_T113 l0 x10_1).f3))) (ds := []) b2A0 (by kernel_rfl) rfl rfl (b8 BK113.o) (fun hHeld => ?_); refine with_tabW impl_AreFinds.tab6 impl_AreFinds.bits6 (fun HT_ HW_ => ?_)
    generalize w30.drew = w31 at BK113 HB hHeld ⊢
    refine tI 0 (some 15) b2A1 HT_ HW_ hHeld rfl rfl (Or.inl ⟨by rfl, o5⟩) ?_
    refine one_ (i := 1) (N := some 16) b2A2 rfl rfl (one_of HT_.o (by kernel_rfl)) (by decide) (fun K hK => ?_)
    refine goes_ Try.func130 (by kernel_rfl) rfl #[.agg #[.int .i64 ((rd_T113 l0 x10_1).f0.f0), .int .i64 ((rd_T113 l0 x10_1).f0.f1), .int .i64 ((rd_T113 l0 x10_1).f0.f2), .int .i64 ((rd_T113 l0 x10_1).f0.f3), .int .i64 ((rd_T113 l0 x10_1).f0.f4), .int .i64 ((rd_T113 l0 x10_1).f1), .int .i64 ((rd_T113 l0 x10_1).f2), .int .i64 ((rd_T113 l0 x10_1).f3)]] (by rfl) rfl rfl M0 ?_
    with_reducible refine (impl_IsFind.calls ((rd_T113 l0 x10_1).f0.f0) ((rd_T113 l0 x10_1).f0.f1) ((rd_T113 l0 x10_1).f0.f2) ((rd_T113 l0 x10_1).f0.f3) ((rd_T113 l0 x10_1).f0.f4) ((rd_T113 l0 x10_1).f1) ((rd_T113 l0 x10_1).f2) ((rd_T113 l0 x10_1).f3) false _ A6.o).mono ?_
    rintro e w32 ⟨rfl, hb⟩
    refine ⟨_, rfl, ?_⟩
    have _ := zK (bB (qK BK113.o) hb)
    have _ := zK (bT (qX HB.o) hb)
    clear BK113 HB
    rename_i BK113 HB
    (try clear hb)
    (try clear hb2)
    (try clear hk)
    (try clear hi)
    refine hK.out _ _ (b8 BK113.o) (fun hHeld => ?_)
    clear hK K
    refine norm_ (a' := ?_) ?_ ?_
    rotate_left
    ·show Act.put _ (some 16) _ = _
     simp only [Act.put, sA, sZ, sS, i64_w, i32_w]
     rfl
    refine pI 2 (some 17) b2A3 HT_ ?_
    refine pI 3 (some 18) b2A4 HT_ ?_
    refine pU 4 (some 19) b2A5 HT_ ?_
    refine pU 5 (some 20) b2A6 HT_ ?_
    refine pU 6 (some 21) b2A7 HT_ ?_
    refine pU 7 (some 22) b2A8 HT_ ?_
    refine pU 8 (some 23) b2A9 HT_ ?_
    refine pU 9 (some 24) b2A21 HT_ ?_
    refine pU 10 (some 25) b2A22 HT_ ?_
    refine pU 11 (some 26) b2A23 HT_ ?_
    refine pU 12 (some 27) b2A24 HT_ ?_
    refine pU 13 (some 28) b2A25 HT_ ?_
    refine pU 14 (some 29) b2A26 HT_ ?_
    refine pU 15 (some 30) b2A16 HT_ ?_
    refine pU 16 (some 31) b2A17 HT_ ?_
    refine pU 17 (some 32) b2A18 HT_ ?_
    refine pU 18 (some 33) b2A19 HT_ ?_
    refine pI 19 (some 34) b2A20 HT_ ?_
    refine done_ (done_of HT_.o (by kernel_rfl)) ?_
    try go_wp2
    go_ret
    exact ⟨o0, o3⟩
   subst c7
   have H1 : (if x10_1 > 0 then (if 0 ≤ (wrap64 (x10_1 - 1)) then (if (wrap64 (x10_1 - 1)) < (l0.length : Int) then (if ((rd_T113 l0 x10_1).f0.f0) ≤ ((rd_T113 l0 (wrap64 (x10_1 - 1))).f0.f0) then (some false) else (impl_AreFinds.l0 k1 l0 l0 (l0.length : Int) (wrap64 (x10_1 + 1)))) else (none)) else (none)) else (impl_AreFinds.l0 k1 l0 l0 (l0.length : Int) (wrap64 (x10_1 + 1)))) = some r := by rw [if_pos rfl] at H; exact H
   clear H
   have H := H1
   clear H1
   by_cases c8 : x10_1 > 0
   rotate_left
   ·rw [if_neg c8] at H
    have c8b0 : decide (0 < x10_1) = false := decide_eq_false c8
    clear c8
    have H' := zK H
    clear H
    have p112 : 0 ≤ (x10_1 : Int) := oD M4
    have q112 : x10_1 < (l0.length : Int) := oD M4
    obtain ⟨ad112, e112, hx112_0, hx112_1, hx112_2, hx112_3, hx112_4, hx112_5, hx112_6, hx112_7⟩ := at_T113 HR0.o x10_1 p112 q112
    cases e112
    replace hx112_0 := cB HB.o hx112_0
    replace hx112_1 := cB HB.o hx112_1
    replace hx112_2 := cB HB.o hx112_2
    replace hx112_3 := cB HB.o hx112_3
    replace hx112_4 := cB HB.o hx112_4
    replace hx112_5 := cB HB.o hx112_5
    replace hx112_6 := cB HB.o hx112_6
    replace hx112_7 := cB HB.o hx112_7
    replace p112 := eq_true p112
    replace q112 := eq_true q112
    try go_wp2_with (first | ((with_reducible refine gd (N := 4) rfl ?_); refine bE (N := 4) (cs := #[.int .i64 0, .int .i64 0, .int .i64 0, .int .i64 0, .int .i64 0, .int .i64 0, .int .i64 0, .int .i64 0]) (t := 113) ?_; intro gb113 hg w23 hbox hb; have _ := zK (bT (qB HB.o) hb); have _ := zK (hbox); have _ := zK ((by rw [hg]; exact (bZ (qB HB.o)) : w.heap.size ≤ gb113)); have _ := zK ((by rw [hg]; exact (bZ (qB HB.o)) : w.heap.size ≤ gb113)); clear HB; rename_i HB BK113 GW113 GE113; clear hb hbox hg; obtain ⟨hcz24_0, hcz24_1, hcz24_2, hcz24_3, hcz24_4, hcz24_5, hcz24_6, hcz24_7, hfz24_0, hfz24_1, hfz24_2, hfz24_3, hfz24_4, hfz24_5, hfz24_6, hfz24_7⟩ := bx8 BK113.o))
    have n0_ : Aside0 (((((((((w23.setCell ⟨gb113, 0, none⟩ (.int .i64 ((rd_T113 l0 x10_1).f0.f0))).setCell ⟨gb113, 1, none⟩ (.int .i64 ((rd_T113 l0 x10_1).f0.f1))).setCell ⟨gb113, 2, none⟩ (.int .i64 ((rd_T113 l0 x10_1).f0.f2))).setCell ⟨gb113, 3, none⟩ (.int .i64 ((rd_T113 l0 x10_1).f0.f3))).setCell ⟨gb113, 4, none⟩ (.int .i64 ((rd_T113 l0 x10_1).f0.f4))).setCell ⟨gb113, 5, none⟩ (.int .i64 ((rd_T113 l0 x10_1).f1))).setCell ⟨gb113, 6, none⟩ (.int .i64 ((rd_T113 l0 x10_1).f2))).setCell ⟨gb113, 7, none⟩ (.int .i64 ((rd_T113 l0 x10_1).f3))).heap[gb113]? = some (.cells #[.int .i64 ((rd_T113 l0 x10_1).f0.f0), .int .i64 ((rd_T113 l0 x10_1).f0.f1), .int .i64 ((rd_T113 l0 x10_1).f0.f2), .int .i64 ((rd_T113 l0 x10_1).f0.f3), .int .i64 ((rd_T113 l0 x10_1).f0.f4), .int .i64 ((rd_T113 l0 x10_1).f1), .int .i64 ((rd_T113 l0 x10_1).f2), .int .i64 ((rd_T113 l0 x10_1).f3)] 113 (0, 0))) := ⟨qP BK113.o⟩
    have n1_ : Aside0 (Below w.heap.size w ((((((((w23.setCell ⟨gb113, 0, none⟩ (.int .i64 ((rd_T113 l0 x10_1).f0.f0))).setCell ⟨gb113, 1, none⟩ (.int .i64 ((rd_T113 l0 x10_1).f0.f1))).setCell ⟨gb113, 2, none⟩ (.int .i64 ((rd_T113 l0 x10_1).f0.f2))).setCell ⟨gb113, 3, none⟩ (.int .i64 ((rd_T113 l0 x10_1).f0.f3))).setCell ⟨gb113, 4, none⟩ (.int .i64 ((rd_T113 l0 x10_1).f0.f4))).setCell ⟨gb113, 5, none⟩ (.int .i64 ((rd_T113 l0 x10_1).f1))).setCell ⟨gb113, 6, none⟩ (.int .i64 ((rd_T113 l0 x10_1).f2))).setCell ⟨gb113, 7, none⟩ (.int .i64 ((rd_T113 l0 x10_1).f3)))) := ⟨o3⟩
    (try clear BK113)
    (try clear HB)
    generalize ((((((((w23.setCell ⟨gb113, 0, none⟩ (.int .i64 ((rd_T113 l0 x10_1).f0.f0))).setCell ⟨gb113, 1, none⟩ (.int .i64 ((rd_T113 l0 x10_1).f0.f1))).setCell ⟨gb113, 2, none⟩ (.int .i64 ((rd_T113 l0 x10_1).f0.f2))).setCell ⟨gb113, 3, none⟩ (.int .i64 ((rd_T113 l0 x10_1).f0.f3))).setCell ⟨gb113, 4, none⟩ (.int .i64 ((rd_T113 l0 x10_1).f0.f4))).setCell ⟨gb113, 5, none⟩ (.int .i64 ((rd_T113 l0 x10_1).f1))).setCell ⟨gb113, 6, none⟩ (.int .i64 ((rd_T113 l0 x10_1).f2))).setCell ⟨gb113, 7, none⟩ (.int .i64 ((rd_T113 l0 x10_1).f3))) = w25 at n0_ n1_ ⊢
    have BK113 := n0_
    have HB := n1_
    clear n0_ n1_
    have _ := zK (kD BK113.o)
    have _ := zK (b1 HB.o)
    clear BK113 HB
    rename_i BK113 HB
    refine start_ (n := 20) (S := fun w' => w'.cell? ⟨gb113, 0, none⟩ = some (.int .i64 ((rd_T113 l0 x10_1).f0.f0)) ∧ w'.cell? ⟨gb113, 1, none⟩ = some (.int .i64 ((rd_T113 l0 x10_1).f0.f1)) ∧ w'.cell? ⟨gb113, 2, none⟩ = some (.int .i64 ((rd_T113 l0 x10_1).f0.f2)) ∧ w'.cell? ⟨gb113, 3, none⟩ = some (.int .i64 ((rd_T113 l0 x10_1).f0.f3)) ∧ w'.cell? ⟨gb113, 4, none⟩ = some (.int .i64 ((rd_T113 l0 x10_1).f0.f4)) ∧ w'.cell? ⟨gb113, 5, none⟩ = some (.int .i64 ((rd_T113 l0 x10_1).f1)) ∧ w'.cell? ⟨gb113, 6, none⟩ = some (.int .i64 ((rd_T113 l0 x10_1).f2)) ∧ w'.cell? ⟨gb113, 7, none⟩ = some (.int .i64 ((rd_T113 l0 x10_1).f3))) (ds := []) b2A0 (by kernel_rfl) rfl rfl (b8 BK113.o) (fun hHeld => ?_); refine with_tabW impl_AreFinds.tab6 impl_AreFinds.bits6 (fun HT_ HW_ => ?_)
    generalize w25.drew = w26 at BK113 HB hHeld ⊢
    refine tI 0 (some 15) b2A1 HT_ HW_ hHeld rfl rfl (Or.inl ⟨by rfl, o5⟩) ?_
    refine one_ (i := 1) (N := some 16) b2A2 rfl rfl (one_of HT_.o (by kernel_rfl)) (by decide) (fun K hK => ?_)
    refine goes_ Try.func130 (by kernel_rfl) rfl #[.agg #[.int .i64 ((rd_T113 l0 x10_1).f0.f0), .int .i64 ((rd_T113 l0 x10_1).f0.f1), .int .i64 ((rd_T113 l0 x10_1).f0.f2), .int .i64 ((rd_T113 l0 x10_1).f0.f3), .int .i64 ((rd_T113 l0 x10_1).f0.f4), .int .i64 ((rd_T113 l0 x10_1).f1), .int .i64 ((rd_T113 l0 x10_1).f2), .int .i64 ((rd_T113 l0 x10_1).f3)]] (by rfl) rfl rfl M0 ?_
    with_reducible refine (impl_IsFind.calls ((rd_T113 l0 x10_1).f0.f0) ((rd_T113 l0 x10_1).f0.f1) ((rd_T113 l0 x10_1).f0.f2) ((rd_T113 l0 x10_1).f0.f3) ((rd_T113 l0 x10_1).f0.f4) ((rd_T113 l0 x10_1).f1) ((rd_T113 l0 x10_1).f2) ((rd_T113 l0 x10_1).f3) true _ A6.o).mono ?_
    rintro e w27 ⟨rfl, hb⟩
    refine ⟨_, rfl, ?_⟩
    have _ := zK (bB (qK BK113.o) hb)
    have _ := zK (bT (qX HB.o) hb)
    clear BK113 HB
    rename_i BK113 HB
    (try clear hb)
    (try clear hb2)
    (try clear hk)
    (try clear hi)
    refine hK.out _ _ (b8 BK113.o) (fun hHeld => ?_)
    clear hK K
    refine norm_ (a' := ?_) ?_ ?_
    rotate_left
    ·show Act.put _ (some 16) _ = _
     simp only [Act.put, sA, sZ, sS, i64_w, i32_w]
     rfl
    refine pI 2 (some 17) b2A3 HT_ ?_
    refine pI 3 (some 18) b2A4 HT_ ?_
    refine pI 4 (some 19) b2A5 HT_ ?_
    refine pI 5 (some 20) b2A6 HT_ ?_
    refine pI 6 (some 21) b2A7 HT_ ?_
    refine pU 7 (some 22) b2A8 HT_ ?_
    refine pU 8 (some 23) b2A9 HT_ ?_
    refine pU 9 (some 24) b2A21 HT_ ?_
    refine pU 10 (some 25) b2A22 HT_ ?_
    refine pU 11 (some 26) b2A23 HT_ ?_
    refine pU 12 (some 27) b2A24 HT_ ?_
    refine pU 13 (some 28) b2A25 HT_ ?_
    refine pU 14 (some 29) b2A26 HT_ ?_
    refine pU 15 (some 30) b2A16 HT_ ?_
    refine pU 16 (some 31) b2A17 HT_ ?_
    refine pU 17 (some 32) b2A18 HT_ ?_
    refine pI 18 (some 33) b2A19 HT_ ?_
    refine pI 19 (some 34) b2A20 HT_ ?_
    refine done_ (done_of HT_.o (by kernel_rfl)) ?_
    try go_wp2
    go_roundg k1
    case measure => have := HK1.o; omega
    case rel => exact ⟨(wrap64 (x10_1 + 1)), M12, H', ⟨o6⟩, ⟨o3⟩⟩
   rw [if_pos c8] at H
   have c8b0 : decide (0 < x10_1) = true := decide_eq_true c8
   clear c8
   obtain ⟨ji9, hji9⟩ : ∃ j_ : Int, (wrap64 (x10_1 - 1)) = j_ := ⟨_, rfl⟩
   replace H : (if 0 ≤ (ji9) then (if (ji9) < (l0.length : Int) then (if ((rd_T113 l0 x10_1).f0.f0) ≤ ((rd_T113 l0 (ji9)).f0.f0) then (some false) else (impl_AreFinds.l0 k1 l0 l0 (l0.length : Int) (wrap64 (x10_1 + 1)))) else (none)) else (none)) = some r := by first | (rw [hji9] at H; exact H) | (simp only [hji9] at H ⊢; exact H)
   (try rw [hji9] at A6)
   have hji9w : (IntKind.i64.wrap (x10_1 - 1)) = ji9 := (i64_w _).trans hji9
   by_cases c10 : 0 ≤ (ji9)
   rotate_left
   ·rw [if_neg c10] at H
    exact absurd H (by simp)
   rw [if_pos c10] at H
   have c10b0 : decide (0 ≤ (ji9)) = true := decide_eq_true c10
   clear c10
   by_cases c11 : (ji9) < (l0.length : Int)
   rotate_left
   ·rw [if_neg c11] at H
    exact absurd H (by simp)
   rw [if_pos c11] at H
   have c11b0 : decide ((ji9) < (l0.length : Int)) = true := decide_eq_true c11
   clear c11
   by_cases c12 : ((rd_T113 l0 x10_1).f0.f0) ≤ ((rd_T113 l0 (ji9)).f0.f0)
   ·rw [if_pos c12] at H
    have c12b0 : decide (((rd_T113 l0 x10_1).f0.f0) ≤ ((rd_T113 l0 (ji9)).f0.f0)) = true := decide_eq_true c12
    clear c12
    obtain rfl := Option.some.inj H
    have p112 : 0 ≤ (x10_1 : Int) := oD M4
    have q112 : x10_1 < (l0.length : Int) := oD M4
    obtain ⟨ad112, e112, hx112_0, hx112_1, hx112_2, hx112_3, hx112_4, hx112_5, hx112_6, hx112_7⟩ := at_T113 HR0.o x10_1 p112 q112
    cases e112
    replace hx112_0 := cB HB.o hx112_0
    replace hx112_1 := cB HB.o hx112_1
    replace hx112_2 := cB HB.o hx112_2
    replace hx112_3 := cB HB.o hx112_3
    replace hx112_4 := cB HB.o hx112_4
    replace hx112_5 := cB HB.o hx112_5
    replace hx112_6 := cB HB.o hx112_6
    replace hx112_7 := cB HB.o hx112_7
    replace p112 := eq_true p112
    replace q112 := eq_true q112
    try go_wp2_with (first | ((with_reducible refine gd (N := 4) rfl ?_); refine bE (N := 4) (cs := #[.int .i64 0, .int .i64 0, .int .i64 0, .int .i64 0, .int .i64 0, .int .i64 0, .int .i64 0, .int .i64 0]) (t := 113) ?_; intro gb113 hg w13 hbox hb; have _ := zK (bT (qB HB.o) hb); have _ := zK (hbox); have _ := zK ((by rw [hg]; exact (bZ (qB HB.o)) : w.heap.size ≤ gb113)); have _ := zK ((by rw [hg]; exact (bZ (qB HB.o)) : w.heap.size ≤ gb113)); clear HB; rename_i HB BK113 GW113 GE113; clear hb hbox hg; obtain ⟨hcz14_0, hcz14_1, hcz14_2, hcz14_3, hcz14_4, hcz14_5, hcz14_6, hcz14_7, hfz14_0, hfz14_1, hfz14_2, hfz14_3, hfz14_4, hfz14_5, hfz14_6, hfz14_7⟩ := bx8 BK113.o))
    have n0_ : Aside0 (((((((((w13.setCell ⟨gb113, 0, none⟩ (.int .i64 ((rd_T113 l0 x10_1).f0.f0))).setCell ⟨gb113, 1, none⟩ (.int .i64 ((rd_T113 l0 x10_1).f0.f1))).setCell ⟨gb113, 2, none⟩ (.int .i64 ((rd_T113 l0 x10_1).f0.f2))).setCell ⟨gb113, 3, none⟩ (.int .i64 ((rd_T113 l0 x10_1).f0.f3))).setCell ⟨gb113, 4, none⟩ (.int .i64 ((rd_T113 l0 x10_1).f0.f4))).setCell ⟨gb113, 5, none⟩ (.int .i64 ((rd_T113 l0 x10_1).f1))).setCell ⟨gb113, 6, none⟩ (.int .i64 ((rd_T113 l0 x10_1).f2))).setCell ⟨gb113, 7, none⟩ (.int .i64 ((rd_T113 l0 x10_1).f3))).heap[gb113]? = some (.cells #[.int .i64 ((rd_T113 l0 x10_1).f0.f0), .int .i64 ((rd_T113 l0 x10_1).f0.f1), .int .i64 ((rd_T113 l0 x10_1).f0.f2), .int .i64 ((rd_T113 l0 x10_1).f0.f3), .int .i64 ((rd_T113 l0 x10_1).f0.f4), .int .i64 ((rd_T113 l0 x10_1).f1), .int .i64 ((rd_T113 l0 x10_1).f2), .int .i64 ((rd_T113 l0 x10_1).f3)] 113 (0, 0))) := ⟨qP BK113.o⟩
    have n1_ : Aside0 (Below w.heap.size w ((((((((w13.setCell ⟨gb113, 0, none⟩ (.int .i64 ((rd_T113 l0 x10_1).f0.f0))).setCell ⟨gb113, 1, none⟩ (.int .i64 ((rd_T113 l0 x10_1).f0.f1))).setCell ⟨gb113, 2, none⟩ (.int .i64 ((rd_T113 l0 x10_1).f0.f2))).setCell ⟨gb113, 3, none⟩ (.int .i64 ((rd_T113 l0 x10_1).f0.f3))).setCell ⟨gb113, 4, none⟩ (.int .i64 ((rd_T113 l0 x10_1).f0.f4))).setCell ⟨gb113, 5, none⟩ (.int .i64 ((rd_T113 l0 x10_1).f1))).setCell ⟨gb113, 6, none⟩ (.int .i64 ((rd_T113 l0 x10_1).f2))).setCell ⟨gb113, 7, none⟩ (.int .i64 ((rd_T113 l0 x10_1).f3)))) := ⟨o3⟩
    (try clear BK113)
    (try clear HB)
    generalize ((((((((w13.setCell ⟨gb113, 0, none⟩ (.int .i64 ((rd_T113 l0 x10_1).f0.f0))).setCell ⟨gb113, 1, none⟩ (.int .i64 ((rd_T113 l0 x10_1).f0.f1))).setCell ⟨gb113, 2, none⟩ (.int .i64 ((rd_T113 l0 x10_1).f0.f2))).setCell ⟨gb113, 3, none⟩ (.int .i64 ((rd_T113 l0 x10_1).f0.f3))).setCell ⟨gb113, 4, none⟩ (.int .i64 ((rd_T113 l0 x10_1).f0.f4))).setCell ⟨gb113, 5, none⟩ (.int .i64 ((rd_T113 l0 x10_1).f1))).setCell ⟨gb113, 6, none⟩ (.int .i64 ((rd_T113 l0 x10_1).f2))).setCell ⟨gb113, 7, none⟩ (.int .i64 ((rd_T113 l0 x10_1).f3))) = w15 at n0_ n1_ ⊢
    have BK113 := n0_
    have HB := n1_
    clear n0_ n1_
    have _ := zK (kD BK113.o)
    have _ := zK (b1 HB.o)
    clear BK113 HB
    rename_i BK113 HB
    have p115 : 0 ≤ ((ji9) : Int) := oD M4
    have q115 : (ji9) < (l0.length : Int) := oD M4
    obtain ⟨ad115, e115, hx115_0, hx115_1, hx115_2, hx115_3, hx115_4, hx115_5, hx115_6, hx115_7⟩ := at_T113 HR0.o (ji9) p115 q115
    have hw115_7 := hx115_7
    have hw115_6 := hx115_6
    have hw115_5 := hx115_5
    have hw115_4 := hx115_4
    have hw115_3 := hx115_3
    have hw115_2 := hx115_2
    have hw115_1 := hx115_1
    have hw115_0 := hx115_0
    obtain rfl : ad112 = ad115 := (by injection e115)
    replace hx115_0 := cB HB.o hx115_0
    replace hx115_1 := cB HB.o hx115_1
    replace hx115_2 := cB HB.o hx115_2
    replace hx115_3 := cB HB.o hx115_3
    replace hx115_4 := cB HB.o hx115_4
    replace hx115_5 := cB HB.o hx115_5
    replace hx115_6 := cB HB.o hx115_6
    replace hx115_7 := cB HB.o hx115_7
    replace p115 := eq_true p115
    replace q115 := eq_true q115
    refine start_ (n := 20) (S := fun w' => w'.cell? ⟨gb113, 0, none⟩ = some (.int .i64 ((rd_T113 l0 x10_1).f0.f0)) ∧ w'.cell? ⟨gb113, 1, none⟩ = some (.int .i64 ((rd_T113 l0 x10_1).f0.f1)) ∧ w'.cell? ⟨gb113, 2, none⟩ = some (.int .i64 ((rd_T113 l0 x10_1).f0.f2)) ∧ w'.cell? ⟨gb113, 3, none⟩ = some (.int .i64 ((rd_T113 l0 x10_1).f0.f3)) ∧ w'.cell? ⟨gb113, 4, none⟩ = some (.int .i64 ((rd_T113 l0 x10_1).f0.f4)) ∧ w'.cell? ⟨gb113, 5, none⟩ = some (.int .i64 ((rd_T113 l0 x10_1).f1)) ∧ w'.cell? ⟨gb113, 6, none⟩ = some (.int .i64 ((rd_T113 l0 x10_1).f2)) ∧ w'.cell? ⟨gb113, 7, none⟩ = some (.int .i64 ((rd_T113 l0 x10_1).f3)) ∧ w'.cell? (ad112.add (((ji9)).toNat * 8)) = some (.int .i64 ((rd_T113 l0 (ji9)).f0.f0)) ∧ w'.cell? ⟨(ad112.add (((ji9)).toNat * 8)).block, (ad112.add (((ji9)).toNat * 8)).off + 1, none⟩ = some (.int .i64 ((rd_T113 l0 (ji9)).f0.f1)) ∧ w'.cell? ⟨(ad112.add (((ji9)).toNat * 8)).block, (ad112.add (((ji9)).toNat * 8)).off + 2, none⟩ = some (.int .i64 ((rd_T113 l0 (ji9)).f0.f2)) ∧ w'.cell? ⟨(ad112.add (((ji9)).toNat * 8)).block, (ad112.add (((ji9)).toNat * 8)).off + 3, none⟩ = some (.int .i64 ((rd_T113 l0 (ji9)).f0.f3)) ∧ w'.cell? ⟨(ad112.add (((ji9)).toNat * 8)).block, (ad112.add (((ji9)).toNat * 8)).off + 4, none⟩ = some (.int .i64 ((rd_T113 l0 (ji9)).f0.f4)) ∧ w'.cell? ⟨(ad112.add (((ji9)).toNat * 8)).block, (ad112.add (((ji9)).toNat * 8)).off + 5, none⟩ = some (.int .i64 ((rd_T113 l0 (ji9)).f1)) ∧ w'.cell? ⟨(ad112.add (((ji9)).toNat * 8)).block, (ad112.add (((ji9)).toNat * 8)).off + 6, none⟩ = some (.int .i64 ((rd_T113 l0 (ji9)).f2)) ∧ w'.cell? ⟨(ad112.add (((ji9)).toNat * 8)).block, (ad112.add (((ji9)).toNat * 8)).off + 7, none⟩ = some (.int .i64 ((rd_T113 l0 (ji9)).f3))) (ds := []) b2A0 (by kernel_rfl) rfl rfl (j8 BK113.o ⟨(cB HB.o hw115_0 :), (cB HB.o hw115_1 :), (cB HB.o hw115_2 :), (cB HB.o hw115_3 :), (cB HB.o hw115_4 :), (cB HB.o hw115_5 :), (cB HB.o hw115_6 :), (cB HB.o hw115_7 :)⟩) (fun hHeld => ?_); refine with_tabW impl_AreFinds.tab6 impl_AreFinds.bits6 (fun HT_ HW_ => ?_)
    generalize w15.drew = w16 at BK113 HB hx115_0 hx115_1 hx115_2 hx115_3 hx115_4 hx115_5 hx115_6 hx115_7 hHeld ⊢
    refine tI 0 (some 15) b2A1 HT_ HW_ hHeld rfl rfl (Or.inl ⟨by rfl, o7⟩) ?_
    refine one_ (i := 1) (N := some 16) b2A2 rfl rfl (one_of HT_.o (by kernel_rfl)) (by decide) (fun K hK => ?_)
    refine goes_ Try.func130 (by kernel_rfl) rfl #[.agg #[.int .i64 ((rd_T113 l0 x10_1).f0.f0), .int .i64 ((rd_T113 l0 x10_1).f0.f1), .int .i64 ((rd_T113 l0 x10_1).f0.f2), .int .i64 ((rd_T113 l0 x10_1).f0.f3), .int .i64 ((rd_T113 l0 x10_1).f0.f4), .int .i64 ((rd_T113 l0 x10_1).f1), .int .i64 ((rd_T113 l0 x10_1).f2), .int .i64 ((rd_T113 l0 x10_1).f3)]] (by rfl) rfl rfl M0 ?_
    with_reducible refine (impl_IsFind.calls ((rd_T113 l0 x10_1).f0.f0) ((rd_T113 l0 x10_1).f0.f1) ((rd_T113 l0 x10_1).f0.f2) ((rd_T113 l0 x10_1).f0.f3) ((rd_T113 l0 x10_1).f0.f4) ((rd_T113 l0 x10_1).f1) ((rd_T113 l0 x10_1).f2) ((rd_T113 l0 x10_1).f3) true _ A6.o).mono ?_
    rintro e w17 ⟨rfl, hb⟩
    refine ⟨_, rfl, ?_⟩
    have _ := zK (bB (qK BK113.o) hb)
    have _ := zK (bT (qX HB.o) hb)
    clear BK113 HB
    rename_i BK113 HB
    (try clear hb)
    (try clear hb2)
    (try clear hk)
    (try clear hi)
    refine hK.out _ _ (j8 BK113.o ⟨(cB HB.o hw115_0 :), (cB HB.o hw115_1 :), (cB HB.o hw115_2 :), (cB HB.o hw115_3 :), (cB HB.o hw115_4 :), (cB HB.o hw115_5 :), (cB HB.o hw115_6 :), (cB HB.o hw115_7 :)⟩) (fun hHeld => ?_)
    clear hK K
    refine norm_ (a' := ?_) ?_ ?_
    rotate_left
    ·show Act.put _ (some 16) _ = _
     simp only [Act.put, sA, sZ, sS, i64_w, i32_w]
     rfl
    refine pI 2 (some 17) b2A3 HT_ ?_
    refine pI 3 (some 18) b2A4 HT_ ?_
    refine pI 4 (some 19) b2A5 HT_ ?_
    refine pI 5 (some 20) b2A6 HT_ ?_
    refine pI 6 (some 21) b2A7 HT_ ?_
    refine pI 7 (some 22) b2A8 HT_ ?_
    refine pI 8 (some 23) b2A9 HT_ ?_
    refine pI 10 (some 25) b2A10 HT_ ?_
    refine pI 11 (some 26) b2A11 HT_ ?_
    refine pI 12 (some 27) b2A12 HT_ ?_
    refine pI 13 (some 28) b2A13 HT_ ?_
    refine pI 14 (some 29) b2A14 HT_ ?_
    refine pI 15 (some 30) b2A15 HT_ ?_
    refine tI 9 (some 24) b2A16 HT_ HW_ hHeld rfl rfl (Or.inl ⟨by rfl, o7⟩) ?_
    refine tI 16 (some 31) b2A17 HT_ HW_ hHeld rfl rfl (Or.inl ⟨by rfl, o7⟩) ?_
    refine pI 17 (some 32) b2A18 HT_ ?_
    refine pI 18 (some 33) b2A19 HT_ ?_
    refine pI 19 (some 34) b2A20 HT_ ?_
    refine done_ (done_of HT_.o (by kernel_rfl)) ?_
    try go_wp2
    go_ret
    exact ⟨by first | rfl | (simp [errW_none, errW_some] <;> rfl) | (simp only [← hji9]; first | rfl | (simp [errW_none, errW_some] <;> rfl)) | (simp [*, errW_none, errW_some] <;> rfl), o3⟩
   rw [if_neg c12] at H
   have c12b0 : decide (((rd_T113 l0 x10_1).f0.f0) ≤ ((rd_T113 l0 (ji9)).f0.f0)) = false := decide_eq_false c12
   clear c12
   have H' := zK H
   clear H
   have p112 : 0 ≤ (x10_1 : Int) := oD M4
   have q112 : x10_1 < (l0.length : Int) := oD M4
   obtain ⟨ad112, e112, hx112_0, hx112_1, hx112_2, hx112_3, hx112_4, hx112_5, hx112_6, hx112_7⟩ := at_T113 HR0.o x10_1 p112 q112
   cases e112
   replace hx112_0 := cB HB.o hx112_0
   replace hx112_1 := cB HB.o hx112_1
   replace hx112_2 := cB HB.o hx112_2
   replace hx112_3 := cB HB.o hx112_3
   replace hx112_4 := cB HB.o hx112_4
   replace hx112_5 := cB HB.o hx112_5
   replace hx112_6 := cB HB.o hx112_6
   replace hx112_7 := cB HB.o hx112_7
   replace p112 := eq_true p112
   replace q112 := eq_true q112
   try go_wp2_with (first | ((with_reducible refine gd (N := 4) rfl ?_); refine bE (N := 4) (cs := #[.int .i64 0, .int .i64 0, .int .i64 0, .int .i64 0, .int .i64 0, .int .i64 0, .int .i64 0, .int .i64 0]) (t := 113) ?_; intro gb113 hg w18 hbox hb; have _ := zK (bT (qB HB.o) hb); have _ := zK (hbox); have _ := zK ((by rw [hg]; exact (bZ (qB HB.o)) : w.heap.size ≤ gb113)); have _ := zK ((by rw [hg]; exact (bZ (qB HB.o)) : w.heap.size ≤ gb113)); clear HB; rename_i HB BK113 GW113 GE113; clear hb hbox hg; obtain ⟨hcz19_0, hcz19_1, hcz19_2, hcz19_3, hcz19_4, hcz19_5, hcz19_6, hcz19_7, hfz19_0, hfz19_1, hfz19_2, hfz19_3, hfz19_4, hfz19_5, hfz19_6, hfz19_7⟩ := bx8 BK113.o))
   have n0_ : Aside0 (((((((((w18.setCell ⟨gb113, 0, none⟩ (.int .i64 ((rd_T113 l0 x10_1).f0.f0))).setCell ⟨gb113, 1, none⟩ (.int .i64 ((rd_T113 l0 x10_1).f0.f1))).setCell ⟨gb113, 2, none⟩ (.int .i64 ((rd_T113 l0 x10_1).f0.f2))).setCell ⟨gb113, 3, none⟩ (.int .i64 ((rd_T113 l0 x10_1).f0.f3))).setCell ⟨gb113, 4, none⟩ (.int .i64 ((rd_T113 l0 x10_1).f0.f4))).setCell ⟨gb113, 5, none⟩ (.int .i64 ((rd_T113 l0 x10_1).f1))).setCell ⟨gb113, 6, none⟩ (.int .i64 ((rd_T113 l0 x10_1).f2))).setCell ⟨gb113, 7, none⟩ (.int .i64 ((rd_T113 l0 x10_1).f3))).heap[gb113]? = some (.cells #[.int .i64 ((rd_T113 l0 x10_1).f0.f0), .int .i64 ((rd_T113 l0 x10_1).f0.f1), .int .i64 ((rd_T113 l0 x10_1).f0.f2), .int .i64 ((rd_T113 l0 x10_1).f0.f3), .int .i64 ((rd_T113 l0 x10_1).f0.f4), .int .i64 ((rd_T113 l0 x10_1).f1), .int .i64 ((rd_T113 l0 x10_1).f2), .int .i64 ((rd_T113 l0 x10_1).f3)] 113 (0, 0))) := ⟨qP BK113.o⟩
   have n1_ : Aside0 (Below w.heap.size w ((((((((w18.setCell ⟨gb113, 0, none⟩ (.int .i64 ((rd_T113 l0 x10_1).f0.f0))).setCell ⟨gb113, 1, none⟩ (.int .i64 ((rd_T113 l0 x10_1).f0.f1))).setCell ⟨gb113, 2, none⟩ (.int .i64 ((rd_T113 l0 x10_1).f0.f2))).setCell ⟨gb113, 3, none⟩ (.int .i64 ((rd_T113 l0 x10_1).f0.f3))).setCell ⟨gb113, 4, none⟩ (.int .i64 ((rd_T113 l0 x10_1).f0.f4))).setCell ⟨gb113, 5, none⟩ (.int .i64 ((rd_T113 l0 x10_1).f1))).setCell ⟨gb113, 6, none⟩ (.int .i64 ((rd_T113 l0 x10_1).f2))).setCell ⟨gb113, 7, none⟩ (.int .i64 ((rd_T113 l0 x10_1).f3)))) := ⟨o3⟩
   (try clear BK113)
   (try clear HB)
   generalize ((((((((w18.setCell ⟨gb113, 0, none⟩ (.int .i64 ((rd_T113 l0 x10_1).f0.f0))).setCell ⟨gb113, 1, none⟩ (.int .i64 ((rd_T113 l0 x10_1).f0.f1))).setCell ⟨gb113, 2, none⟩ (.int .i64 ((rd_T113 l0 x10_1).f0.f2))).setCell ⟨gb113, 3, none⟩ (.int .i64 ((rd_T113 l0 x10_1).f0.f3))).setCell ⟨gb113, 4, none⟩ (.int .i64 ((rd_T113 l0 x10_1).f0.f4))).setCell ⟨gb113, 5, none⟩ (.int .i64 ((rd_T113 l0 x10_1).f1))).setCell ⟨gb113, 6, none⟩ (.int .i64 ((rd_T113 l0 x10_1).f2))).setCell ⟨gb113, 7, none⟩ (.int .i64 ((rd_T113 l0 x10_1).f3))) = w20 at n0_ n1_ ⊢
   have BK113 := n0_
   have HB := n1_
   clear n0_ n1_
   have _ := zK (kD BK113.o)
   have _ := zK (b1 HB.o)
   clear BK113 HB
   rename_i BK113 HB
   have p115 : 0 ≤ ((ji9) : Int) := oD M4
   have q115 : (ji9) < (l0.length : Int) := oD M4
   obtain ⟨ad115, e115, hx115_0, hx115_1, hx115_2, hx115_3, hx115_4, hx115_5, hx115_6, hx115_7⟩ := at_T113 HR0.o (ji9) p115 q115
   have hw115_7 := hx115_7
   have hw115_6 := hx115_6
   have hw115_5 := hx115_5
   have hw115_4 := hx115_4
   have hw115_3 := hx115_3
   have hw115_2 := hx115_2
   have hw115_1 := hx115_1
   have hw115_0 := hx115_0
   obtain rfl : ad112 = ad115 := (by injection e115)
   replace hx115_0 := cB HB.o hx115_0
   replace hx115_1 := cB HB.o hx115_1
   replace hx115_2 := cB HB.o hx115_2
   replace hx115_3 := cB HB.o hx115_3
   replace hx115_4 := cB HB.o hx115_4
   replace hx115_5 := cB HB.o hx115_5
   replace hx115_6 := cB HB.o hx115_6
   replace hx115_7 := cB HB.o hx115_7
   replace p115 := eq_true p115
   replace q115 := eq_true q115
   refine start_ (n := 20) (S := fun w' => w'.cell? ⟨gb113, 0, none⟩ = some (.int .i64 ((rd_T113 l0 x10_1).f0.f0)) ∧ w'.cell? ⟨gb113, 1, none⟩ = some (.int .i64 ((rd_T113 l0 x10_1).f0.f1)) ∧ w'.cell? ⟨gb113, 2, none⟩ = some (.int .i64 ((rd_T113 l0 x10_1).f0.f2)) ∧ w'.cell? ⟨gb113, 3, none⟩ = some (.int .i64 ((rd_T113 l0 x10_1).f0.f3)) ∧ w'.cell? ⟨gb113, 4, none⟩ = some (.int .i64 ((rd_T113 l0 x10_1).f0.f4)) ∧ w'.cell? ⟨gb113, 5, none⟩ = some (.int .i64 ((rd_T113 l0 x10_1).f1)) ∧ w'.cell? ⟨gb113, 6, none⟩ = some (.int .i64 ((rd_T113 l0 x10_1).f2)) ∧ w'.cell? ⟨gb113, 7, none⟩ = some (.int .i64 ((rd_T113 l0 x10_1).f3)) ∧ w'.cell? (ad112.add (((ji9)).toNat * 8)) = some (.int .i64 ((rd_T113 l0 (ji9)).f0.f0)) ∧ w'.cell? ⟨(ad112.add (((ji9)).toNat * 8)).block, (ad112.add (((ji9)).toNat * 8)).off + 1, none⟩ = some (.int .i64 ((rd_T113 l0 (ji9)).f0.f1)) ∧ w'.cell? ⟨(ad112.add (((ji9)).toNat * 8)).block, (ad112.add (((ji9)).toNat * 8)).off + 2, none⟩ = some (.int .i64 ((rd_T113 l0 (ji9)).f0.f2)) ∧ w'.cell? ⟨(ad112.add (((ji9)).toNat * 8)).block, (ad112.add (((ji9)).toNat * 8)).off + 3, none⟩ = some (.int .i64 ((rd_T113 l0 (ji9)).f0.f3)) ∧ w'.cell? ⟨(ad112.add (((ji9)).toNat * 8)).block, (ad112.add (((ji9)).toNat * 8)).off + 4, none⟩ = some (.int .i64 ((rd_T113 l0 (ji9)).f0.f4)) ∧ w'.cell? ⟨(ad112.add (((ji9)).toNat * 8)).block, (ad112.add (((ji9)).toNat * 8)).off + 5, none⟩ = some (.int .i64 ((rd_T113 l0 (ji9)).f1)) ∧ w'.cell? ⟨(ad112.add (((ji9)).toNat * 8)).block, (ad112.add (((ji9)).toNat * 8)).off + 6, none⟩ = some (.int .i64 ((rd_T113 l0 (ji9)).f2)) ∧ w'.cell? ⟨(ad112.add (((ji9)).toNat * 8)).block, (ad112.add (((ji9)).toNat * 8)).off + 7, none⟩ = some (.int .i64 ((rd_T113 l0 (ji9)).f3))) (ds := []) b2A0 (by kernel_rfl) rfl rfl (j8 BK113.o ⟨(cB HB.o hw115_0 :), (cB HB.o hw115_1 :), (cB HB.o hw115_2 :), (cB HB.o hw115_3 :), (cB HB.o hw115_4 :), (cB HB.o hw115_5 :), (cB HB.o hw115_6 :), (cB HB.o hw115_7 :)⟩) (fun hHeld => ?_); refine with_tabW impl_AreFinds.tab6 impl_AreFinds.bits6 (fun HT_ HW_ => ?_)
   generalize w20.drew = w21 at BK113 HB hx115_0 hx115_1 hx115_2 hx115_3 hx115_4 hx115_5 hx115_6 hx115_7 hHeld ⊢
   refine tI 0 (some 15) b2A1 HT_ HW_ hHeld rfl rfl (Or.inl ⟨by rfl, o7⟩) ?_
   refine one_ (i := 1) (N := some 16) b2A2 rfl rfl (one_of HT_.o (by kernel_rfl)) (by decide) (fun K hK => ?_)
   refine goes_ Try.func130 (by kernel_rfl) rfl #[.agg #[.int .i64 ((rd_T113 l0 x10_1).f0.f0), .int .i64 ((rd_T113 l0 x10_1).f0.f1), .int .i64 ((rd_T113 l0 x10_1).f0.f2), .int .i64 ((rd_T113 l0 x10_1).f0.f3), .int .i64 ((rd_T113 l0 x10_1).f0.f4), .int .i64 ((rd_T113 l0 x10_1).f1), .int .i64 ((rd_T113 l0 x10_1).f2), .int .i64 ((rd_T113 l0 x10_1).f3)]] (by rfl) rfl rfl M0 ?_
   with_reducible refine (impl_IsFind.calls ((rd_T113 l0 x10_1).f0.f0) ((rd_T113 l0 x10_1).f0.f1) ((rd_T113 l0 x10_1).f0.f2) ((rd_T113 l0 x10_1).f0.f3) ((rd_T113 l0 x10_1).f0.f4) ((rd_T113 l0 x10_1).f1) ((rd_T113 l0 x10_1).f2) ((rd_T113 l0 x10_1).f3) true _ A6.o).mono ?_
   rintro e w22 ⟨rfl, hb⟩
   refine ⟨_, rfl, ?_⟩
   have _ := zK (bB (qK BK113.o) hb)
   have _ := zK (bT (qX HB.o) hb)
   clear BK113 HB
   rename_i BK113 HB
   (try clear hb)
   (try clear hb2)
   (try clear hk)
   (try clear hi)
   refine hK.out _ _ (j8 BK113.o ⟨(cB HB.o hw115_0 :), (cB HB.o hw115_1 :), (cB HB.o hw115_2 :), (cB HB.o hw115_3 :), (cB HB.o hw115_4 :), (cB HB.o hw115_5 :), (cB HB.o hw115_6 :), (cB HB.o hw115_7 :)⟩) (fun hHeld => ?_)
   clear hK K
   refine norm_ (a' := ?_) ?_ ?_
   rotate_left
   ·show Act.put _ (some 16) _ = _
    simp only [Act.put, sA, sZ, sS, i64_w, i32_w]
    rfl
   refine pI 2 (some 17) b2A3 HT_ ?_
   refine pI 3 (some 18) b2A4 HT_ ?_
   refine pI 4 (some 19) b2A5 HT_ ?_
   refine pI 5 (some 20) b2A6 HT_ ?_
   refine pI 6 (some 21) b2A7 HT_ ?_
   refine pI 7 (some 22) b2A8 HT_ ?_
   refine pI 8 (some 23) b2A9 HT_ ?_
   refine pI 10 (some 25) b2A10 HT_ ?_
   refine pI 11 (some 26) b2A11 HT_ ?_
   refine pI 12 (some 27) b2A12 HT_ ?_
   refine pI 13 (some 28) b2A13 HT_ ?_
   refine pI 14 (some 29) b2A14 HT_ ?_
   refine pI 15 (some 30) b2A15 HT_ ?_
   refine tI 9 (some 24) b2A16 HT_ HW_ hHeld rfl rfl (Or.inl ⟨by rfl, o7⟩) ?_
   refine tI 16 (some 31) b2A17 HT_ HW_ hHeld rfl rfl (Or.inl ⟨by rfl, o7⟩) ?_
   refine pI 17 (some 32) b2A18 HT_ ?_
   refine pI 18 (some 33) b2A19 HT_ ?_
   refine pI 19 (some 34) b2A20 HT_ ?_
   refine done_ (done_of HT_.o (by kernel_rfl)) ?_
   try go_wp2
   go_roundg k1
   case measure => have := HK1.o; omega
   case rel => exact ⟨(wrap64 (x10_1 + 1)), M12, H', ⟨o6⟩, ⟨o3⟩⟩
end Go.Proofs.Ytejhjenlodclpaa.PFnHints
