/- Walks of functions that FnExactLettersFor reaches: written by a tool of the kit for this claim, then shortened by a program of ours. -/
import Derived.Test.YtpkdbkheggfkkaaPFnExactLettersForx0
import Derived.Test.YtpkdbkheggfkkaaPFnExactLettersForx14
/- narrow -/
namespace Go.Proofs.Ytpkdbkheggfkkaa.PFnExactLettersFor
open Go.RowKit Go.Proofs.YtpkdbkheggfkkaaW.PrintWords Go.Proofs.YtpkdbkheggfkkaaW.PrintLast Go.Proofs.YtpkdbkheggfkkaaW.PrintMore
attribute [local go_sem] max2_int min2_int max_two min_two max_three min_three max_four min_four   -- for this text's walks alone
set_option linter.unusedVariables false
set_option linter.unusedSimpArgs false

abbrev b15A0 : Array Bool := #[bo, bo, bo, bo, bo, bo, bo, bo, bo, bo, bo, bo, bo, bo, bo, bo, bo, bo, bo, bo, bo, bo, bo, bo, bo, bo]
abbrev b15A1 : Array Bool := #[bi, bo, bo, bo, bo, bo, bo, bo, bo, bo, bo, bo, bo, bo, bo, bo, bo, bo, bo, bo, bo, bo, bo, bo, bo, bo]
abbrev b15A2 : Array Bool := #[bi, bi, bo, bo, bo, bo, bo, bo, bo, bo, bo, bo, bo, bo, bo, bo, bo, bo, bo, bo, bo, bo, bo, bo, bo, bo]
abbrev b15A3 : Array Bool := #[bi, bi, bi, bo, bo, bo, bo, bo, bo, bo, bo, bo, bo, bo, bo, bo, bo, bo, bo, bo, bo, bo, bo, bo, bo, bo]
abbrev b15A4 : Array Bool := #[bi, bi, bi, bi, bo, bo, bo, bo, bo, bo, bo, bo, bo, bo, bo, bo, bo, bo, bo, bo, bo, bo, bo, bo, bo, bo]
abbrev b15A5 : Array Bool := #[bi, bi, bi, bi, bi, bo, bo, bo, bo, bo, bo, bo, bo, bo, bo, bo, bo, bo, bo, bo, bo, bo, bo, bo, bo, bo]
abbrev b15A6 : Array Bool := #[bi, bi, bi, bi, bi, bi, bo, bo, bo, bo, bo, bo, bo, bo, bo, bo, bo, bo, bo, bo, bo, bo, bo, bo, bo, bo]
abbrev b15A7 : Array Bool := #[bi, bi, bi, bi, bi, bi, bi, bo, bo, bo, bo, bo, bo, bo, bo, bo, bo, bo, bo, bo, bo, bo, bo, bo, bo, bo]
abbrev b15A8 : Array Bool := #[bi, bi, bi, bi, bi, bi, bi, bi, bo, bo, bo, bo, bo, bo, bo, bo, bo, bo, bo, bo, bo, bo, bo, bo, bo, bo]
abbrev b15A9 : Array Bool := #[bi, bi, bi, bi, bi, bi, bi, bi, bi, bo, bo, bo, bo, bo, bo, bo, bo, bo, bo, bo, bo, bo, bo, bo, bo, bo]
abbrev b15A10 : Array Bool := #[bi, bi, bi, bi, bi, bi, bi, bi, bi, bi, bo, bo, bo, bo, bo, bo, bo, bo, bo, bo, bo, bo, bo, bo, bo, bo]
abbrev b15A11 : Array Bool := #[bi, bi, bi, bi, bi, bi, bi, bi, bi, bi, bi, bo, bo, bo, bo, bo, bo, bo, bo, bo, bo, bo, bo, bo, bo, bo]
abbrev b15A12 : Array Bool := #[bi, bi, bi, bi, bi, bi, bi, bi, bi, bi, bi, bi, bo, bo, bo, bo, bo, bo, bo, bo, bo, bo, bo, bo, bo, bo]
abbrev b15A13 : Array Bool := #[bi, bi, bi, bi, bi, bi, bi, bi, bi, bi, bi, bi, bi, bo, bo, bo, bo, bo, bo, bo, bo, bo, bo, bo, bo, bo]
abbrev b15A14 : Array Bool := #[bi, bi, bi, bi, bi, bi, bi, bi, bi, bi, bi, bi, bi, bi, bo, bo, bo, bo, bo, bo, bo, bo, bo, bo, bo, bo]
abbrev b15A15 : Array Bool := #[bi, bi, bi, bi, bi, bi, bi, bi, bi, bi, bi, bi, bi, bi, bi, bo, bo, bo, bo, bo, bo, bo, bo, bo, bo, bo]
abbrev b15A16 : Array Bool := #[bi, bi, bi, bi, bi, bi, bi, bi, bi, bi, bi, bi, bi, bi, bi, bi, bo, bo, bo, bo, bo, bo, bo, bo, bo, bo]
abbrev b15A17 : Array Bool := #[bi, bi, bi, bi, bi, bi, bi, bi, bi, bi, bi, bi, bi, bi, bi, bi, bo, bi, bo, bo, bo, bo, bo, bo, bo, bo]
abbrev b15A18 : Array Bool := #[bi, bi, bi, bi, bi, bi, bi, bi, bi, bi, bi, bi, bi, bi, bi, bi, bo, bi, bi, bo, bo, bo, bo, bo, bo, bo]
abbrev b15A19 : Array Bool := #[bi, bi, bi, bi, bi, bi, bi, bi, bi, bi, bi, bi, bi, bi, bi, bi, bo, bi, bi, bi, bo, bo, bo, bo, bo, bo]
abbrev b15A20 : Array Bool := #[bi, bi, bi, bi, bi, bi, bi, bi, bi, bi, bi, bi, bi, bi, bi, bi, bo, bi, bi, bi, bi, bo, bo, bo, bo, bo]
abbrev b15A21 : Array Bool := #[bi, bi, bi, bi, bi, bi, bi, bi, bi, bi, bi, bi, bi, bi, bi, bi, bo, bi, bi, bi, bi, bi, bo, bo, bo, bo]
abbrev b15A22 : Array Bool := #[bi, bi, bi, bi, bi, bi, bi, bi, bi, bi, bi, bi, bi, bi, bi, bi, bi, bi, bi, bi, bi, bi, bo, bo, bo, bo]
abbrev b15A23 : Array Bool := #[bi, bi, bi, bi, bi, bi, bi, bi, bi, bi, bi, bi, bi, bi, bi, bi, bi, bi, bi, bi, bi, bi, bi, bo, bo, bo]
abbrev b15A24 : Array Bool := #[bi, bi, bi, bi, bi, bi, bi, bi, bi, bi, bi, bi, bi, bi, bi, bi, bi, bi, bi, bi, bi, bi, bi, bi, bo, bo]
abbrev b15A25 : Array Bool := #[bi, bi, bi, bi, bi, bi, bi, bi, bi, bi, bi, bi, bi, bi, bi, bi, bi, bi, bi, bi, bi, bi, bi, bi, bi, bo]
abbrev b15A26 : Array Bool := #[bi, bi, bi, bi, bi, bi, bi, bi, bi, bi, bi, bi, bi, bi, bi, bi, bi, bi, bi, bi, bi, bi, bi, bi, bi, bi]
abbrev b15A27 : Array Bool := #[bi, bi, bi, bi, bi, bi, bi, bi, bi, bi, bi, bi, bi, bi, bi, bi, bi, bo, bo, bo, bo, bo, bo, bo, bo, bo]
abbrev b15A28 : Array Bool := #[bi, bi, bi, bi, bi, bi, bi, bi, bi, bi, bi, bi, bi, bi, bi, bi, bi, bi, bo, bo, bo, bo, bo, bo, bo, bo]
abbrev b15A29 : Array Bool := #[bi, bi, bi, bi, bi, bi, bi, bi, bi, bi, bi, bi, bi, bi, bi, bi, bi, bi, bi, bo, bo, bo, bo, bo, bo, bo]
abbrev b15A30 : Array Bool := #[bi, bi, bi, bi, bi, bi, bi, bi, bi, bi, bi, bi, bi, bi, bi, bi, bi, bi, bi, bi, bo, bo, bo, bo, bo, bo]
abbrev b15A31 : Array Bool := #[bi, bi, bi, bi, bi, bi, bi, bi, bi, bi, bi, bi, bi, bi, bi, bi, bi, bi, bi, bi, bi, bo, bo, bo, bo, bo]
/-! ### spec_AreFinds: function 131 -/
def spec_AreFinds.l0 : Nat → List (S126) → Int → Option (Bool)
 | 0, _, _ => none
 | k + 1, x0, x3 => if x3 < (x0.length : Int) then (if 0 ≤ x3 then ((spec_IsFind.f ((rd_T126 x0 x3).f0.f0) ((rd_T126 x0 x3).f0.f1) ((rd_T126 x0 x3).f0.f2) ((rd_T126 x0 x3).f0.f3) ((rd_T126 x0 x3).f0.f4) ((rd_T126 x0 x3).f1) ((rd_T126 x0 x3).f2) ((rd_T126 x0 x3).f3)).bind fun t282 => (if t282 = true then (if x3 > 0 then (if 0 ≤ (wrap64 (x3 - 1)) then (if (wrap64 (x3 - 1)) < (x0.length : Int) then (if ((rd_T126 x0 (wrap64 (x3 - 1))).f0.f0) ≥ ((rd_T126 x0 x3).f0.f0) then (some false) else (spec_AreFinds.l0 k x0 (wrap64 (x3 + 1)))) else (none)) else (none)) else (spec_AreFinds.l0 k x0 (wrap64 (x3 + 1)))) else (some false))) else (none)) else (some (decide ((x0.length : Int) ≤ 20)))
def spec_AreFinds.f (k : Nat) (l0 : List (S126)) : Option (Bool) := spec_AreFinds.l0 k l0 0
def spec_AreFinds.T4 : Bool × List (List Nat × List Nat) := (true, [([], []), ([], []), ([0, 1], [0, 1]), ([2], [2]), ([3], [3]), ([4], [4]), ([5, 4], [5]), ([6], [6]), ([7, 6], [6, 7]), ([8, 6, 6], [6, 8]), ([9], [9]), ([9], [9]), ([11, 9], [9, 11]), ([10, 12, 9], [9, 10, 12]), ([13, 9], [9, 13]), ([14, 9], [9, 14]), ([15, 9], [9, 15]), ([9], [9]), ([9], [9]), ([17, 18, 9], [9, 17, 18]), ([19, 9], [9, 19]), ([20, 9], [9, 20]), ([21, 9], [9, 21]), ([16, 22, 9], [9, 16, 22]), ([9, 23, 6], [6, 9, 23]), ([6, 24], [6, 24])])
def spec_AreFinds.B4 : List Nat := [0, 0, 3, 7, 15, 31, 63, 127, 255, 511, 1023, 1023, 3071, 8191, 16383, 32767, 65535, 1023, 1023, 394239, 918527, 1967103, 4064255, 8388607, 16777215, 33554431]
theorem spec_AreFinds.tab4 : rtab .any (opsOf Try.f131 4) = spec_AreFinds.T4 := by kernel_rfl
theorem spec_AreFinds.bits4 : waitsOk spec_AreFinds.T4.2 spec_AreFinds.B4 = true := by kernel_rfl
set_option maxHeartbeats 8000000 in
set_option maxRecDepth 100000 in
theorem spec_AreFinds.calls (k : Nat) (A0 : Option Addr) (c0 : Nat) (l0 : List (S126)) (r : Bool) (w : World) (hr0 : Kd.C k126 w A0 l0.length l0) (hc0 : l0.length ≤ c0) (h : spec_AreFinds.f k l0 = some r) :
  Calls Try.prog 131 #[.slice A0 l0.length c0] w fun e w' => e = .returned (.bool r) ∧ Below w.heap.size w w' := by
 have hu126 := Try.underlying126
 have HR0 := zK hr0
 have HC0 := zK hc0
 clear hr0 hc0
 have HB := zK (Below.refl w.heap.size w)
 have H : (spec_AreFinds.l0 k l0 0) = some r := h
 clear h
 have H' := zK H
 clear H
 go_enter Try.func131, Try.ntmps131
 go_wp2
 go_loopg [3] k (fun kq v3 w' => ∃ (x3_1 : Int), v3 = .int .i64 x3_1 ∧ Aside0 (spec_AreFinds.l0 kq l0 x3_1 = some r) ∧ Aside0 (kq ≤ k) ∧ Aside0 (Below w.heap.size w w'))
 case atStart => exact ⟨(0), M3, H', ⟨Nat.le_refl _⟩, ⟨by exact qB HB.o⟩⟩
 case round =>
  clear H'
  try clear c1
  obtain ⟨x3_1, rfl, HA, HK1, HB⟩ := hrel
  cases gk with
  | zero => exact absurd HA.o (by simp [spec_AreFinds.l0])
  | succ k1 =>
   have H := HA.o
   clear HA
   simp only [spec_AreFinds.l0] at H
   by_cases c2 : x3_1 < (l0.length : Int)
   rotate_left
   ·rw [if_neg c2] at H
    have c2b0 : decide (x3_1 < (l0.length : Int)) = false := decide_eq_false c2
    clear c2
    obtain rfl := Option.some.inj H
    go_wp2
    go_ret
    exact ⟨by first | rfl | (simp [errW_none, errW_some] <;> rfl) | (simp [*, errW_none, errW_some] <;> rfl), by exact qB HB.o⟩

   rw [if_pos c2] at H
   have c2b0 : decide (x3_1 < (l0.length : Int)) = true := decide_eq_true c2
   clear c2
   by_cases c3 : 0 ≤ x3_1
   rotate_left
   ·rw [if_neg c3] at H
    exact absurd H (by simp)
   rw [if_pos c3] at H
   have c3b0 : decide (0 ≤ x3_1) = true := decide_eq_true c3
   clear c3
   replace H := Option.bind_eq_some_iff.mp H
   obtain ⟨t282, A40, H⟩ := H
   try dsimp only at H
   have A4 := zK A40
   clear A40
   by_cases c5 : t282 = true
   rotate_left
   ·replace c5 := Bool.eq_false_iff.mpr c5
    subst c5
    have H1 : (some false) = some r := by rw [if_neg (show ¬ (false = true) by decide)] at H; exact H
    clear H
    have H := H1
    clear H1
    obtain rfl := Option.some.inj H
    try go_wp2
    have n0_ := zK (below_drew1 HB.o)
    clear HB
    have HB := n0_
    clear n0_
    have p281 : 0 ≤ (x3_1 : Int) := oD M1
    have q281 : x3_1 < (l0.length : Int) := oD M1
    obtain ⟨ad281, e281, hx281_0, hx281_1, hx281_2, hx281_3, hx281_4, hx281_5, hx281_6, hx281_7⟩ := at_T126 HR0.o x3_1 p281 q281
    have hw281_7 := hx281_7
    have hw281_6 := hx281_6
    have hw281_5 := hx281_5
    have hw281_4 := hx281_4
    have hw281_3 := hx281_3
    have hw281_2 := hx281_2
    have hw281_1 := hx281_1
    have hw281_0 := hx281_0
    cases e281
    replace hx281_0 := cB HB.o hx281_0
    replace hx281_1 := cB HB.o hx281_1
    replace hx281_2 := cB HB.o hx281_2
    replace hx281_3 := cB HB.o hx281_3
    replace hx281_4 := cB HB.o hx281_4
    replace hx281_5 := cB HB.o hx281_5
    replace hx281_6 := cB HB.o hx281_6
    replace hx281_7 := cB HB.o hx281_7
    replace p281 := eq_true p281
    replace q281 := eq_true q281
    refine start_ (n := 26) (S := fun w' => w'.cell? (ad281.add ((x3_1).toNat * 8)) = some (.int .i64 ((rd_T126 l0 x3_1).f0.f0)) ∧ w'.cell? ⟨(ad281.add ((x3_1).toNat * 8)).block, (ad281.add ((x3_1).toNat * 8)).off + 1, none⟩ = some (.int .i64 ((rd_T126 l0 x3_1).f0.f1)) ∧ w'.cell? ⟨(ad281.add ((x3_1).toNat * 8)).block, (ad281.add ((x3_1).toNat * 8)).off + 2, none⟩ = some (.int .i64 ((rd_T126 l0 x3_1).f0.f2)) ∧ w'.cell? ⟨(ad281.add ((x3_1).toNat * 8)).block, (ad281.add ((x3_1).toNat * 8)).off + 3, none⟩ = some (.int .i64 ((rd_T126 l0 x3_1).f0.f3)) ∧ w'.cell? ⟨(ad281.add ((x3_1).toNat * 8)).block, (ad281.add ((x3_1).toNat * 8)).off + 4, none⟩ = some (.int .i64 ((rd_T126 l0 x3_1).f0.f4)) ∧ w'.cell? ⟨(ad281.add ((x3_1).toNat * 8)).block, (ad281.add ((x3_1).toNat * 8)).off + 5, none⟩ = some (.int .i64 ((rd_T126 l0 x3_1).f1)) ∧ w'.cell? ⟨(ad281.add ((x3_1).toNat * 8)).block, (ad281.add ((x3_1).toNat * 8)).off + 6, none⟩ = some (.int .i64 ((rd_T126 l0 x3_1).f2)) ∧ w'.cell? ⟨(ad281.add ((x3_1).toNat * 8)).block, (ad281.add ((x3_1).toNat * 8)).off + 7, none⟩ = some (.int .i64 ((rd_T126 l0 x3_1).f3))) (ds := []) b15A0 (by kernel_rfl) rfl rfl ⟨(cB HB.o hw281_0 :), (cB HB.o hw281_1 :), (cB HB.o hw281_2 :), (cB HB.o hw281_3 :), (cB HB.o hw281_4 :), (cB HB.o hw281_5 :), (cB HB.o hw281_6 :), (cB HB.o hw281_7 :)⟩ (fun hHeld => ?_); refine with_tabW spec_AreFinds.tab4 spec_AreFinds.bits4 (fun HT_ HW_ => ?_)
    generalize wr.drew = w17 at HB hx281_0 hx281_1 hx281_2 hx281_3 hx281_4 hx281_5 hx281_6 hx281_7 hHeld ⊢
    refine pI 0 (some 10) b15A1 HT_ ?_
    refine pI 1 (some 11) b15A2 HT_ ?_
    refine pI 2 (some 12) b15A3 HT_ ?_
    refine tI 3 (some 13) b15A4 HT_ HW_ hHeld rfl rfl (Or.inl ⟨by rfl, by rintro w' ⟨s0, s1, s2, s3, s4, s5, s6, s7⟩; go_simp; with_reducible rfl⟩) ?_
    refine one_ (i := 4) (N := some 14) b15A5 rfl rfl (one_of HT_.o (by kernel_rfl)) (by decide) (fun K hK => ?_)
    refine goes_ Try.func176 (by kernel_rfl) rfl #[.agg #[.int .i64 ((rd_T126 l0 x3_1).f0.f0), .int .i64 ((rd_T126 l0 x3_1).f0.f1), .int .i64 ((rd_T126 l0 x3_1).f0.f2), .int .i64 ((rd_T126 l0 x3_1).f0.f3), .int .i64 ((rd_T126 l0 x3_1).f0.f4), .int .i64 ((rd_T126 l0 x3_1).f1), .int .i64 ((rd_T126 l0 x3_1).f2), .int .i64 ((rd_T126 l0 x3_1).f3)]] (by rfl) rfl rfl M0 ?_
    with_reducible refine (spec_IsFind.calls ((rd_T126 l0 x3_1).f0.f0) ((rd_T126 l0 x3_1).f0.f1) ((rd_T126 l0 x3_1).f0.f2) ((rd_T126 l0 x3_1).f0.f3) ((rd_T126 l0 x3_1).f0.f4) ((rd_T126 l0 x3_1).f1) ((rd_T126 l0 x3_1).f2) ((rd_T126 l0 x3_1).f3) false _ A4.o).mono ?_
    rintro e w18 ⟨rfl, hb⟩
    refine ⟨_, rfl, ?_⟩
    have n0_ := zK (bT (qB HB.o) hb)
    clear HB
    have HB := n0_
    clear n0_
    (try clear hb)
    (try clear hb2)
    (try clear hk)
    (try clear hi)
    refine hK.out _ _ ⟨(cB HB.o hw281_0 :), (cB HB.o hw281_1 :), (cB HB.o hw281_2 :), (cB HB.o hw281_3 :), (cB HB.o hw281_4 :), (cB HB.o hw281_5 :), (cB HB.o hw281_6 :), (cB HB.o hw281_7 :)⟩ (fun hHeld => ?_)
    clear hK K
    refine norm_ (a' := ?_) ?_ ?_
    rotate_left
    ·show Act.put _ (some 14) _ = _
     simp only [Act.put, sA, sZ, sS, i64_w, i32_w]
     rfl
    refine pI 5 (some 15) b15A6 HT_ ?_
    refine pI 6 (some 16) b15A7 HT_ ?_
    refine pU 7 (some 17) b15A8 HT_ ?_
    refine pU 8 (some 18) b15A9 HT_ ?_
    refine pU 9 (some 19) b15A10 HT_ ?_
    refine pU 10 (some 20) b15A11 HT_ ?_
    refine pU 11 (some 21) b15A12 HT_ ?_
    refine pU 12 (some 22) b15A13 HT_ ?_
    refine pU 13 (some 23) b15A14 HT_ ?_
    refine pU 14 (some 24) b15A15 HT_ ?_
    refine pU 15 (some 25) b15A16 HT_ ?_
    refine pU 16 (some 26) b15A27 HT_ ?_
    refine pU 17 (some 27) b15A28 HT_ ?_
    refine pU 18 (some 28) b15A29 HT_ ?_
    refine pU 19 (some 29) b15A30 HT_ ?_
    refine pU 20 (some 30) b15A31 HT_ ?_
    refine pU 21 (some 31) b15A22 HT_ ?_
    refine pU 22 (some 32) b15A23 HT_ ?_
    refine pU 23 (some 33) b15A24 HT_ ?_
    refine pU 24 (some 34) b15A25 HT_ ?_
    refine pI 25 (some 35) b15A26 HT_ ?_
    refine done_ (done_of HT_.o (by kernel_rfl)) ?_
    try go_wp2
    go_ret
    exact ⟨by first | rfl | (simp [errW_none, errW_some] <;> rfl) | (simp [*, errW_none, errW_some] <;> rfl), by exact qB HB.o⟩
   subst c5
   have H1 : (if x3_1 > 0 then (if 0 ≤ (wrap64 (x3_1 - 1)) then (if (wrap64 (x3_1 - 1)) < (l0.length : Int) then (if ((rd_T126 l0 (wrap64 (x3_1 - 1))).f0.f0) ≥ ((rd_T126 l0 x3_1).f0.f0) then (some false) else (spec_AreFinds.l0 k1 l0 (wrap64 (x3_1 + 1)))) else (none)) else (none)) else (spec_AreFinds.l0 k1 l0 (wrap64 (x3_1 + 1)))) = some r := by rw [if_pos rfl] at H; exact H
   clear H
   have H := H1
   clear H1
   by_cases c6 : x3_1 > 0
   rotate_left
   ·rw [if_neg c6] at H
    have c6b0 : decide (0 < x3_1) = false := decide_eq_false c6
    clear c6
    have H' := zK H
    clear H
    try go_wp2
    have n0_ := zK (below_drew1 HB.o)
    clear HB
    have HB := n0_
    clear n0_
    have p281 : 0 ≤ (x3_1 : Int) := oD M1
    have q281 : x3_1 < (l0.length : Int) := oD M1
    obtain ⟨ad281, e281, hx281_0, hx281_1, hx281_2, hx281_3, hx281_4, hx281_5, hx281_6, hx281_7⟩ := at_T126 HR0.o x3_1 p281 q281
    have hw281_7 := hx281_7
    have hw281_6 := hx281_6
    have hw281_5 := hx281_5
    have hw281_4 := hx281_4
    have hw281_3 := hx281_3
    have hw281_2 := hx281_2
    have hw281_1 := hx281_1
    have hw281_0 := hx281_0
    cases e281
    replace hx281_0 := cB HB.o hx281_0
    replace hx281_1 := cB HB.o hx281_1
    replace hx281_2 := cB HB.o hx281_2
    replace hx281_3 := cB HB.o hx281_3
    replace hx281_4 := cB HB.o hx281_4
    replace hx281_5 := cB HB.o hx281_5
    replace hx281_6 := cB HB.o hx281_6
    replace hx281_7 := cB HB.o hx281_7
    replace p281 := eq_true p281
    replace q281 := eq_true q281
    refine start_ (n := 26) (S := fun w' => w'.cell? (ad281.add ((x3_1).toNat * 8)) = some (.int .i64 ((rd_T126 l0 x3_1).f0.f0)) ∧ w'.cell? ⟨(ad281.add ((x3_1).toNat * 8)).block, (ad281.add ((x3_1).toNat * 8)).off + 1, none⟩ = some (.int .i64 ((rd_T126 l0 x3_1).f0.f1)) ∧ w'.cell? ⟨(ad281.add ((x3_1).toNat * 8)).block, (ad281.add ((x3_1).toNat * 8)).off + 2, none⟩ = some (.int .i64 ((rd_T126 l0 x3_1).f0.f2)) ∧ w'.cell? ⟨(ad281.add ((x3_1).toNat * 8)).block, (ad281.add ((x3_1).toNat * 8)).off + 3, none⟩ = some (.int .i64 ((rd_T126 l0 x3_1).f0.f3)) ∧ w'.cell? ⟨(ad281.add ((x3_1).toNat * 8)).block, (ad281.add ((x3_1).toNat * 8)).off + 4, none⟩ = some (.int .i64 ((rd_T126 l0 x3_1).f0.f4)) ∧ w'.cell? ⟨(ad281.add ((x3_1).toNat * 8)).block, (ad281.add ((x3_1).toNat * 8)).off + 5, none⟩ = some (.int .i64 ((rd_T126 l0 x3_1).f1)) ∧ w'.cell? ⟨(ad281.add ((x3_1).toNat * 8)).block, (ad281.add ((x3_1).toNat * 8)).off + 6, none⟩ = some (.int .i64 ((rd_T126 l0 x3_1).f2)) ∧ w'.cell? ⟨(ad281.add ((x3_1).toNat * 8)).block, (ad281.add ((x3_1).toNat * 8)).off + 7, none⟩ = some (.int .i64 ((rd_T126 l0 x3_1).f3))) (ds := []) b15A0 (by kernel_rfl) rfl rfl ⟨(cB HB.o hw281_0 :), (cB HB.o hw281_1 :), (cB HB.o hw281_2 :), (cB HB.o hw281_3 :), (cB HB.o hw281_4 :), (cB HB.o hw281_5 :), (cB HB.o hw281_6 :), (cB HB.o hw281_7 :)⟩ (fun hHeld => ?_); refine with_tabW spec_AreFinds.tab4 spec_AreFinds.bits4 (fun HT_ HW_ => ?_)
    generalize wr.drew = w15 at HB hx281_0 hx281_1 hx281_2 hx281_3 hx281_4 hx281_5 hx281_6 hx281_7 hHeld ⊢
    refine pI 0 (some 10) b15A1 HT_ ?_
    refine pI 1 (some 11) b15A2 HT_ ?_
    refine pI 2 (some 12) b15A3 HT_ ?_
    refine tI 3 (some 13) b15A4 HT_ HW_ hHeld rfl rfl (Or.inl ⟨by rfl, by rintro w' ⟨s0, s1, s2, s3, s4, s5, s6, s7⟩; go_simp; with_reducible rfl⟩) ?_
    refine one_ (i := 4) (N := some 14) b15A5 rfl rfl (one_of HT_.o (by kernel_rfl)) (by decide) (fun K hK => ?_)
    refine goes_ Try.func176 (by kernel_rfl) rfl #[.agg #[.int .i64 ((rd_T126 l0 x3_1).f0.f0), .int .i64 ((rd_T126 l0 x3_1).f0.f1), .int .i64 ((rd_T126 l0 x3_1).f0.f2), .int .i64 ((rd_T126 l0 x3_1).f0.f3), .int .i64 ((rd_T126 l0 x3_1).f0.f4), .int .i64 ((rd_T126 l0 x3_1).f1), .int .i64 ((rd_T126 l0 x3_1).f2), .int .i64 ((rd_T126 l0 x3_1).f3)]] (by rfl) rfl rfl M0 ?_
    with_reducible refine (spec_IsFind.calls ((rd_T126 l0 x3_1).f0.f0) ((rd_T126 l0 x3_1).f0.f1) ((rd_T126 l0 x3_1).f0.f2) ((rd_T126 l0 x3_1).f0.f3) ((rd_T126 l0 x3_1).f0.f4) ((rd_T126 l0 x3_1).f1) ((rd_T126 l0 x3_1).f2) ((rd_T126 l0 x3_1).f3) true _ A4.o).mono ?_
    rintro e w16 ⟨rfl, hb⟩
    refine ⟨_, rfl, ?_⟩
    have n0_ := zK (bT (qB HB.o) hb)
    clear HB
    have HB := n0_
    clear n0_
    (try clear hb)
    (try clear hb2)
    (try clear hk)
    (try clear hi)
    refine hK.out _ _ ⟨(cB HB.o hw281_0 :), (cB HB.o hw281_1 :), (cB HB.o hw281_2 :), (cB HB.o hw281_3 :), (cB HB.o hw281_4 :), (cB HB.o hw281_5 :), (cB HB.o hw281_6 :), (cB HB.o hw281_7 :)⟩ (fun hHeld => ?_)
    clear hK K
    refine norm_ (a' := ?_) ?_ ?_
    rotate_left
    ·show Act.put _ (some 14) _ = _
     simp only [Act.put, sA, sZ, sS, i64_w, i32_w]
     rfl
    refine pI 5 (some 15) b15A6 HT_ ?_
    refine pI 6 (some 16) b15A7 HT_ ?_
    refine pI 7 (some 17) b15A8 HT_ ?_
    refine pI 8 (some 18) b15A9 HT_ ?_
    refine pI 9 (some 19) b15A10 HT_ ?_
    refine pU 10 (some 20) b15A11 HT_ ?_
    refine pU 11 (some 21) b15A12 HT_ ?_
    refine pU 12 (some 22) b15A13 HT_ ?_
    refine pU 13 (some 23) b15A14 HT_ ?_
    refine pU 14 (some 24) b15A15 HT_ ?_
    refine pU 15 (some 25) b15A16 HT_ ?_
    refine pU 16 (some 26) b15A27 HT_ ?_
    refine pU 17 (some 27) b15A28 HT_ ?_
    refine pU 18 (some 28) b15A29 HT_ ?_
    refine pU 19 (some 29) b15A30 HT_ ?_
    refine pU 20 (some 30) b15A31 HT_ ?_
    refine pU 21 (some 31) b15A22 HT_ ?_
    refine pU 22 (some 32) b15A23 HT_ ?_
    refine pU 23 (some 33) b15A24 HT_ ?_
    refine pI 24 (some 34) b15A25 HT_ ?_
    refine pI 25 (some 35) b15A26 HT_ ?_
    refine done_ (done_of HT_.o (by kernel_rfl)) ?_
    try go_wp2
    go_roundg k1
    case measure => have := HK1.o; omega
    case rel => exact ⟨(wrap64 (x3_1 + 1)), M3, H', ⟨by have := HK1.o; omega⟩, ⟨by exact qB HB.o⟩⟩
   rw [if_pos c6] at H
   have c6b0 : decide (0 < x3_1) = true := decide_eq_true c6
   clear c6
   obtain ⟨ji7, hji7⟩ : ∃ j_ : Int, (wrap64 (x3_1 - 1)) = j_ := ⟨_, rfl⟩
   replace H : (if 0 ≤ (ji7) then (if (ji7) < (l0.length : Int) then (if ((rd_T126 l0 (ji7)).f0.f0) ≥ ((rd_T126 l0 x3_1).f0.f0) then (some false) else (spec_AreFinds.l0 k1 l0 (wrap64 (x3_1 + 1)))) else (none)) else (none)) = some r := by first | (rw [hji7] at H; exact H) | (simp only [hji7] at H ⊢; exact H)
   (try rw [hji7] at A4)
   have hji7w : (IntKind.i64.wrap (x3_1 - 1)) = ji7 := (i64_w _).trans hji7
   by_cases c8 : 0 ≤ (ji7)
   rotate_left
   ·rw [if_neg c8] at H
    exact absurd H (by simp)
   rw [if_pos c8] at H
   have c8b0 : decide (0 ≤ (ji7)) = true := decide_eq_true c8
   clear c8
   by_cases c9 : (ji7) < (l0.length : Int)
   rotate_left
   ·rw [if_neg c9] at H
    exact absurd H (by simp)
   rw [if_pos c9] at H
   have c9b0 : decide ((ji7) < (l0.length : Int)) = true := decide_eq_true c9
   clear c9
   by_cases c10 : ((rd_T126 l0 (ji7)).f0.f0) ≥ ((rd_T126 l0 x3_1).f0.f0)
   ·rw [if_pos c10] at H
    have c10b0 : decide (((rd_T126 l0 x3_1).f0.f0) ≤ ((rd_T126 l0 (ji7)).f0.f0)) = true := decide_eq_true c10
    clear c10
    obtain rfl := Option.some.inj H
    try go_wp2
    have n0_ := zK (below_drew1 HB.o)
    clear HB
    have HB := n0_
    clear n0_
    have p281 : 0 ≤ (x3_1 : Int) := oD M1
    have q281 : x3_1 < (l0.length : Int) := oD M1
    obtain ⟨ad281, e281, hx281_0, hx281_1, hx281_2, hx281_3, hx281_4, hx281_5, hx281_6, hx281_7⟩ := at_T126 HR0.o x3_1 p281 q281
    have hw281_7 := hx281_7
    have hw281_6 := hx281_6
    have hw281_5 := hx281_5
    have hw281_4 := hx281_4
    have hw281_3 := hx281_3
    have hw281_2 := hx281_2
    have hw281_1 := hx281_1
    have hw281_0 := hx281_0
    cases e281
    replace hx281_0 := cB HB.o hx281_0
    replace hx281_1 := cB HB.o hx281_1
    replace hx281_2 := cB HB.o hx281_2
    replace hx281_3 := cB HB.o hx281_3
    replace hx281_4 := cB HB.o hx281_4
    replace hx281_5 := cB HB.o hx281_5
    replace hx281_6 := cB HB.o hx281_6
    replace hx281_7 := cB HB.o hx281_7
    replace p281 := eq_true p281
    replace q281 := eq_true q281
    have p283 : 0 ≤ ((ji7) : Int) := oD M1
    have q283 : (ji7) < (l0.length : Int) := oD M1
    obtain ⟨ad283, e283, hx283_0, hx283_1, hx283_2, hx283_3, hx283_4, hx283_5, hx283_6, hx283_7⟩ := at_T126 HR0.o (ji7) p283 q283
    have hw283_7 := hx283_7
    have hw283_6 := hx283_6
    have hw283_5 := hx283_5
    have hw283_4 := hx283_4
    have hw283_3 := hx283_3
    have hw283_2 := hx283_2
    have hw283_1 := hx283_1
    have hw283_0 := hx283_0
    obtain rfl : ad281 = ad283 := (by injection e283)
    replace hx283_0 := cB HB.o hx283_0
    replace hx283_1 := cB HB.o hx283_1
    replace hx283_2 := cB HB.o hx283_2
    replace hx283_3 := cB HB.o hx283_3
    replace hx283_4 := cB HB.o hx283_4
    replace hx283_5 := cB HB.o hx283_5
    replace hx283_6 := cB HB.o hx283_6
    replace hx283_7 := cB HB.o hx283_7
    replace p283 := eq_true p283
    replace q283 := eq_true q283
    have p284 : 0 ≤ (x3_1 : Int) := oD M1
    have q284 : x3_1 < (l0.length : Int) := oD M1
    obtain ⟨ad284, e284, hx284_0, hx284_1, hx284_2, hx284_3, hx284_4, hx284_5, hx284_6, hx284_7⟩ := at_T126 HR0.o x3_1 p284 q284
    have hw284_7 := hx284_7
    have hw284_6 := hx284_6
    have hw284_5 := hx284_5
    have hw284_4 := hx284_4
    have hw284_3 := hx284_3
    have hw284_2 := hx284_2
    have hw284_1 := hx284_1
    have hw284_0 := hx284_0
    obtain rfl : ad281 = ad284 := (by injection e284)
    replace hx284_0 := cB HB.o hx284_0
    replace hx284_1 := cB HB.o hx284_1
    replace hx284_2 := cB HB.o hx284_2
    replace hx284_3 := cB HB.o hx284_3
    replace hx284_4 := cB HB.o hx284_4
    replace hx284_5 := cB HB.o hx284_5
    replace hx284_6 := cB HB.o hx284_6
    replace hx284_7 := cB HB.o hx284_7
    replace p284 := eq_true p284
    replace q284 := eq_true q284
    refine start_ (n := 26) (S := fun w' => w'.cell? (ad281.add ((x3_1).toNat * 8)) = some (.int .i64 ((rd_T126 l0 x3_1).f0.f0)) ∧ w'.cell? ⟨(ad281.add ((x3_1).toNat * 8)).block, (ad281.add ((x3_1).toNat * 8)).off + 1, none⟩ = some (.int .i64 ((rd_T126 l0 x3_1).f0.f1)) ∧ w'.cell? ⟨(ad281.add ((x3_1).toNat * 8)).block, (ad281.add ((x3_1).toNat * 8)).off + 2, none⟩ = some (.int .i64 ((rd_T126 l0 x3_1).f0.f2)) ∧ w'.cell? ⟨(ad281.add ((x3_1).toNat * 8)).block, (ad281.add ((x3_1).toNat * 8)).off + 3, none⟩ = some (.int .i64 ((rd_T126 l0 x3_1).f0.f3)) ∧ w'.cell? ⟨(ad281.add ((x3_1).toNat * 8)).block, (ad281.add ((x3_1).toNat * 8)).off + 4, none⟩ = some (.int .i64 ((rd_T126 l0 x3_1).f0.f4)) ∧ w'.cell? ⟨(ad281.add ((x3_1).toNat * 8)).block, (ad281.add ((x3_1).toNat * 8)).off + 5, none⟩ = some (.int .i64 ((rd_T126 l0 x3_1).f1)) ∧ w'.cell? ⟨(ad281.add ((x3_1).toNat * 8)).block, (ad281.add ((x3_1).toNat * 8)).off + 6, none⟩ = some (.int .i64 ((rd_T126 l0 x3_1).f2)) ∧ w'.cell? ⟨(ad281.add ((x3_1).toNat * 8)).block, (ad281.add ((x3_1).toNat * 8)).off + 7, none⟩ = some (.int .i64 ((rd_T126 l0 x3_1).f3)) ∧ w'.cell? (ad281.add (((ji7)).toNat * 8)) = some (.int .i64 ((rd_T126 l0 (ji7)).f0.f0)) ∧ w'.cell? ⟨(ad281.add (((ji7)).toNat * 8)).block, (ad281.add (((ji7)).toNat * 8)).off + 1, none⟩ = some (.int .i64 ((rd_T126 l0 (ji7)).f0.f1)) ∧ w'.cell? ⟨(ad281.add (((ji7)).toNat * 8)).block, (ad281.add (((ji7)).toNat * 8)).off + 2, none⟩ = some (.int .i64 ((rd_T126 l0 (ji7)).f0.f2)) ∧ w'.cell? ⟨(ad281.add (((ji7)).toNat * 8)).block, (ad281.add (((ji7)).toNat * 8)).off + 3, none⟩ = some (.int .i64 ((rd_T126 l0 (ji7)).f0.f3)) ∧ w'.cell? ⟨(ad281.add (((ji7)).toNat * 8)).block, (ad281.add (((ji7)).toNat * 8)).off + 4, none⟩ = some (.int .i64 ((rd_T126 l0 (ji7)).f0.f4)) ∧ w'.cell? ⟨(ad281.add (((ji7)).toNat * 8)).block, (ad281.add (((ji7)).toNat * 8)).off + 5, none⟩ = some (.int .i64 ((rd_T126 l0 (ji7)).f1)) ∧ w'.cell? ⟨(ad281.add (((ji7)).toNat * 8)).block, (ad281.add (((ji7)).toNat * 8)).off + 6, none⟩ = some (.int .i64 ((rd_T126 l0 (ji7)).f2)) ∧ w'.cell? ⟨(ad281.add (((ji7)).toNat * 8)).block, (ad281.add (((ji7)).toNat * 8)).off + 7, none⟩ = some (.int .i64 ((rd_T126 l0 (ji7)).f3)) ∧ w'.cell? (ad281.add ((x3_1).toNat * 8)) = some (.int .i64 ((rd_T126 l0 x3_1).f0.f0)) ∧ w'.cell? ⟨(ad281.add ((x3_1).toNat * 8)).block, (ad281.add ((x3_1).toNat * 8)).off + 1, none⟩ = some (.int .i64 ((rd_T126 l0 x3_1).f0.f1)) ∧ w'.cell? ⟨(ad281.add ((x3_1).toNat * 8)).block, (ad281.add ((x3_1).toNat * 8)).off + 2, none⟩ = some (.int .i64 ((rd_T126 l0 x3_1).f0.f2)) ∧ w'.cell? ⟨(ad281.add ((x3_1).toNat * 8)).block, (ad281.add ((x3_1).toNat * 8)).off + 3, none⟩ = some (.int .i64 ((rd_T126 l0 x3_1).f0.f3)) ∧ w'.cell? ⟨(ad281.add ((x3_1).toNat * 8)).block, (ad281.add ((x3_1).toNat * 8)).off + 4, none⟩ = some (.int .i64 ((rd_T126 l0 x3_1).f0.f4)) ∧ w'.cell? ⟨(ad281.add ((x3_1).toNat * 8)).block, (ad281.add ((x3_1).toNat * 8)).off + 5, none⟩ = some (.int .i64 ((rd_T126 l0 x3_1).f1)) ∧ w'.cell? ⟨(ad281.add ((x3_1).toNat * 8)).block, (ad281.add ((x3_1).toNat * 8)).off + 6, none⟩ = some (.int .i64 ((rd_T126 l0 x3_1).f2)) ∧ w'.cell? ⟨(ad281.add ((x3_1).toNat * 8)).block, (ad281.add ((x3_1).toNat * 8)).off + 7, none⟩ = some (.int .i64 ((rd_T126 l0 x3_1).f3))) (ds := []) b15A0 (by kernel_rfl) rfl rfl ⟨(cB HB.o hw281_0 :), (cB HB.o hw281_1 :), (cB HB.o hw281_2 :), (cB HB.o hw281_3 :), (cB HB.o hw281_4 :), (cB HB.o hw281_5 :), (cB HB.o hw281_6 :), (cB HB.o hw281_7 :), (cB HB.o hw283_0 :), (cB HB.o hw283_1 :), (cB HB.o hw283_2 :), (cB HB.o hw283_3 :), (cB HB.o hw283_4 :), (cB HB.o hw283_5 :), (cB HB.o hw283_6 :), (cB HB.o hw283_7 :), (cB HB.o hw284_0 :), (cB HB.o hw284_1 :), (cB HB.o hw284_2 :), (cB HB.o hw284_3 :), (cB HB.o hw284_4 :), (cB HB.o hw284_5 :), (cB HB.o hw284_6 :), (cB HB.o hw284_7 :)⟩ (fun hHeld => ?_); refine with_tabW spec_AreFinds.tab4 spec_AreFinds.bits4 (fun HT_ HW_ => ?_)
    generalize wr.drew = w11 at HB hx281_0 hx281_1 hx281_2 hx281_3 hx281_4 hx281_5 hx281_6 hx281_7 hx283_0 hx283_1 hx283_2 hx283_3 hx283_4 hx283_5 hx283_6 hx283_7 hx284_0 hx284_1 hx284_2 hx284_3 hx284_4 hx284_5 hx284_6 hx284_7 hHeld ⊢
    refine pI 0 (some 10) b15A1 HT_ ?_
    refine pI 1 (some 11) b15A2 HT_ ?_
    refine pI 2 (some 12) b15A3 HT_ ?_
    refine tI 3 (some 13) b15A4 HT_ HW_ hHeld rfl rfl (Or.inl ⟨by rfl, by rintro w' ⟨s0, s1, s2, s3, s4, s5, s6, s7, s8, s9, s10, s11, s12, s13, s14, s15, s16, s17, s18, s19, s20, s21, s22, s23⟩; go_simp; with_reducible rfl⟩) ?_
    refine one_ (i := 4) (N := some 14) b15A5 rfl rfl (one_of HT_.o (by kernel_rfl)) (by decide) (fun K hK => ?_)
    refine goes_ Try.func176 (by kernel_rfl) rfl #[.agg #[.int .i64 ((rd_T126 l0 x3_1).f0.f0), .int .i64 ((rd_T126 l0 x3_1).f0.f1), .int .i64 ((rd_T126 l0 x3_1).f0.f2), .int .i64 ((rd_T126 l0 x3_1).f0.f3), .int .i64 ((rd_T126 l0 x3_1).f0.f4), .int .i64 ((rd_T126 l0 x3_1).f1), .int .i64 ((rd_T126 l0 x3_1).f2), .int .i64 ((rd_T126 l0 x3_1).f3)]] (by rfl) rfl rfl M0 ?_
    with_reducible refine (spec_IsFind.calls ((rd_T126 l0 x3_1).f0.f0) ((rd_T126 l0 x3_1).f0.f1) ((rd_T126 l0 x3_1).f0.f2) ((rd_T126 l0 x3_1).f0.f3) ((rd_T126 l0 x3_1).f0.f4) ((rd_T126 l0 x3_1).f1) ((rd_T126 l0 x3_1).f2) ((rd_T126 l0 x3_1).f3) true _ A4.o).mono ?_
    rintro e w12 ⟨rfl, hb⟩
    refine ⟨_, rfl, ?_⟩
    have n0_ := zK (bT (qB HB.o) hb)
    clear HB
    have HB := n0_
    clear n0_
    (try clear hb)
    (try clear hb2)
    (try clear hk)
    (try clear hi)
    refine hK.out _ _ ⟨(cB HB.o hw281_0 :), (cB HB.o hw281_1 :), (cB HB.o hw281_2 :), (cB HB.o hw281_3 :), (cB HB.o hw281_4 :), (cB HB.o hw281_5 :), (cB HB.o hw281_6 :), (cB HB.o hw281_7 :), (cB HB.o hw283_0 :), (cB HB.o hw283_1 :), (cB HB.o hw283_2 :), (cB HB.o hw283_3 :), (cB HB.o hw283_4 :), (cB HB.o hw283_5 :), (cB HB.o hw283_6 :), (cB HB.o hw283_7 :), (cB HB.o hw284_0 :), (cB HB.o hw284_1 :), (cB HB.o hw284_2 :), (cB HB.o hw284_3 :), (cB HB.o hw284_4 :), (cB HB.o hw284_5 :), (cB HB.o hw284_6 :), (cB HB.o hw284_7 :)⟩ (fun hHeld => ?_)
    clear hK K
    refine norm_ (a' := ?_) ?_ ?_
    rotate_left
    ·show Act.put _ (some 14) _ = _
     simp only [Act.put, sA, sZ, sS, i64_w, i32_w]
     rfl
    refine pI 5 (some 15) b15A6 HT_ ?_
    refine pI 6 (some 16) b15A7 HT_ ?_
    refine pI 7 (some 17) b15A8 HT_ ?_
    refine pI 8 (some 18) b15A9 HT_ ?_
    refine pI 9 (some 19) b15A10 HT_ ?_
    refine pI 10 (some 20) b15A11 HT_ ?_
    refine pI 11 (some 21) b15A12 HT_ ?_
    refine pI 12 (some 22) b15A13 HT_ ?_
    refine pI 13 (some 23) b15A14 HT_ ?_
    refine pI 14 (some 24) b15A15 HT_ ?_
    refine pI 15 (some 25) b15A16 HT_ ?_
    refine pI 17 (some 27) b15A17 HT_ ?_
    refine pI 18 (some 28) b15A18 HT_ ?_
    refine pI 19 (some 29) b15A19 HT_ ?_
    refine pI 20 (some 30) b15A20 HT_ ?_
    refine pI 21 (some 31) b15A21 HT_ ?_
    refine tI 16 (some 26) b15A22 HT_ HW_ hHeld rfl rfl (Or.inl ⟨by rfl, by rintro w' ⟨s0, s1, s2, s3, s4, s5, s6, s7, s8, s9, s10, s11, s12, s13, s14, s15, s16, s17, s18, s19, s20, s21, s22, s23⟩; go_simp; with_reducible rfl⟩) ?_
    refine tI 22 (some 32) b15A23 HT_ HW_ hHeld rfl rfl (Or.inl ⟨by rfl, by rintro w' ⟨s0, s1, s2, s3, s4, s5, s6, s7, s8, s9, s10, s11, s12, s13, s14, s15, s16, s17, s18, s19, s20, s21, s22, s23⟩; go_simp; with_reducible rfl⟩) ?_
    refine pI 23 (some 33) b15A24 HT_ ?_
    refine pI 24 (some 34) b15A25 HT_ ?_
    refine pI 25 (some 35) b15A26 HT_ ?_
    refine done_ (done_of HT_.o (by kernel_rfl)) ?_
    try go_wp2
    go_ret
    exact ⟨by first | rfl | (simp [errW_none, errW_some] <;> rfl) | (simp only [← hji7]; first | rfl | (simp [errW_none, errW_some] <;> rfl)) | (simp [*, errW_none, errW_some] <;> rfl), by exact qB HB.o⟩
   rw [if_neg c10] at H
   have c10b0 : decide (((rd_T126 l0 x3_1).f0.f0) ≤ ((rd_T126 l0 (ji7)).f0.f0)) = false := decide_eq_false c10
   clear c10
   have H' := zK H
   clear H
   try go_wp2
   have n0_ := zK (below_drew1 HB.o)
   clear HB
   have HB := n0_
   clear n0_
   have p281 : 0 ≤ (x3_1 : Int) := oD M1
   have q281 : x3_1 < (l0.length : Int) := oD M1
   obtain ⟨ad281, e281, hx281_0, hx281_1, hx281_2, hx281_3, hx281_4, hx281_5, hx281_6, hx281_7⟩ := at_T126 HR0.o x3_1 p281 q281
   have hw281_7 := hx281_7
   have hw281_6 := hx281_6
   have hw281_5 := hx281_5
   have hw281_4 := hx281_4
   have hw281_3 := hx281_3
   have hw281_2 := hx281_2
   have hw281_1 := hx281_1
   have hw281_0 := hx281_0
   cases e281
   replace hx281_0 := cB HB.o hx281_0
   replace hx281_1 := cB HB.o hx281_1
   replace hx281_2 := cB HB.o hx281_2
   replace hx281_3 := cB HB.o hx281_3
   replace hx281_4 := cB HB.o hx281_4
   replace hx281_5 := cB HB.o hx281_5
   replace hx281_6 := cB HB.o hx281_6
   replace hx281_7 := cB HB.o hx281_7
   replace p281 := eq_true p281
   replace q281 := eq_true q281
   have p283 : 0 ≤ ((ji7) : Int) := oD M1
   have q283 : (ji7) < (l0.length : Int) := oD M1
   obtain ⟨ad283, e283, hx283_0, hx283_1, hx283_2, hx283_3, hx283_4, hx283_5, hx283_6, hx283_7⟩ := at_T126 HR0.o (ji7) p283 q283
   have hw283_7 := hx283_7
   have hw283_6 := hx283_6
   have hw283_5 := hx283_5
   have hw283_4 := hx283_4
   have hw283_3 := hx283_3
   have hw283_2 := hx283_2
   have hw283_1 := hx283_1
   have hw283_0 := hx283_0
   obtain rfl : ad281 = ad283 := (by injection e283)
   replace hx283_0 := cB HB.o hx283_0
   replace hx283_1 := cB HB.o hx283_1
   replace hx283_2 := cB HB.o hx283_2
   replace hx283_3 := cB HB.o hx283_3
   replace hx283_4 := cB HB.o hx283_4
   replace hx283_5 := cB HB.o hx283_5
   replace hx283_6 := cB HB.o hx283_6
   replace hx283_7 := cB HB.o hx283_7
   replace p283 := eq_true p283
   replace q283 := eq_true q283
   have p284 : 0 ≤ (x3_1 : Int) := oD M1
   have q284 : x3_1 < (l0.length : Int) := oD M1
   obtain ⟨ad284, e284, hx284_0, hx284_1, hx284_2, hx284_3, hx284_4, hx284_5, hx284_6, hx284_7⟩ := at_T126 HR0.o x3_1 p284 q284
   have hw284_7 := hx284_7
   have hw284_6 := hx284_6
   have hw284_5 := hx284_5
   have hw284_4 := hx284_4
   have hw284_3 := hx284_3
   have hw284_2 := hx284_2
   have hw284_1 := hx284_1
   have hw284_0 := hx284_0
   obtain rfl : ad281 = ad284 := (by injection e284)
   replace hx284_0 := cB HB.o hx284_0
   replace hx284_1 := cB HB.o hx284_1
   replace hx284_2 := cB HB.o hx284_2
   replace hx284_3 := cB HB.o hx284_3
   replace hx284_4 := cB HB.o hx284_4
   replace hx284_5 := cB HB.o hx284_5
   replace hx284_6 := cB HB.o hx284_6
   replace hx284_7 := cB HB.o hx284_7
   replace p284 := eq_true p284
   replace q284 := eq_true q284
   refine start_ (n := 26) (S := fun w' => w'.cell? (ad281.add ((x3_1).toNat * 8)) = some (.int .i64 ((rd_T126 l0 x3_1).f0.f0)) ∧ w'.cell? ⟨(ad281.add ((x3_1).toNat * 8)).block, (ad281.add ((x3_1).toNat * 8)).off + 1, none⟩ = some (.int .i64 ((rd_T126 l0 x3_1).f0.f1)) ∧ w'.cell? ⟨(ad281.add ((x3_1).toNat * 8)).block, (ad281.add ((x3_1).toNat * 8)).off + 2, none⟩ = some (.int .i64 ((rd_T126 l0 x3_1).f0.f2)) ∧ w'.cell? ⟨(ad281.add ((x3_1).toNat * 8)).block, (ad281.add ((x3_1).toNat * 8)).off + 3, none⟩ = some (.int .i64 ((rd_T126 l0 x3_1).f0.f3)) ∧ w'.cell? ⟨(ad281.add ((x3_1).toNat * 8)).block, (ad281.add ((x3_1).toNat * 8)).off + 4, none⟩ = some (.int .i64 ((rd_T126 l0 x3_1).f0.f4)) ∧ w'.cell? ⟨(ad281.add ((x3_1).toNat * 8)).block, (ad281.add ((x3_1).toNat * 8)).off + 5, none⟩ = some (.int .i64 ((rd_T126 l0 x3_1).f1)) ∧ w'.cell? ⟨(ad281.add ((x3_1).toNat * 8)).block, (ad281.add ((x3_1).toNat * 8)).off + 6, none⟩ = some (.int .i64 ((rd_T126 l0 x3_1).f2)) ∧ w'.cell? ⟨(ad281.add ((x3_1).toNat * 8)).block, (ad281.add ((x3_1).toNat * 8)).off + 7, none⟩ = some (.int .i64 ((rd_T126 l0 x3_1).f3)) ∧ w'.cell? (ad281.add (((ji7)).toNat * 8)) = some (.int .i64 ((rd_T126 l0 (ji7)).f0.f0)) ∧ w'.cell? ⟨(ad281.add (((ji7)).toNat * 8)).block, (ad281.add (((ji7)).toNat * 8)).off + 1, none⟩ = some (.int .i64 ((rd_T126 l0 (ji7)).f0.f1)) ∧ w'.cell? ⟨(ad281.add (((ji7)).toNat * 8)).block, (ad281.add (((ji7)).toNat * 8)).off + 2, none⟩ = some (.int .i64 ((rd_T126 l0 (ji7)).f0.f2)) ∧ w'.cell? ⟨(ad281.add (((ji7)).toNat * 8)).block, (ad281.add (((ji7)).toNat * 8)).off + 3, none⟩ = some (.int .i64 ((rd_T126 l0 (ji7)).f0.f3)) ∧ w'.cell? ⟨(ad281.add (((ji7)).toNat * 8)).block, (ad281.add (((ji7)).toNat * 8)).off + 4, none⟩ = some (.int .i64 ((rd_T126 l0 (ji7)).f0.f4)) ∧ w'.cell? ⟨(ad281.add (((ji7)).toNat * 8)).block, (ad281.add (((ji7)).toNat * 8)).off + 5, none⟩ = some (.int .i64 ((rd_T126 l0 (ji7)).f1)) ∧ w'.cell? ⟨(ad281.add (((ji7)).toNat * 8)).block, (ad281.add (((ji7)).toNat * 8)).off + 6, none⟩ = some (.int .i64 ((rd_T126 l0 (ji7)).f2)) ∧ w'.cell? ⟨(ad281.add (((ji7)).toNat * 8)).block, (ad281.add (((ji7)).toNat * 8)).off + 7, none⟩ = some (.int .i64 ((rd_T126 l0 (ji7)).f3)) ∧ w'.cell? (ad281.add ((x3_1).toNat * 8)) = some (.int .i64 ((rd_T126 l0 x3_1).f0.f0)) ∧ w'.cell? ⟨(ad281.add ((x3_1).toNat * 8)).block, (ad281.add ((x3_1).toNat * 8)).off + 1, none⟩ = some (.int .i64 ((rd_T126 l0 x3_1).f0.f1)) ∧ w'.cell? ⟨(ad281.add ((x3_1).toNat * 8)).block, (ad281.add ((x3_1).toNat * 8)).off + 2, none⟩ = some (.int .i64 ((rd_T126 l0 x3_1).f0.f2)) ∧ w'.cell? ⟨(ad281.add ((x3_1).toNat * 8)).block, (ad281.add ((x3_1).toNat * 8)).off + 3, none⟩ = some (.int .i64 ((rd_T126 l0 x3_1).f0.f3)) ∧ w'.cell? ⟨(ad281.add ((x3_1).toNat * 8)).block, (ad281.add ((x3_1).toNat * 8)).off + 4, none⟩ = some (.int .i64 ((rd_T126 l0 x3_1).f0.f4)) ∧ w'.cell? ⟨(ad281.add ((x3_1).toNat * 8)).block, (ad281.add ((x3_1).toNat * 8)).off + 5, none⟩ = some (.int .i64 ((rd_T126 l0 x3_1).f1)) ∧ w'.cell? ⟨(ad281.add ((x3_1).toNat * 8)).block, (ad281.add ((x3_1).toNat * 8)).off + 6, none⟩ = some (.int .i64 ((rd_T126 l0 x3_1).f2)) ∧ w'.cell? ⟨(ad281.add ((x3_1).toNat * 8)).block, (ad281.add ((x3_1).toNat * 8)).off + 7, none⟩ = some (.int .i64 ((rd_T126 l0 x3_1).f3))) (ds := []) b15A0 (by kernel_rfl) rfl rfl ⟨(cB HB.o hw281_0 :), (cB HB.o hw281_1 :), (cB HB.o hw281_2 :), (cB HB.o hw281_3 :), (cB HB.o hw281_4 :), (cB HB.o hw281_5 :), (cB HB.o hw281_6 :), (cB HB.o hw281_7 :), (cB HB.o hw283_0 :), (cB HB.o hw283_1 :), (cB HB.o hw283_2 :), (cB HB.o hw283_3 :), (cB HB.o hw283_4 :), (cB HB.o hw283_5 :), (cB HB.o hw283_6 :), (cB HB.o hw283_7 :), (cB HB.o hw284_0 :), (cB HB.o hw284_1 :), (cB HB.o hw284_2 :), (cB HB.o hw284_3 :), (cB HB.o hw284_4 :), (cB HB.o hw284_5 :), (cB HB.o hw284_6 :), (cB HB.o hw284_7 :)⟩ (fun hHeld => ?_); refine with_tabW spec_AreFinds.tab4 spec_AreFinds.bits4 (fun HT_ HW_ => ?_)
   generalize wr.drew = w13 at HB hx281_0 hx281_1 hx281_2 hx281_3 hx281_4 hx281_5 hx281_6 hx281_7 hx283_0 hx283_1 hx283_2 hx283_3 hx283_4 hx283_5 hx283_6 hx283_7 hx284_0 hx284_1 hx284_2 hx284_3 hx284_4 hx284_5 hx284_6 hx284_7 hHeld ⊢
   refine pI 0 (some 10) b15A1 HT_ ?_
   refine pI 1 (some 11) b15A2 HT_ ?_
   refine pI 2 (some 12) b15A3 HT_ ?_
   refine tI 3 (some 13) b15A4 HT_ HW_ hHeld rfl rfl (Or.inl ⟨by rfl, by rintro w' ⟨s0, s1, s2, s3, s4, s5, s6, s7, s8, s9, s10, s11, s12, s13, s14, s15, s16, s17, s18, s19, s20, s21, s22, s23⟩; go_simp; with_reducible rfl⟩) ?_
   refine one_ (i := 4) (N := some 14) b15A5 rfl rfl (one_of HT_.o (by kernel_rfl)) (by decide) (fun K hK => ?_)
   refine goes_ Try.func176 (by kernel_rfl) rfl #[.agg #[.int .i64 ((rd_T126 l0 x3_1).f0.f0), .int .i64 ((rd_T126 l0 x3_1).f0.f1), .int .i64 ((rd_T126 l0 x3_1).f0.f2), .int .i64 ((rd_T126 l0 x3_1).f0.f3), .int .i64 ((rd_T126 l0 x3_1).f0.f4), .int .i64 ((rd_T126 l0 x3_1).f1), .int .i64 ((rd_T126 l0 x3_1).f2), .int .i64 ((rd_T126 l0 x3_1).f3)]] (by rfl) rfl rfl M0 ?_
   with_reducible refine (spec_IsFind.calls ((rd_T126 l0 x3_1).f0.f0) ((rd_T126 l0 x3_1).f0.f1) ((rd_T126 l0 x3_1).f0.f2) ((rd_T126 l0 x3_1).f0.f3) ((rd_T126 l0 x3_1).f0.f4) ((rd_T126 l0 x3_1).f1) ((rd_T126 l0 x3_1).f2) ((rd_T126 l0 x3_1).f3) true _ A4.o).mono ?_
   rintro e w14 ⟨rfl, hb⟩
   refine ⟨_, rfl, ?_⟩
   have n0_ := zK (bT (qB HB.o) hb)
   clear HB
   have HB := n0_
   clear n0_
   (try clear hb)
   (try clear hb2)
   (try clear hk)
   (try clear hi)
   refine hK.out _ _ ⟨(cB HB.o hw281_0 :), (cB HB.o hw281_1 :), (cB HB.o hw281_2 :), (cB HB.o hw281_3 :), (cB HB.o hw281_4 :), (cB HB.o hw281_5 :), (cB HB.o hw281_6 :), (cB HB.o hw281_7 :), (cB HB.o hw283_0 :), (cB HB.o hw283_1 :), (cB HB.o hw283_2 :), (cB HB.o hw283_3 :), (cB HB.o hw283_4 :), (cB HB.o hw283_5 :), (cB HB.o hw283_6 :), (cB HB.o hw283_7 :), (cB HB.o hw284_0 :), (cB HB.o hw284_1 :), (cB HB.o hw284_2 :), (cB HB.o hw284_3 :), (cB HB.o hw284_4 :), (cB HB.o hw284_5 :), (cB HB.o hw284_6 :), (cB HB.o hw284_7 :)⟩ (fun hHeld => ?_)
   clear hK K
   refine norm_ (a' := ?_) ?_ ?_
   rotate_left
   ·show Act.put _ (some 14) _ = _
    simp only [Act.put, sA, sZ, sS, i64_w, i32_w]
    rfl
   refine pI 5 (some 15) b15A6 HT_ ?_
   refine pI 6 (some 16) b15A7 HT_ ?_
   refine pI 7 (some 17) b15A8 HT_ ?_
   refine pI 8 (some 18) b15A9 HT_ ?_
   refine pI 9 (some 19) b15A10 HT_ ?_
   refine pI 10 (some 20) b15A11 HT_ ?_
   refine pI 11 (some 21) b15A12 HT_ ?_
   refine pI 12 (some 22) b15A13 HT_ ?_
   refine pI 13 (some 23) b15A14 HT_ ?_
   refine pI 14 (some 24) b15A15 HT_ ?_
   refine pI 15 (some 25) b15A16 HT_ ?_
   refine pI 17 (some 27) b15A17 HT_ ?_
   refine pI 18 (some 28) b15A18 HT_ ?_
   refine pI 19 (some 29) b15A19 HT_ ?_
   refine pI 20 (some 30) b15A20 HT_ ?_
   refine pI 21 (some 31) b15A21 HT_ ?_
   refine tI 16 (some 26) b15A22 HT_ HW_ hHeld rfl rfl (Or.inl ⟨by rfl, by rintro w' ⟨s0, s1, s2, s3, s4, s5, s6, s7, s8, s9, s10, s11, s12, s13, s14, s15, s16, s17, s18, s19, s20, s21, s22, s23⟩; go_simp; with_reducible rfl⟩) ?_
   refine tI 22 (some 32) b15A23 HT_ HW_ hHeld rfl rfl (Or.inl ⟨by rfl, by rintro w' ⟨s0, s1, s2, s3, s4, s5, s6, s7, s8, s9, s10, s11, s12, s13, s14, s15, s16, s17, s18, s19, s20, s21, s22, s23⟩; go_simp; with_reducible rfl⟩) ?_
   refine pI 23 (some 33) b15A24 HT_ ?_
   refine pI 24 (some 34) b15A25 HT_ ?_
   refine pI 25 (some 35) b15A26 HT_ ?_
   refine done_ (done_of HT_.o (by kernel_rfl)) ?_
   try go_wp2
   go_roundg k1
   case measure => have := HK1.o; omega
   case rel => exact ⟨(wrap64 (x3_1 + 1)), M3, H', ⟨by have := HK1.o; omega⟩, ⟨by exact qB HB.o⟩⟩
end Go.Proofs.Ytpkdbkheggfkkaa.PFnExactLettersFor
