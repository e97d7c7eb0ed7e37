/- Walks of functions that FnExactLettersFor reaches: written by a tool of the kit for this claim, then shortened by a program of ours. -/
import Derived.Test.YtpkdbkheggfkkaaPFnExactLettersForx0
import Derived.Test.YtpkdbkheggfkkaaPFnExactLettersForx12
/- narrow -/
namespace Go.Proofs.Ytpkdbkheggfkkaa.PFnExactLettersFor
open Go.RowKit Go.Proofs.YtpkdbkheggfkkaaW.PrintWords Go.Proofs.YtpkdbkheggfkkaaW.PrintLast Go.Proofs.YtpkdbkheggfkkaaW.PrintMore
attribute [local go_sem] max2_int min2_int max_two min_two max_three min_three max_four min_four   -- for this text's walks alone
set_option linter.unusedVariables false
set_option linter.unusedSimpArgs false

abbrev b13A0 : Array Bool := #[bo, bo, bo, bo, bo, bo, bo, bo, bo, bo, bo, bo, bo, bo, bo, bo, bo, bo, bo, bo, bo, bo, bo, bo]
abbrev b13A1 : Array Bool := #[bi, bo, bo, bo, bo, bo, bo, bo, bo, bo, bo, bo, bo, bo, bo, bo, bo, bo, bo, bo, bo, bo, bo, bo]
abbrev b13A2 : Array Bool := #[bi, bi, bo, bo, bo, bo, bo, bo, bo, bo, bo, bo, bo, bo, bo, bo, bo, bo, bo, bo, bo, bo, bo, bo]
abbrev b13A3 : Array Bool := #[bi, bi, bi, bo, bo, bo, bo, bo, bo, bo, bo, bo, bo, bo, bo, bo, bo, bo, bo, bo, bo, bo, bo, bo]
abbrev b13A4 : Array Bool := #[bi, bi, bi, bi, bo, bo, bo, bo, bo, bo, bo, bo, bo, bo, bo, bo, bo, bo, bo, bo, bo, bo, bo, bo]
abbrev b13A5 : Array Bool := #[bi, bi, bi, bi, bi, bo, bo, bo, bo, bo, bo, bo, bo, bo, bo, bo, bo, bo, bo, bo, bo, bo, bo, bo]
abbrev b13A6 : Array Bool := #[bi, bi, bi, bi, bi, bi, bo, bo, bo, bo, bo, bo, bo, bo, bo, bo, bo, bo, bo, bo, bo, bo, bo, bo]
abbrev b13A7 : Array Bool := #[bi, bi, bi, bi, bi, bi, bi, bo, bo, bo, bo, bo, bo, bo, bo, bo, bo, bo, bo, bo, bo, bo, bo, bo]
abbrev b13A8 : Array Bool := #[bi, bi, bi, bi, bi, bi, bi, bi, bo, bo, bo, bo, bo, bo, bo, bo, bo, bo, bo, bo, bo, bo, bo, bo]
abbrev b13A9 : Array Bool := #[bi, bi, bi, bi, bi, bi, bi, bi, bi, bo, bo, bo, bo, bo, bo, bo, bo, bo, bo, bo, bo, bo, bo, bo]
abbrev b13A10 : Array Bool := #[bi, bi, bi, bi, bi, bi, bi, bi, bi, bi, bo, bo, bo, bo, bo, bo, bo, bo, bo, bo, bo, bo, bo, bo]
abbrev b13A11 : Array Bool := #[bi, bi, bi, bi, bi, bi, bi, bi, bi, bi, bi, bo, bo, bo, bo, bo, bo, bo, bo, bo, bo, bo, bo, bo]
abbrev b13A12 : Array Bool := #[bi, bi, bi, bi, bi, bi, bi, bi, bi, bi, bi, bi, bo, bo, bo, bo, bo, bo, bo, bo, bo, bo, bo, bo]
abbrev b13A13 : Array Bool := #[bi, bi, bi, bi, bi, bi, bi, bi, bi, bi, bi, bi, bi, bo, bo, bo, bo, bo, bo, bo, bo, bo, bo, bo]
abbrev b13A14 : Array Bool := #[bi, bi, bi, bi, bi, bi, bi, bi, bi, bi, bi, bi, bi, bi, bo, bo, bo, bo, bo, bo, bo, bo, bo, bo]
abbrev b13A15 : Array Bool := #[bi, bi, bi, bi, bi, bi, bi, bi, bi, bi, bi, bi, bi, bi, bi, bo, bo, bo, bo, bo, bo, bo, bo, bo]
abbrev b13A16 : Array Bool := #[bi, bi, bi, bi, bi, bi, bi, bi, bi, bi, bi, bi, bi, bi, bi, bo, bi, bo, bo, bo, bo, bo, bo, bo]
abbrev b13A17 : Array Bool := #[bi, bi, bi, bi, bi, bi, bi, bi, bi, bi, bi, bi, bi, bi, bi, bo, bi, bi, bo, bo, bo, bo, bo, bo]
abbrev b13A18 : Array Bool := #[bi, bi, bi, bi, bi, bi, bi, bi, bi, bi, bi, bi, bi, bi, bi, bo, bi, bi, bi, bo, bo, bo, bo, bo]
abbrev b13A19 : Array Bool := #[bi, bi, bi, bi, bi, bi, bi, bi, bi, bi, bi, bi, bi, bi, bi, bo, bi, bi, bi, bi, bo, bo, bo, bo]
abbrev b13A20 : Array Bool := #[bi, bi, bi, bi, bi, bi, bi, bi, bi, bi, bi, bi, bi, bi, bi, bi, bi, bi, bi, bi, bo, bo, bo, bo]
abbrev b13A21 : Array Bool := #[bi, bi, bi, bi, bi, bi, bi, bi, bi, bi, bi, bi, bi, bi, bi, bi, bi, bi, bi, bi, bi, bo, bo, bo]
abbrev b13A22 : Array Bool := #[bi, bi, bi, bi, bi, bi, bi, bi, bi, bi, bi, bi, bi, bi, bi, bi, bi, bi, bi, bi, bi, bi, bo, bo]
abbrev b13A23 : Array Bool := #[bi, bi, bi, bi, bi, bi, bi, bi, bi, bi, bi, bi, bi, bi, bi, bi, bi, bi, bi, bi, bi, bi, bi, bo]
abbrev b13A24 : Array Bool := #[bi, bi, bi, bi, bi, bi, bi, bi, bi, bi, bi, bi, bi, bi, bi, bi, bi, bi, bi, bi, bi, bi, bi, bi]
abbrev b13A25 : Array Bool := #[bi, bi, bi, bi, bi, bi, bi, bi, bi, bi, bi, bi, bi, bi, bi, bi, bo, bo, bo, bo, bo, bo, bo, bo]
abbrev b13A26 : Array Bool := #[bi, bi, bi, bi, bi, bi, bi, bi, bi, bi, bi, bi, bi, bi, bi, bi, bi, bo, bo, bo, bo, bo, bo, bo]
abbrev b13A27 : Array Bool := #[bi, bi, bi, bi, bi, bi, bi, bi, bi, bi, bi, bi, bi, bi, bi, bi, bi, bi, bo, bo, bo, bo, bo, bo]
abbrev b13A28 : Array Bool := #[bi, bi, bi, bi, bi, bi, bi, bi, bi, bi, bi, bi, bi, bi, bi, bi, bi, bi, bi, bo, bo, bo, bo, bo]
/-! ### spec_AreReports: function 130 -/
def spec_AreReports.l0 : Nat → List (S87) → Int → Option (Bool)
 | 0, _, _ => none
 | k + 1, x0, x3 => if x3 < (x0.length : Int) then (if 0 ≤ x3 then ((spec_IsReport.f k ((rd_T87 x0 x3).f0) ((rd_T87 x0 x3).f1) ((rd_T87 x0 x3).f2) ((rd_T87 x0 x3).f3) ((rd_T87 x0 x3).f4) ((rd_T87 x0 x3).f5) ((rd_T87 x0 x3).f6.f0) ((rd_T87 x0 x3).f6.f1)).bind fun t267 => (if t267 = true then (if x3 > 0 then (if 0 ≤ (wrap64 (x3 - 1)) then (if (wrap64 (x3 - 1)) < (x0.length : Int) then (if ((rd_T87 x0 (wrap64 (x3 - 1))).f0) ≥ ((rd_T87 x0 x3).f0) then (some false) else (spec_AreReports.l0 k x0 (wrap64 (x3 + 1)))) else (none)) else (none)) else (spec_AreReports.l0 k x0 (wrap64 (x3 + 1)))) else (some false))) else (none)) else (some (decide ((x0.length : Int) ≤ 20)))
def spec_AreReports.f (k : Nat) (l0 : List (S87)) : Option (Bool) := spec_AreReports.l0 k l0 0
def spec_AreReports.T4 : Bool × List (List Nat × List Nat) := (true, [([], []), ([], []), ([0, 1], [0, 1]), ([2], [2]), ([3], [3]), ([4], [4]), ([5, 4], [5]), ([6], [6]), ([7, 6], [6, 7]), ([8, 6, 6], [6, 8]), ([9], [9]), ([9], [9]), ([11, 9], [9, 11]), ([10, 12, 9], [9, 10, 12]), ([13, 9], [9, 13]), ([14, 9], [9, 14]), ([9], [9]), ([9], [9]), ([16, 17, 9], [9, 16, 17]), ([18, 9], [9, 18]), ([19, 9], [9, 19]), ([15, 20, 9], [9, 15, 20]), ([9, 21, 6], [6, 9, 21]), ([6, 22], [6, 22])])
def spec_AreReports.B4 : List Nat := [0, 0, 3, 7, 15, 31, 63, 127, 255, 511, 1023, 1023, 3071, 8191, 16383, 32767, 1023, 1023, 197631, 459775, 984063, 2097151, 4194303, 8388607]
theorem spec_AreReports.tab4 : rtab .any (opsOf Try.f130 4) = spec_AreReports.T4 := by kernel_rfl
theorem spec_AreReports.bits4 : waitsOk spec_AreReports.T4.2 spec_AreReports.B4 = true := by kernel_rfl
set_option maxHeartbeats 8000000 in
set_option maxRecDepth 100000 in
theorem spec_AreReports.calls (k : Nat) (A0 : Option Addr) (c0 : Nat) (l0 : List (S87)) (r : Bool) (w : World) (hr0 : Kd.C k87 w A0 l0.length l0) (hc0 : l0.length ≤ c0) (h : spec_AreReports.f k l0 = some r) :
  Calls Try.prog 130 #[.slice A0 l0.length c0] w fun e w' => e = .returned (.bool r) ∧ Below w.heap.size w w' := by
 have hu87 := Try.underlying87
 have HR0 := zK hr0
 have HC0 := zK hc0
 clear hr0 hc0
 have HB := zK (Below.refl w.heap.size w)
 have H : (spec_AreReports.l0 k l0 0) = some r := h
 clear h
 have H' := zK H
 clear H
 go_enter Try.func130, Try.ntmps130
 go_wp2
 go_loopg [3] k (fun kq v3 w' => ∃ (x3_1 : Int), v3 = .int .i64 x3_1 ∧ Aside0 (spec_AreReports.l0 kq l0 x3_1 = some r) ∧ Aside0 (kq ≤ k) ∧ Aside0 (Below w.heap.size w w'))
 case atStart => exact ⟨(0), M3, H', ⟨Nat.le_refl _⟩, ⟨by exact qB HB.o⟩⟩
 case round =>
  clear H'
  try clear c1
  obtain ⟨x3_1, rfl, HA, HK1, HB⟩ := hrel
  cases gk with
  | zero => exact absurd HA.o (by simp [spec_AreReports.l0])
  | succ k1 =>
   have H := HA.o
   clear HA
   simp only [spec_AreReports.l0] at H
   by_cases c2 : x3_1 < (l0.length : Int)
   rotate_left
   ·rw [if_neg c2] at H
    have c2b0 : decide (x3_1 < (l0.length : Int)) = false := decide_eq_false c2
    clear c2
    obtain rfl := Option.some.inj H
    go_wp2
    go_ret
    exact ⟨by first | rfl | (simp [errW_none, errW_some] <;> rfl) | (simp [*, errW_none, errW_some] <;> rfl), by exact qB HB.o⟩

   rw [if_pos c2] at H
   have c2b0 : decide (x3_1 < (l0.length : Int)) = true := decide_eq_true c2
   clear c2
   by_cases c3 : 0 ≤ x3_1
   rotate_left
   ·rw [if_neg c3] at H
    exact absurd H (by simp)
   rw [if_pos c3] at H
   have c3b0 : decide (0 ≤ x3_1) = true := decide_eq_true c3
   clear c3
   replace H := Option.bind_eq_some_iff.mp H
   obtain ⟨t267, A40, H⟩ := H
   try dsimp only at H
   have A4 := zK A40
   clear A40
   by_cases c5 : t267 = true
   rotate_left
   ·replace c5 := Bool.eq_false_iff.mpr c5
    subst c5
    have H1 : (some false) = some r := by rw [if_neg (show ¬ (false = true) by decide)] at H; exact H
    clear H
    have H := H1
    clear H1
    obtain rfl := Option.some.inj H
    try go_wp2
    have n0_ := zK (below_drew1 HB.o)
    clear HB
    have HB := n0_
    clear n0_
    have p266 : 0 ≤ (x3_1 : Int) := oD M1
    have q266 : x3_1 < (l0.length : Int) := oD M1
    obtain ⟨ad266, A266_2, c266_2, A266_5, c266_5, e266, hx266_0, hx266_1, hx266_2, hx266_3, hx266_4, hx266_5, hx266_6, hx266_7, hl266_2, hi266_2, hl266_5, hi266_5⟩ := at_T87 HR0.o x3_1 p266 q266
    have hw266_7 := hx266_7
    have hw266_6 := hx266_6
    have hw266_5 := hx266_5
    have hw266_4 := hx266_4
    have hw266_3 := hx266_3
    have hw266_2 := hx266_2
    have hw266_1 := hx266_1
    have hw266_0 := hx266_0
    cases e266
    replace hx266_0 := cB HB.o hx266_0
    replace hx266_1 := cB HB.o hx266_1
    replace hx266_2 := cB HB.o hx266_2
    replace hx266_3 := cB HB.o hx266_3
    replace hx266_4 := cB HB.o hx266_4
    replace hx266_5 := cB HB.o hx266_5
    replace hx266_6 := cB HB.o hx266_6
    replace hx266_7 := cB HB.o hx266_7
    have HR266_2 := zK hi266_2
    have HC266_2 := zK hl266_2
    clear hi266_2 hl266_2
    have HR266_5 := zK hi266_5
    have HC266_5 := zK hl266_5
    clear hi266_5 hl266_5
    replace p266 := eq_true p266
    replace q266 := eq_true q266
    refine start_ (n := 24) (S := fun w' => w'.cell? (ad266.add ((x3_1).toNat * 8)) = some (.int .i64 ((rd_T87 l0 x3_1).f0)) ∧ w'.cell? ⟨(ad266.add ((x3_1).toNat * 8)).block, (ad266.add ((x3_1).toNat * 8)).off + 1, none⟩ = some (.int .i64 ((rd_T87 l0 x3_1).f1)) ∧ w'.cell? ⟨(ad266.add ((x3_1).toNat * 8)).block, (ad266.add ((x3_1).toNat * 8)).off + 2, none⟩ = some (.slice A266_2 ((rd_T87 l0 x3_1).f2).length c266_2) ∧ w'.cell? ⟨(ad266.add ((x3_1).toNat * 8)).block, (ad266.add ((x3_1).toNat * 8)).off + 3, none⟩ = some (.int .i64 ((rd_T87 l0 x3_1).f3)) ∧ w'.cell? ⟨(ad266.add ((x3_1).toNat * 8)).block, (ad266.add ((x3_1).toNat * 8)).off + 4, none⟩ = some (.int .i64 ((rd_T87 l0 x3_1).f4)) ∧ w'.cell? ⟨(ad266.add ((x3_1).toNat * 8)).block, (ad266.add ((x3_1).toNat * 8)).off + 5, none⟩ = some (.slice A266_5 ((rd_T87 l0 x3_1).f5).length c266_5) ∧ w'.cell? ⟨(ad266.add ((x3_1).toNat * 8)).block, (ad266.add ((x3_1).toNat * 8)).off + 6, none⟩ = some (.int .i64 ((rd_T87 l0 x3_1).f6.f0)) ∧ w'.cell? ⟨(ad266.add ((x3_1).toNat * 8)).block, (ad266.add ((x3_1).toNat * 8)).off + 7, none⟩ = some (.int .i64 ((rd_T87 l0 x3_1).f6.f1))) (ds := []) b13A0 (by kernel_rfl) rfl rfl ⟨(cB HB.o hw266_0 :), (cB HB.o hw266_1 :), (cB HB.o hw266_2 :), (cB HB.o hw266_3 :), (cB HB.o hw266_4 :), (cB HB.o hw266_5 :), (cB HB.o hw266_6 :), (cB HB.o hw266_7 :)⟩ (fun hHeld => ?_); refine with_tabW spec_AreReports.tab4 spec_AreReports.bits4 (fun HT_ HW_ => ?_)
    generalize wr.drew = w17 at HB HR266_2 HR266_5 hx266_0 hx266_1 hx266_2 hx266_3 hx266_4 hx266_5 hx266_6 hx266_7 hHeld ⊢
    refine pI 0 (some 10) b13A1 HT_ ?_
    refine pI 1 (some 11) b13A2 HT_ ?_
    refine pI 2 (some 12) b13A3 HT_ ?_
    refine tI 3 (some 13) b13A4 HT_ HW_ hHeld rfl rfl (Or.inl ⟨by rfl, by rintro w' ⟨s0, s1, s2, s3, s4, s5, s6, s7⟩; go_simp; with_reducible rfl⟩) ?_
    refine one_ (i := 4) (N := some 14) b13A5 rfl rfl (one_of HT_.o (by kernel_rfl)) (by decide) (fun K hK => ?_)
    refine goes_ Try.func175 (by kernel_rfl) rfl #[.agg #[.int .i64 ((rd_T87 l0 x3_1).f0), .int .i64 ((rd_T87 l0 x3_1).f1), .slice A266_2 ((rd_T87 l0 x3_1).f2).length c266_2, .int .i64 ((rd_T87 l0 x3_1).f3), .int .i64 ((rd_T87 l0 x3_1).f4), .slice A266_5 ((rd_T87 l0 x3_1).f5).length c266_5, .int .i64 ((rd_T87 l0 x3_1).f6.f0), .int .i64 ((rd_T87 l0 x3_1).f6.f1)]] (by rfl) rfl rfl M0 ?_
    with_reducible refine (spec_IsReport.calls k1 ((rd_T87 l0 x3_1).f0) ((rd_T87 l0 x3_1).f1) _ _ ((rd_T87 l0 x3_1).f2) ((rd_T87 l0 x3_1).f3) ((rd_T87 l0 x3_1).f4) _ _ ((rd_T87 l0 x3_1).f5) ((rd_T87 l0 x3_1).f6.f0) ((rd_T87 l0 x3_1).f6.f1) false _ ?side1 ?side2 ?side3 ?side4 A4.o).mono ?_
    (case side1 => exact Kd.qC (Kd.C_below HR266_2.o HB.o))
    (case side2 => exact HC266_2.o)
    (case side3 => exact Kd.qC (Kd.C_below HR266_5.o HB.o))
    (case side4 => exact HC266_5.o)
    rintro e w18 ⟨rfl, hb⟩
    refine ⟨_, rfl, ?_⟩
    have n0_ := zK (bT (qB HB.o) hb)
    clear HB
    have HB := n0_
    clear n0_
    (try clear hb)
    (try clear hb2)
    (try clear hk)
    (try clear hi)
    refine hK.out _ _ ⟨(cB HB.o hw266_0 :), (cB HB.o hw266_1 :), (cB HB.o hw266_2 :), (cB HB.o hw266_3 :), (cB HB.o hw266_4 :), (cB HB.o hw266_5 :), (cB HB.o hw266_6 :), (cB HB.o hw266_7 :)⟩ (fun hHeld => ?_)
    clear hK K
    refine norm_ (a' := ?_) ?_ ?_
    rotate_left
    ·show Act.put _ (some 14) _ = _
     simp only [Act.put, sA, sZ, sS, i64_w, i32_w]
     rfl
    refine pI 5 (some 15) b13A6 HT_ ?_
    refine pI 6 (some 16) b13A7 HT_ ?_
    refine pU 7 (some 17) b13A8 HT_ ?_
    refine pU 8 (some 18) b13A9 HT_ ?_
    refine pU 9 (some 19) b13A10 HT_ ?_
    refine pU 10 (some 20) b13A11 HT_ ?_
    refine pU 11 (some 21) b13A12 HT_ ?_
    refine pU 12 (some 22) b13A13 HT_ ?_
    refine pU 13 (some 23) b13A14 HT_ ?_
    refine pU 14 (some 24) b13A15 HT_ ?_
    refine pU 15 (some 25) b13A25 HT_ ?_
    refine pU 16 (some 26) b13A26 HT_ ?_
    refine pU 17 (some 27) b13A27 HT_ ?_
    refine pU 18 (some 28) b13A28 HT_ ?_
    refine pU 19 (some 29) b13A20 HT_ ?_
    refine pU 20 (some 30) b13A21 HT_ ?_
    refine pU 21 (some 31) b13A22 HT_ ?_
    refine pU 22 (some 32) b13A23 HT_ ?_
    refine pI 23 (some 33) b13A24 HT_ ?_
    refine done_ (done_of HT_.o (by kernel_rfl)) ?_
    try go_wp2
    go_ret
    exact ⟨by first | rfl | (simp [errW_none, errW_some] <;> rfl) | (simp [*, errW_none, errW_some] <;> rfl), by exact qB HB.o⟩
   subst c5
   have H1 : (if x3_1 > 0 then (if 0 ≤ (wrap64 (x3_1 - 1)) then (if (wrap64 (x3_1 - 1)) < (l0.length : Int) then (if ((rd_T87 l0 (wrap64 (x3_1 - 1))).f0) ≥ ((rd_T87 l0 x3_1).f0) then (some false) else (spec_AreReports.l0 k1 l0 (wrap64 (x3_1 + 1)))) else (none)) else (none)) else (spec_AreReports.l0 k1 l0 (wrap64 (x3_1 + 1)))) = some r := by rw [if_pos rfl] at H; exact H
   clear H
   have H := H1
   clear H1
   by_cases c6 : x3_1 > 0
   rotate_left
   ·rw [if_neg c6] at H
    have c6b0 : decide (0 < x3_1) = false := decide_eq_false c6
    clear c6
    have H' := zK H
    clear H
    try go_wp2
    have n0_ := zK (below_drew1 HB.o)
    clear HB
    have HB := n0_
    clear n0_
    have p266 : 0 ≤ (x3_1 : Int) := oD M1
    have q266 : x3_1 < (l0.length : Int) := oD M1
    obtain ⟨ad266, A266_2, c266_2, A266_5, c266_5, e266, hx266_0, hx266_1, hx266_2, hx266_3, hx266_4, hx266_5, hx266_6, hx266_7, hl266_2, hi266_2, hl266_5, hi266_5⟩ := at_T87 HR0.o x3_1 p266 q266
    have hw266_7 := hx266_7
    have hw266_6 := hx266_6
    have hw266_5 := hx266_5
    have hw266_4 := hx266_4
    have hw266_3 := hx266_3
    have hw266_2 := hx266_2
    have hw266_1 := hx266_1
    have hw266_0 := hx266_0
    cases e266
    replace hx266_0 := cB HB.o hx266_0
    replace hx266_1 := cB HB.o hx266_1
    replace hx266_2 := cB HB.o hx266_2
    replace hx266_3 := cB HB.o hx266_3
    replace hx266_4 := cB HB.o hx266_4
    replace hx266_5 := cB HB.o hx266_5
    replace hx266_6 := cB HB.o hx266_6
    replace hx266_7 := cB HB.o hx266_7
    have HR266_2 := zK hi266_2
    have HC266_2 := zK hl266_2
    clear hi266_2 hl266_2
    have HR266_5 := zK hi266_5
    have HC266_5 := zK hl266_5
    clear hi266_5 hl266_5
    replace p266 := eq_true p266
    replace q266 := eq_true q266
    refine start_ (n := 24) (S := fun w' => w'.cell? (ad266.add ((x3_1).toNat * 8)) = some (.int .i64 ((rd_T87 l0 x3_1).f0)) ∧ w'.cell? ⟨(ad266.add ((x3_1).toNat * 8)).block, (ad266.add ((x3_1).toNat * 8)).off + 1, none⟩ = some (.int .i64 ((rd_T87 l0 x3_1).f1)) ∧ w'.cell? ⟨(ad266.add ((x3_1).toNat * 8)).block, (ad266.add ((x3_1).toNat * 8)).off + 2, none⟩ = some (.slice A266_2 ((rd_T87 l0 x3_1).f2).length c266_2) ∧ w'.cell? ⟨(ad266.add ((x3_1).toNat * 8)).block, (ad266.add ((x3_1).toNat * 8)).off + 3, none⟩ = some (.int .i64 ((rd_T87 l0 x3_1).f3)) ∧ w'.cell? ⟨(ad266.add ((x3_1).toNat * 8)).block, (ad266.add ((x3_1).toNat * 8)).off + 4, none⟩ = some (.int .i64 ((rd_T87 l0 x3_1).f4)) ∧ w'.cell? ⟨(ad266.add ((x3_1).toNat * 8)).block, (ad266.add ((x3_1).toNat * 8)).off + 5, none⟩ = some (.slice A266_5 ((rd_T87 l0 x3_1).f5).length c266_5) ∧ w'.cell? ⟨(ad266.add ((x3_1).toNat * 8)).block, (ad266.add ((x3_1).toNat * 8)).off + 6, none⟩ = some (.int .i64 ((rd_T87 l0 x3_1).f6.f0)) ∧ w'.cell? ⟨(ad266.add ((x3_1).toNat * 8)).block, (ad266.add ((x3_1).toNat * 8)).off + 7, none⟩ = some (.int .i64 ((rd_T87 l0 x3_1).f6.f1))) (ds := []) b13A0 (by kernel_rfl) rfl rfl ⟨(cB HB.o hw266_0 :), (cB HB.o hw266_1 :), (cB HB.o hw266_2 :), (cB HB.o hw266_3 :), (cB HB.o hw266_4 :), (cB HB.o hw266_5 :), (cB HB.o hw266_6 :), (cB HB.o hw266_7 :)⟩ (fun hHeld => ?_); refine with_tabW spec_AreReports.tab4 spec_AreReports.bits4 (fun HT_ HW_ => ?_)
    generalize wr.drew = w15 at HB HR266_2 HR266_5 hx266_0 hx266_1 hx266_2 hx266_3 hx266_4 hx266_5 hx266_6 hx266_7 hHeld ⊢
    refine pI 0 (some 10) b13A1 HT_ ?_
    refine pI 1 (some 11) b13A2 HT_ ?_
    refine pI 2 (some 12) b13A3 HT_ ?_
    refine tI 3 (some 13) b13A4 HT_ HW_ hHeld rfl rfl (Or.inl ⟨by rfl, by rintro w' ⟨s0, s1, s2, s3, s4, s5, s6, s7⟩; go_simp; with_reducible rfl⟩) ?_
    refine one_ (i := 4) (N := some 14) b13A5 rfl rfl (one_of HT_.o (by kernel_rfl)) (by decide) (fun K hK => ?_)
    refine goes_ Try.func175 (by kernel_rfl) rfl #[.agg #[.int .i64 ((rd_T87 l0 x3_1).f0), .int .i64 ((rd_T87 l0 x3_1).f1), .slice A266_2 ((rd_T87 l0 x3_1).f2).length c266_2, .int .i64 ((rd_T87 l0 x3_1).f3), .int .i64 ((rd_T87 l0 x3_1).f4), .slice A266_5 ((rd_T87 l0 x3_1).f5).length c266_5, .int .i64 ((rd_T87 l0 x3_1).f6.f0), .int .i64 ((rd_T87 l0 x3_1).f6.f1)]] (by rfl) rfl rfl M0 ?_
    with_reducible refine (spec_IsReport.calls k1 ((rd_T87 l0 x3_1).f0) ((rd_T87 l0 x3_1).f1) _ _ ((rd_T87 l0 x3_1).f2) ((rd_T87 l0 x3_1).f3) ((rd_T87 l0 x3_1).f4) _ _ ((rd_T87 l0 x3_1).f5) ((rd_T87 l0 x3_1).f6.f0) ((rd_T87 l0 x3_1).f6.f1) true _ ?side1 ?side2 ?side3 ?side4 A4.o).mono ?_
    (case side1 => exact Kd.qC (Kd.C_below HR266_2.o HB.o))
    (case side2 => exact HC266_2.o)
    (case side3 => exact Kd.qC (Kd.C_below HR266_5.o HB.o))
    (case side4 => exact HC266_5.o)
    rintro e w16 ⟨rfl, hb⟩
    refine ⟨_, rfl, ?_⟩
    have n0_ := zK (bT (qB HB.o) hb)
    clear HB
    have HB := n0_
    clear n0_
    (try clear hb)
    (try clear hb2)
    (try clear hk)
    (try clear hi)
    refine hK.out _ _ ⟨(cB HB.o hw266_0 :), (cB HB.o hw266_1 :), (cB HB.o hw266_2 :), (cB HB.o hw266_3 :), (cB HB.o hw266_4 :), (cB HB.o hw266_5 :), (cB HB.o hw266_6 :), (cB HB.o hw266_7 :)⟩ (fun hHeld => ?_)
    clear hK K
    refine norm_ (a' := ?_) ?_ ?_
    rotate_left
    ·show Act.put _ (some 14) _ = _
     simp only [Act.put, sA, sZ, sS, i64_w, i32_w]
     rfl
    refine pI 5 (some 15) b13A6 HT_ ?_
    refine pI 6 (some 16) b13A7 HT_ ?_
    refine pI 7 (some 17) b13A8 HT_ ?_
    refine pI 8 (some 18) b13A9 HT_ ?_
    refine pI 9 (some 19) b13A10 HT_ ?_
    refine pU 10 (some 20) b13A11 HT_ ?_
    refine pU 11 (some 21) b13A12 HT_ ?_
    refine pU 12 (some 22) b13A13 HT_ ?_
    refine pU 13 (some 23) b13A14 HT_ ?_
    refine pU 14 (some 24) b13A15 HT_ ?_
    refine pU 15 (some 25) b13A25 HT_ ?_
    refine pU 16 (some 26) b13A26 HT_ ?_
    refine pU 17 (some 27) b13A27 HT_ ?_
    refine pU 18 (some 28) b13A28 HT_ ?_
    refine pU 19 (some 29) b13A20 HT_ ?_
    refine pU 20 (some 30) b13A21 HT_ ?_
    refine pU 21 (some 31) b13A22 HT_ ?_
    refine pI 22 (some 32) b13A23 HT_ ?_
    refine pI 23 (some 33) b13A24 HT_ ?_
    refine done_ (done_of HT_.o (by kernel_rfl)) ?_
    try go_wp2
    go_roundg k1
    case measure => have := HK1.o; omega
    case rel => exact ⟨(wrap64 (x3_1 + 1)), M3, H', ⟨by have := HK1.o; omega⟩, ⟨by exact qB HB.o⟩⟩
   rw [if_pos c6] at H
   have c6b0 : decide (0 < x3_1) = true := decide_eq_true c6
   clear c6
   obtain ⟨ji7, hji7⟩ : ∃ j_ : Int, (wrap64 (x3_1 - 1)) = j_ := ⟨_, rfl⟩
   replace H : (if 0 ≤ (ji7) then (if (ji7) < (l0.length : Int) then (if ((rd_T87 l0 (ji7)).f0) ≥ ((rd_T87 l0 x3_1).f0) then (some false) else (spec_AreReports.l0 k1 l0 (wrap64 (x3_1 + 1)))) else (none)) else (none)) = some r := by first | (rw [hji7] at H; exact H) | (simp only [hji7] at H ⊢; exact H)
   (try rw [hji7] at A4)
   have hji7w : (IntKind.i64.wrap (x3_1 - 1)) = ji7 := (i64_w _).trans hji7
   by_cases c8 : 0 ≤ (ji7)
   rotate_left
   ·rw [if_neg c8] at H
    exact absurd H (by simp)
   rw [if_pos c8] at H
   have c8b0 : decide (0 ≤ (ji7)) = true := decide_eq_true c8
   clear c8
   by_cases c9 : (ji7) < (l0.length : Int)
   rotate_left
   ·rw [if_neg c9] at H
    exact absurd H (by simp)
   rw [if_pos c9] at H
   have c9b0 : decide ((ji7) < (l0.length : Int)) = true := decide_eq_true c9
   clear c9
   by_cases c10 : ((rd_T87 l0 (ji7)).f0) ≥ ((rd_T87 l0 x3_1).f0)
   ·rw [if_pos c10] at H
    have c10b0 : decide (((rd_T87 l0 x3_1).f0) ≤ ((rd_T87 l0 (ji7)).f0)) = true := decide_eq_true c10
    clear c10
    obtain rfl := Option.some.inj H
    try go_wp2
    have n0_ := zK (below_drew1 HB.o)
    clear HB
    have HB := n0_
    clear n0_
    have p266 : 0 ≤ (x3_1 : Int) := oD M1
    have q266 : x3_1 < (l0.length : Int) := oD M1
    obtain ⟨ad266, A266_2, c266_2, A266_5, c266_5, e266, hx266_0, hx266_1, hx266_2, hx266_3, hx266_4, hx266_5, hx266_6, hx266_7, hl266_2, hi266_2, hl266_5, hi266_5⟩ := at_T87 HR0.o x3_1 p266 q266
    have hw266_7 := hx266_7
    have hw266_6 := hx266_6
    have hw266_5 := hx266_5
    have hw266_4 := hx266_4
    have hw266_3 := hx266_3
    have hw266_2 := hx266_2
    have hw266_1 := hx266_1
    have hw266_0 := hx266_0
    cases e266
    replace hx266_0 := cB HB.o hx266_0
    replace hx266_1 := cB HB.o hx266_1
    replace hx266_2 := cB HB.o hx266_2
    replace hx266_3 := cB HB.o hx266_3
    replace hx266_4 := cB HB.o hx266_4
    replace hx266_5 := cB HB.o hx266_5
    replace hx266_6 := cB HB.o hx266_6
    replace hx266_7 := cB HB.o hx266_7
    have HR266_2 := zK hi266_2
    have HC266_2 := zK hl266_2
    clear hi266_2 hl266_2
    have HR266_5 := zK hi266_5
    have HC266_5 := zK hl266_5
    clear hi266_5 hl266_5
    replace p266 := eq_true p266
    replace q266 := eq_true q266
    have p268 : 0 ≤ ((ji7) : Int) := oD M1
    have q268 : (ji7) < (l0.length : Int) := oD M1
    obtain ⟨ad268, A268_2, c268_2, A268_5, c268_5, e268, hx268_0, hx268_1, hx268_2, hx268_3, hx268_4, hx268_5, hx268_6, hx268_7, hl268_2, hi268_2, hl268_5, hi268_5⟩ := at_T87 HR0.o (ji7) p268 q268
    have hw268_7 := hx268_7
    have hw268_6 := hx268_6
    have hw268_5 := hx268_5
    have hw268_4 := hx268_4
    have hw268_3 := hx268_3
    have hw268_2 := hx268_2
    have hw268_1 := hx268_1
    have hw268_0 := hx268_0
    obtain rfl : ad266 = ad268 := (by injection e268)
    replace hx268_0 := cB HB.o hx268_0
    replace hx268_1 := cB HB.o hx268_1
    replace hx268_2 := cB HB.o hx268_2
    replace hx268_3 := cB HB.o hx268_3
    replace hx268_4 := cB HB.o hx268_4
    replace hx268_5 := cB HB.o hx268_5
    replace hx268_6 := cB HB.o hx268_6
    replace hx268_7 := cB HB.o hx268_7
    have HR268_2 := zK hi268_2
    have HC268_2 := zK hl268_2
    clear hi268_2 hl268_2
    have HR268_5 := zK hi268_5
    have HC268_5 := zK hl268_5
    clear hi268_5 hl268_5
    replace p268 := eq_true p268
    replace q268 := eq_true q268
    have p269 : 0 ≤ (x3_1 : Int) := oD M1
    have q269 : x3_1 < (l0.length : Int) := oD M1
    obtain ⟨ad269, A269_2, c269_2, A269_5, c269_5, e269, hx269_0, hx269_1, hx269_2, hx269_3, hx269_4, hx269_5, hx269_6, hx269_7, hl269_2, hi269_2, hl269_5, hi269_5⟩ := at_T87 HR0.o x3_1 p269 q269
    have hw269_7 := hx269_7
    have hw269_6 := hx269_6
    have hw269_5 := hx269_5
    have hw269_4 := hx269_4
    have hw269_3 := hx269_3
    have hw269_2 := hx269_2
    have hw269_1 := hx269_1
    have hw269_0 := hx269_0
    obtain rfl : ad266 = ad269 := (by injection e269)
    replace hx269_0 := cB HB.o hx269_0
    replace hx269_1 := cB HB.o hx269_1
    replace hx269_2 := cB HB.o hx269_2
    replace hx269_3 := cB HB.o hx269_3
    replace hx269_4 := cB HB.o hx269_4
    replace hx269_5 := cB HB.o hx269_5
    replace hx269_6 := cB HB.o hx269_6
    replace hx269_7 := cB HB.o hx269_7
    have HR269_2 := zK hi269_2
    have HC269_2 := zK hl269_2
    clear hi269_2 hl269_2
    have HR269_5 := zK hi269_5
    have HC269_5 := zK hl269_5
    clear hi269_5 hl269_5
    replace p269 := eq_true p269
    replace q269 := eq_true q269
    refine start_ (n := 24) (S := fun w' => w'.cell? (ad266.add ((x3_1).toNat * 8)) = some (.int .i64 ((rd_T87 l0 x3_1).f0)) ∧ w'.cell? ⟨(ad266.add ((x3_1).toNat * 8)).block, (ad266.add ((x3_1).toNat * 8)).off + 1, none⟩ = some (.int .i64 ((rd_T87 l0 x3_1).f1)) ∧ w'.cell? ⟨(ad266.add ((x3_1).toNat * 8)).block, (ad266.add ((x3_1).toNat * 8)).off + 2, none⟩ = some (.slice A266_2 ((rd_T87 l0 x3_1).f2).length c266_2) ∧ w'.cell? ⟨(ad266.add ((x3_1).toNat * 8)).block, (ad266.add ((x3_1).toNat * 8)).off + 3, none⟩ = some (.int .i64 ((rd_T87 l0 x3_1).f3)) ∧ w'.cell? ⟨(ad266.add ((x3_1).toNat * 8)).block, (ad266.add ((x3_1).toNat * 8)).off + 4, none⟩ = some (.int .i64 ((rd_T87 l0 x3_1).f4)) ∧ w'.cell? ⟨(ad266.add ((x3_1).toNat * 8)).block, (ad266.add ((x3_1).toNat * 8)).off + 5, none⟩ = some (.slice A266_5 ((rd_T87 l0 x3_1).f5).length c266_5) ∧ w'.cell? ⟨(ad266.add ((x3_1).toNat * 8)).block, (ad266.add ((x3_1).toNat * 8)).off + 6, none⟩ = some (.int .i64 ((rd_T87 l0 x3_1).f6.f0)) ∧ w'.cell? ⟨(ad266.add ((x3_1).toNat * 8)).block, (ad266.add ((x3_1).toNat * 8)).off + 7, none⟩ = some (.int .i64 ((rd_T87 l0 x3_1).f6.f1)) ∧ w'.cell? (ad266.add (((ji7)).toNat * 8)) = some (.int .i64 ((rd_T87 l0 (ji7)).f0)) ∧ w'.cell? ⟨(ad266.add (((ji7)).toNat * 8)).block, (ad266.add (((ji7)).toNat * 8)).off + 1, none⟩ = some (.int .i64 ((rd_T87 l0 (ji7)).f1)) ∧ w'.cell? ⟨(ad266.add (((ji7)).toNat * 8)).block, (ad266.add (((ji7)).toNat * 8)).off + 2, none⟩ = some (.slice A268_2 ((rd_T87 l0 (ji7)).f2).length c268_2) ∧ w'.cell? ⟨(ad266.add (((ji7)).toNat * 8)).block, (ad266.add (((ji7)).toNat * 8)).off + 3, none⟩ = some (.int .i64 ((rd_T87 l0 (ji7)).f3)) ∧ w'.cell? ⟨(ad266.add (((ji7)).toNat * 8)).block, (ad266.add (((ji7)).toNat * 8)).off + 4, none⟩ = some (.int .i64 ((rd_T87 l0 (ji7)).f4)) ∧ w'.cell? ⟨(ad266.add (((ji7)).toNat * 8)).block, (ad266.add (((ji7)).toNat * 8)).off + 5, none⟩ = some (.slice A268_5 ((rd_T87 l0 (ji7)).f5).length c268_5) ∧ w'.cell? ⟨(ad266.add (((ji7)).toNat * 8)).block, (ad266.add (((ji7)).toNat * 8)).off + 6, none⟩ = some (.int .i64 ((rd_T87 l0 (ji7)).f6.f0)) ∧ w'.cell? ⟨(ad266.add (((ji7)).toNat * 8)).block, (ad266.add (((ji7)).toNat * 8)).off + 7, none⟩ = some (.int .i64 ((rd_T87 l0 (ji7)).f6.f1)) ∧ w'.cell? (ad266.add ((x3_1).toNat * 8)) = some (.int .i64 ((rd_T87 l0 x3_1).f0)) ∧ w'.cell? ⟨(ad266.add ((x3_1).toNat * 8)).block, (ad266.add ((x3_1).toNat * 8)).off + 1, none⟩ = some (.int .i64 ((rd_T87 l0 x3_1).f1)) ∧ w'.cell? ⟨(ad266.add ((x3_1).toNat * 8)).block, (ad266.add ((x3_1).toNat * 8)).off + 2, none⟩ = some (.slice A269_2 ((rd_T87 l0 x3_1).f2).length c269_2) ∧ w'.cell? ⟨(ad266.add ((x3_1).toNat * 8)).block, (ad266.add ((x3_1).toNat * 8)).off + 3, none⟩ = some (.int .i64 ((rd_T87 l0 x3_1).f3)) ∧ w'.cell? ⟨(ad266.add ((x3_1).toNat * 8)).block, (ad266.add ((x3_1).toNat * 8)).off + 4, none⟩ = some (.int .i64 ((rd_T87 l0 x3_1).f4)) ∧ w'.cell? ⟨(ad266.add ((x3_1).toNat * 8)).block, (ad266.add ((x3_1).toNat * 8)).off + 5, none⟩ = some (.slice A269_5 ((rd_T87 l0 x3_1).f5).length c269_5) ∧ w'.cell? ⟨(ad266.add ((x3_1).toNat * 8)).block, (ad266.add ((x3_1).toNat * 8)).off + 6, none⟩ = some (.int .i64 ((rd_T87 l0 x3_1).f6.f0)) ∧ w'.cell? ⟨(ad266.add ((x3_1).toNat * 8)).block, (ad266.add ((x3_1).toNat * 8)).off + 7, none⟩ = some (.int .i64 ((rd_T87 l0 x3_1).f6.f1))) (ds := []) b13A0 (by kernel_rfl) rfl rfl ⟨(cB HB.o hw266_0 :), (cB HB.o hw266_1 :), (cB HB.o hw266_2 :), (cB HB.o hw266_3 :), (cB HB.o hw266_4 :), (cB HB.o hw266_5 :), (cB HB.o hw266_6 :), (cB HB.o hw266_7 :), (cB HB.o hw268_0 :), (cB HB.o hw268_1 :), (cB HB.o hw268_2 :), (cB HB.o hw268_3 :), (cB HB.o hw268_4 :), (cB HB.o hw268_5 :), (cB HB.o hw268_6 :), (cB HB.o hw268_7 :), (cB HB.o hw269_0 :), (cB HB.o hw269_1 :), (cB HB.o hw269_2 :), (cB HB.o hw269_3 :), (cB HB.o hw269_4 :), (cB HB.o hw269_5 :), (cB HB.o hw269_6 :), (cB HB.o hw269_7 :)⟩ (fun hHeld => ?_); refine with_tabW spec_AreReports.tab4 spec_AreReports.bits4 (fun HT_ HW_ => ?_)
    generalize wr.drew = w11 at HB HR266_2 HR266_5 HR268_2 HR268_5 HR269_2 HR269_5 hx266_0 hx266_1 hx266_2 hx266_3 hx266_4 hx266_5 hx266_6 hx266_7 hx268_0 hx268_1 hx268_2 hx268_3 hx268_4 hx268_5 hx268_6 hx268_7 hx269_0 hx269_1 hx269_2 hx269_3 hx269_4 hx269_5 hx269_6 hx269_7 hHeld ⊢
    refine pI 0 (some 10) b13A1 HT_ ?_
    refine pI 1 (some 11) b13A2 HT_ ?_
    refine pI 2 (some 12) b13A3 HT_ ?_
    refine tI 3 (some 13) b13A4 HT_ HW_ hHeld rfl rfl (Or.inl ⟨by rfl, by rintro w' ⟨s0, s1, s2, s3, s4, s5, s6, s7, s8, s9, s10, s11, s12, s13, s14, s15, s16, s17, s18, s19, s20, s21, s22, s23⟩; go_simp; with_reducible rfl⟩) ?_
    refine one_ (i := 4) (N := some 14) b13A5 rfl rfl (one_of HT_.o (by kernel_rfl)) (by decide) (fun K hK => ?_)
    refine goes_ Try.func175 (by kernel_rfl) rfl #[.agg #[.int .i64 ((rd_T87 l0 x3_1).f0), .int .i64 ((rd_T87 l0 x3_1).f1), .slice A266_2 ((rd_T87 l0 x3_1).f2).length c266_2, .int .i64 ((rd_T87 l0 x3_1).f3), .int .i64 ((rd_T87 l0 x3_1).f4), .slice A266_5 ((rd_T87 l0 x3_1).f5).length c266_5, .int .i64 ((rd_T87 l0 x3_1).f6.f0), .int .i64 ((rd_T87 l0 x3_1).f6.f1)]] (by rfl) rfl rfl M0 ?_
    with_reducible refine (spec_IsReport.calls k1 ((rd_T87 l0 x3_1).f0) ((rd_T87 l0 x3_1).f1) _ _ ((rd_T87 l0 x3_1).f2) ((rd_T87 l0 x3_1).f3) ((rd_T87 l0 x3_1).f4) _ _ ((rd_T87 l0 x3_1).f5) ((rd_T87 l0 x3_1).f6.f0) ((rd_T87 l0 x3_1).f6.f1) true _ ?side1 ?side2 ?side3 ?side4 A4.o).mono ?_
    (case side1 => exact Kd.qC (Kd.C_below HR266_2.o HB.o))
    (case side2 => exact HC266_2.o)
    (case side3 => exact Kd.qC (Kd.C_below HR266_5.o HB.o))
    (case side4 => exact HC266_5.o)
    rintro e w12 ⟨rfl, hb⟩
    refine ⟨_, rfl, ?_⟩
    have n0_ := zK (bT (qB HB.o) hb)
    clear HB
    have HB := n0_
    clear n0_
    (try clear hb)
    (try clear hb2)
    (try clear hk)
    (try clear hi)
    refine hK.out _ _ ⟨(cB HB.o hw266_0 :), (cB HB.o hw266_1 :), (cB HB.o hw266_2 :), (cB HB.o hw266_3 :), (cB HB.o hw266_4 :), (cB HB.o hw266_5 :), (cB HB.o hw266_6 :), (cB HB.o hw266_7 :), (cB HB.o hw268_0 :), (cB HB.o hw268_1 :), (cB HB.o hw268_2 :), (cB HB.o hw268_3 :), (cB HB.o hw268_4 :), (cB HB.o hw268_5 :), (cB HB.o hw268_6 :), (cB HB.o hw268_7 :), (cB HB.o hw269_0 :), (cB HB.o hw269_1 :), (cB HB.o hw269_2 :), (cB HB.o hw269_3 :), (cB HB.o hw269_4 :), (cB HB.o hw269_5 :), (cB HB.o hw269_6 :), (cB HB.o hw269_7 :)⟩ (fun hHeld => ?_)
    clear hK K
    refine norm_ (a' := ?_) ?_ ?_
    rotate_left
    ·show Act.put _ (some 14) _ = _
     simp only [Act.put, sA, sZ, sS, i64_w, i32_w]
     rfl
    refine pI 5 (some 15) b13A6 HT_ ?_
    refine pI 6 (some 16) b13A7 HT_ ?_
    refine pI 7 (some 17) b13A8 HT_ ?_
    refine pI 8 (some 18) b13A9 HT_ ?_
    refine pI 9 (some 19) b13A10 HT_ ?_
    refine pI 10 (some 20) b13A11 HT_ ?_
    refine pI 11 (some 21) b13A12 HT_ ?_
    refine pI 12 (some 22) b13A13 HT_ ?_
    refine pI 13 (some 23) b13A14 HT_ ?_
    refine pI 14 (some 24) b13A15 HT_ ?_
    refine pI 16 (some 26) b13A16 HT_ ?_
    refine pI 17 (some 27) b13A17 HT_ ?_
    refine pI 18 (some 28) b13A18 HT_ ?_
    refine pI 19 (some 29) b13A19 HT_ ?_
    refine tI 15 (some 25) b13A20 HT_ HW_ hHeld rfl rfl (Or.inl ⟨by rfl, by rintro w' ⟨s0, s1, s2, s3, s4, s5, s6, s7, s8, s9, s10, s11, s12, s13, s14, s15, s16, s17, s18, s19, s20, s21, s22, s23⟩; go_simp; with_reducible rfl⟩) ?_
    refine tI 20 (some 30) b13A21 HT_ HW_ hHeld rfl rfl (Or.inl ⟨by rfl, by rintro w' ⟨s0, s1, s2, s3, s4, s5, s6, s7, s8, s9, s10, s11, s12, s13, s14, s15, s16, s17, s18, s19, s20, s21, s22, s23⟩; go_simp; with_reducible rfl⟩) ?_
    refine pI 21 (some 31) b13A22 HT_ ?_
    refine pI 22 (some 32) b13A23 HT_ ?_
    refine pI 23 (some 33) b13A24 HT_ ?_
    refine done_ (done_of HT_.o (by kernel_rfl)) ?_
    try go_wp2
    go_ret
    exact ⟨by first | rfl | (simp [errW_none, errW_some] <;> rfl) | (simp only [← hji7]; first | rfl | (simp [errW_none, errW_some] <;> rfl)) | (simp [*, errW_none, errW_some] <;> rfl), by exact qB HB.o⟩
   rw [if_neg c10] at H
   have c10b0 : decide (((rd_T87 l0 x3_1).f0) ≤ ((rd_T87 l0 (ji7)).f0)) = false := decide_eq_false c10
   clear c10
   have H' := zK H
   clear H
   try go_wp2
   have n0_ := zK (below_drew1 HB.o)
   clear HB
   have HB := n0_
   clear n0_
   have p266 : 0 ≤ (x3_1 : Int) := oD M1
   have q266 : x3_1 < (l0.length : Int) := oD M1
   obtain ⟨ad266, A266_2, c266_2, A266_5, c266_5, e266, hx266_0, hx266_1, hx266_2, hx266_3, hx266_4, hx266_5, hx266_6, hx266_7, hl266_2, hi266_2, hl266_5, hi266_5⟩ := at_T87 HR0.o x3_1 p266 q266
   have hw266_7 := hx266_7
   have hw266_6 := hx266_6
   have hw266_5 := hx266_5
   have hw266_4 := hx266_4
   have hw266_3 := hx266_3
   have hw266_2 := hx266_2
   have hw266_1 := hx266_1
   have hw266_0 := hx266_0
   cases e266
   replace hx266_0 := cB HB.o hx266_0
   replace hx266_1 := cB HB.o hx266_1
   replace hx266_2 := cB HB.o hx266_2
   replace hx266_3 := cB HB.o hx266_3
   replace hx266_4 := cB HB.o hx266_4
   replace hx266_5 := cB HB.o hx266_5
   replace hx266_6 := cB HB.o hx266_6
   replace hx266_7 := cB HB.o hx266_7
   have HR266_2 := zK hi266_2
   have HC266_2 := zK hl266_2
   clear hi266_2 hl266_2
   have HR266_5 := zK hi266_5
   have HC266_5 := zK hl266_5
   clear hi266_5 hl266_5
   replace p266 := eq_true p266
   replace q266 := eq_true q266
   have p268 : 0 ≤ ((ji7) : Int) := oD M1
   have q268 : (ji7) < (l0.length : Int) := oD M1
   obtain ⟨ad268, A268_2, c268_2, A268_5, c268_5, e268, hx268_0, hx268_1, hx268_2, hx268_3, hx268_4, hx268_5, hx268_6, hx268_7, hl268_2, hi268_2, hl268_5, hi268_5⟩ := at_T87 HR0.o (ji7) p268 q268
   have hw268_7 := hx268_7
   have hw268_6 := hx268_6
   have hw268_5 := hx268_5
   have hw268_4 := hx268_4
   have hw268_3 := hx268_3
   have hw268_2 := hx268_2
   have hw268_1 := hx268_1
   have hw268_0 := hx268_0
   obtain rfl : ad266 = ad268 := (by injection e268)
   replace hx268_0 := cB HB.o hx268_0
   replace hx268_1 := cB HB.o hx268_1
   replace hx268_2 := cB HB.o hx268_2
   replace hx268_3 := cB HB.o hx268_3
   replace hx268_4 := cB HB.o hx268_4
   replace hx268_5 := cB HB.o hx268_5
   replace hx268_6 := cB HB.o hx268_6
   replace hx268_7 := cB HB.o hx268_7
   have HR268_2 := zK hi268_2
   have HC268_2 := zK hl268_2
   clear hi268_2 hl268_2
   have HR268_5 := zK hi268_5
   have HC268_5 := zK hl268_5
   clear hi268_5 hl268_5
   replace p268 := eq_true p268
   replace q268 := eq_true q268
   have p269 : 0 ≤ (x3_1 : Int) := oD M1
   have q269 : x3_1 < (l0.length : Int) := oD M1
   obtain ⟨ad269, A269_2, c269_2, A269_5, c269_5, e269, hx269_0, hx269_1, hx269_2, hx269_3, hx269_4, hx269_5, hx269_6, hx269_7, hl269_2, hi269_2, hl269_5, hi269_5⟩ := at_T87 HR0.o x3_1 p269 q269
   have hw269_7 := hx269_7
   have hw269_6 := hx269_6
   have hw269_5 := hx269_5
   have hw269_4 := hx269_4
   have hw269_3 := hx269_3
   have hw269_2 := hx269_2
   have hw269_1 := hx269_1
   have hw269_0 := hx269_0
   obtain rfl : ad266 = ad269 := (by injection e269)
   replace hx269_0 := cB HB.o hx269_0
   replace hx269_1 := cB HB.o hx269_1
   replace hx269_2 := cB HB.o hx269_2
   replace hx269_3 := cB HB.o hx269_3
   replace hx269_4 := cB HB.o hx269_4
   replace hx269_5 := cB HB.o hx269_5
   replace hx269_6 := cB HB.o hx269_6
   replace hx269_7 := cB HB.o hx269_7
   have HR269_2 := zK hi269_2
   have HC269_2 := zK hl269_2
   clear hi269_2 hl269_2
   have HR269_5 := zK hi269_5
   have HC269_5 := zK hl269_5
   clear hi269_5 hl269_5
   replace p269 := eq_true p269
   replace q269 := eq_true q269
   refine start_ (n := 24) (S := fun w' => w'.cell? (ad266.add ((x3_1).toNat * 8)) = some (.int .i64 ((rd_T87 l0 x3_1).f0)) ∧ w'.cell? ⟨(ad266.add ((x3_1).toNat * 8)).block, (ad266.add ((x3_1).toNat * 8)).off + 1, none⟩ = some (.int .i64 ((rd_T87 l0 x3_1).f1)) ∧ w'.cell? ⟨(ad266.add ((x3_1).toNat * 8)).block, (ad266.add ((x3_1).toNat * 8)).off + 2, none⟩ = some (.slice A266_2 ((rd_T87 l0 x3_1).f2).length c266_2) ∧ w'.cell? ⟨(ad266.add ((x3_1).toNat * 8)).block, (ad266.add ((x3_1).toNat * 8)).off + 3, none⟩ = some (.int .i64 ((rd_T87 l0 x3_1).f3)) ∧ w'.cell? ⟨(ad266.add ((x3_1).toNat * 8)).block, (ad266.add ((x3_1).toNat * 8)).off + 4, none⟩ = some (.int .i64 ((rd_T87 l0 x3_1).f4)) ∧ w'.cell? ⟨(ad266.add ((x3_1).toNat * 8)).block, (ad266.add ((x3_1).toNat * 8)).off + 5, none⟩ = some (.slice A266_5 ((rd_T87 l0 x3_1).f5).length c266_5) ∧ w'.cell? ⟨(ad266.add ((x3_1).toNat * 8)).block, (ad266.add ((x3_1).toNat * 8)).off + 6, none⟩ = some (.int .i64 ((rd_T87 l0 x3_1).f6.f0)) ∧ w'.cell? ⟨(ad266.add ((x3_1).toNat * 8)).block, (ad266.add ((x3_1).toNat * 8)).off + 7, none⟩ = some (.int .i64 ((rd_T87 l0 x3_1).f6.f1)) ∧ w'.cell? (ad266.add (((ji7)).toNat * 8)) = some (.int .i64 ((rd_T87 l0 (ji7)).f0)) ∧ w'.cell? ⟨(ad266.add (((ji7)).toNat * 8)).block, (ad266.add (((ji7)).toNat * 8)).off + 1, none⟩ = some (.int .i64 ((rd_T87 l0 (ji7)).f1)) ∧ w'.cell? ⟨(ad266.add (((ji7)).toNat * 8)).block, (ad266.add (((ji7)).toNat * 8)).off + 2, none⟩ = some (.slice A268_2 ((rd_T87 l0 (ji7)).f2).length c268_2) ∧ w'.cell? ⟨(ad266.add (((ji7)).toNat * 8)).block, (ad266.add (((ji7)).toNat * 8)).off + 3, none⟩ = some (.int .i64 ((rd_T87 l0 (ji7)).f3)) ∧ w'.cell? ⟨(ad266.add (((ji7)).toNat * 8)).block, (ad266.add (((ji7)).toNat * 8)).off + 4, none⟩ = some (.int .i64 ((rd_T87 l0 (ji7)).f4)) ∧ w'.cell? ⟨(ad266.add (((ji7)).toNat * 8)).block, (ad266.add (((ji7)).toNat * 8)).off + 5, none⟩ = some (.slice A268_5 ((rd_T87 l0 (ji7)).f5).length c268_5) ∧ w'.cell? ⟨(ad266.add (((ji7)).toNat * 8)).block, (ad266.add (((ji7)).toNat * 8)).off + 6, none⟩ = some (.int .i64 ((rd_T87 l0 (ji7)).f6.f0)) ∧ w'.cell? ⟨(ad266.add (((ji7)).toNat * 8)).block, (ad266.add (((ji7)).toNat * 8)).off + 7, none⟩ = some (.int .i64 ((rd_T87 l0 (ji7)).f6.f1)) ∧ w'.cell? (ad266.add ((x3_1).toNat * 8)) = some (.int .i64 ((rd_T87 l0 x3_1).f0)) ∧ w'.cell? ⟨(ad266.add ((x3_1).toNat * 8)).block, (ad266.add ((x3_1).toNat * 8)).off + 1, none⟩ = some (.int .i64 ((rd_T87 l0 x3_1).f1)) ∧ w'.cell? ⟨(ad266.add ((x3_1).toNat * 8)).block, (ad266.add ((x3_1).toNat * 8)).off + 2, none⟩ = some (.slice A269_2 ((rd_T87 l0 x3_1).f2).length c269_2) ∧ w'.cell? ⟨(ad266.add ((x3_1).toNat * 8)).block, (ad266.add ((x3_1).toNat * 8)).off + 3, none⟩ = some (.int .i64 ((rd_T87 l0 x3_1).f3)) ∧ w'.cell? ⟨(ad266.add ((x3_1).toNat * 8)).block, (ad266.add ((x3_1).toNat * 8)).off + 4, none⟩ = some (.int .i64 ((rd_T87 l0 x3_1).f4)) ∧ w'.cell? ⟨(ad266.add ((x3_1).toNat * 8)).block, (ad266.add ((x3_1).toNat * 8)).off + 5, none⟩ = some (.slice A269_5 ((rd_T87 l0 x3_1).f5).length c269_5) ∧ w'.cell? ⟨(ad266.add ((x3_1).toNat * 8)).block, (ad266.add ((x3_1).toNat * 8)).off + 6, none⟩ = some (.int .i64 ((rd_T87 l0 x3_1).f6.f0)) ∧ w'.cell? ⟨(ad266.add ((x3_1).toNat * 8)).block, (ad266.add ((x3_1).toNat * 8)).off + 7, none⟩ = some (.int .i64 ((rd_T87 l0 x3_1).f6.f1))) (ds := []) b13A0 (by kernel_rfl) rfl rfl ⟨(cB HB.o hw266_0 :), (cB HB.o hw266_1 :), (cB HB.o hw266_2 :), (cB HB.o hw266_3 :), (cB HB.o hw266_4 :), (cB HB.o hw266_5 :), (cB HB.o hw266_6 :), (cB HB.o hw266_7 :), (cB HB.o hw268_0 :), (cB HB.o hw268_1 :), (cB HB.o hw268_2 :), (cB HB.o hw268_3 :), (cB HB.o hw268_4 :), (cB HB.o hw268_5 :), (cB HB.o hw268_6 :), (cB HB.o hw268_7 :), (cB HB.o hw269_0 :), (cB HB.o hw269_1 :), (cB HB.o hw269_2 :), (cB HB.o hw269_3 :), (cB HB.o hw269_4 :), (cB HB.o hw269_5 :), (cB HB.o hw269_6 :), (cB HB.o hw269_7 :)⟩ (fun hHeld => ?_); refine with_tabW spec_AreReports.tab4 spec_AreReports.bits4 (fun HT_ HW_ => ?_)
   generalize wr.drew = w13 at HB HR266_2 HR266_5 HR268_2 HR268_5 HR269_2 HR269_5 hx266_0 hx266_1 hx266_2 hx266_3 hx266_4 hx266_5 hx266_6 hx266_7 hx268_0 hx268_1 hx268_2 hx268_3 hx268_4 hx268_5 hx268_6 hx268_7 hx269_0 hx269_1 hx269_2 hx269_3 hx269_4 hx269_5 hx269_6 hx269_7 hHeld ⊢
   refine pI 0 (some 10) b13A1 HT_ ?_
   refine pI 1 (some 11) b13A2 HT_ ?_
   refine pI 2 (some 12) b13A3 HT_ ?_
   refine tI 3 (some 13) b13A4 HT_ HW_ hHeld rfl rfl (Or.inl ⟨by rfl, by rintro w' ⟨s0, s1, s2, s3, s4, s5, s6, s7, s8, s9, s10, s11, s12, s13, s14, s15, s16, s17, s18, s19, s20, s21, s22, s23⟩; go_simp; with_reducible rfl⟩) ?_
   refine one_ (i := 4) (N := some 14) b13A5 rfl rfl (one_of HT_.o (by kernel_rfl)) (by decide) (fun K hK => ?_)
   refine goes_ Try.func175 (by kernel_rfl) rfl #[.agg #[.int .i64 ((rd_T87 l0 x3_1).f0), .int .i64 ((rd_T87 l0 x3_1).f1), .slice A266_2 ((rd_T87 l0 x3_1).f2).length c266_2, .int .i64 ((rd_T87 l0 x3_1).f3), .int .i64 ((rd_T87 l0 x3_1).f4), .slice A266_5 ((rd_T87 l0 x3_1).f5).length c266_5, .int .i64 ((rd_T87 l0 x3_1).f6.f0), .int .i64 ((rd_T87 l0 x3_1).f6.f1)]] (by rfl) rfl rfl M0 ?_
   with_reducible refine (spec_IsReport.calls k1 ((rd_T87 l0 x3_1).f0) ((rd_T87 l0 x3_1).f1) _ _ ((rd_T87 l0 x3_1).f2) ((rd_T87 l0 x3_1).f3) ((rd_T87 l0 x3_1).f4) _ _ ((rd_T87 l0 x3_1).f5) ((rd_T87 l0 x3_1).f6.f0) ((rd_T87 l0 x3_1).f6.f1) true _ ?side1 ?side2 ?side3 ?side4 A4.o).mono ?_
   (case side1 => exact Kd.qC (Kd.C_below HR266_2.o HB.o))
   (case side2 => exact HC266_2.o)
   (case side3 => exact Kd.qC (Kd.C_below HR266_5.o HB.o))
   (case side4 => exact HC266_5.o)
   rintro e w14 ⟨rfl, hb⟩
   refine ⟨_, rfl, ?_⟩
   have n0_ := zK (bT (qB HB.o) hb)
   clear HB
   have HB := n0_
   clear n0_
   (try clear hb)
   (try clear hb2)
   (try clear hk)
   (try clear hi)
   refine hK.out _ _ ⟨(cB HB.o hw266_0 :), (cB HB.o hw266_1 :), (cB HB.o hw266_2 :), (cB HB.o hw266_3 :), (cB HB.o hw266_4 :), (cB HB.o hw266_5 :), (cB HB.o hw266_6 :), (cB HB.o hw266_7 :), (cB HB.o hw268_0 :), (cB HB.o hw268_1 :), (cB HB.o hw268_2 :), (cB HB.o hw268_3 :), (cB HB.o hw268_4 :), (cB HB.o hw268_5 :), (cB HB.o hw268_6 :), (cB HB.o hw268_7 :), (cB HB.o hw269_0 :), (cB HB.o hw269_1 :), (cB HB.o hw269_2 :), (cB HB.o hw269_3 :), (cB HB.o hw269_4 :), (cB HB.o hw269_5 :), (cB HB.o hw269_6 :), (cB HB.o hw269_7 :)⟩ (fun hHeld => ?_)
   clear hK K
   refine norm_ (a' := ?_) ?_ ?_
   rotate_left
   ·show Act.put _ (some 14) _ = _
    simp only [Act.put, sA, sZ, sS, i64_w, i32_w]
    rfl
   refine pI 5 (some 15) b13A6 HT_ ?_
   refine pI 6 (some 16) b13A7 HT_ ?_
   refine pI 7 (some 17) b13A8 HT_ ?_
   refine pI 8 (some 18) b13A9 HT_ ?_
   refine pI 9 (some 19) b13A10 HT_ ?_
   refine pI 10 (some 20) b13A11 HT_ ?_
   refine pI 11 (some 21) b13A12 HT_ ?_
   refine pI 12 (some 22) b13A13 HT_ ?_
   refine pI 13 (some 23) b13A14 HT_ ?_
   refine pI 14 (some 24) b13A15 HT_ ?_
   refine pI 16 (some 26) b13A16 HT_ ?_
   refine pI 17 (some 27) b13A17 HT_ ?_
   refine pI 18 (some 28) b13A18 HT_ ?_
   refine pI 19 (some 29) b13A19 HT_ ?_
   refine tI 15 (some 25) b13A20 HT_ HW_ hHeld rfl rfl (Or.inl ⟨by rfl, by rintro w' ⟨s0, s1, s2, s3, s4, s5, s6, s7, s8, s9, s10, s11, s12, s13, s14, s15, s16, s17, s18, s19, s20, s21, s22, s23⟩; go_simp; with_reducible rfl⟩) ?_
   refine tI 20 (some 30) b13A21 HT_ HW_ hHeld rfl rfl (Or.inl ⟨by rfl, by rintro w' ⟨s0, s1, s2, s3, s4, s5, s6, s7, s8, s9, s10, s11, s12, s13, s14, s15, s16, s17, s18, s19, s20, s21, s22, s23⟩; go_simp; with_reducible rfl⟩) ?_
   refine pI 21 (some 31) b13A22 HT_ ?_
   refine pI 22 (some 32) b13A23 HT_ ?_
   refine pI 23 (some 33) b13A24 HT_ ?_
   refine done_ (done_of HT_.o (by kernel_rfl)) ?_
   try go_wp2
   go_roundg k1
   case measure => have := HK1.o; omega
   case rel => exact ⟨(wrap64 (x3_1 + 1)), M3, H', ⟨by have := HK1.o; omega⟩, ⟨by exact qB HB.o⟩⟩
end Go.Proofs.Ytpkdbkheggfkkaa.PFnExactLettersFor
