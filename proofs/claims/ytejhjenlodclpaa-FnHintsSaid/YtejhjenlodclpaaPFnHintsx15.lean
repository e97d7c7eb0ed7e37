/- Walks of functions that FnHints reaches, shortened. -/
import Derived.Test.YtejhjenlodclpaaPFnHintsx0
import Derived.Test.YtejhjenlodclpaaPFnHintsx14
namespace Go.Proofs.Ytejhjenlodclpaa.PFnHints
open Go.RowKit Go.Proofs.YtejhjenlodclpaaW.PrintWords Go.Proofs.YtejhjenlodclpaaW.PrintLast Go.Proofs.YtejhjenlodclpaaW.PrintMore
attribute [local go_sem] max2_int min2_int max_two min_two max_three min_three max_four min_four
set_option linter.unusedVariables false
set_option linter.unusedSimpArgs false

abbrev b15A0 : Array Bool := #[O, O, O, O, O, O, O, O, O, O, O, O, O, O, O, O, O, O, O, O, O, O, O, O, O, O]
abbrev b15A1 : Array Bool := #[I, O, O, O, O, O, O, O, O, O, O, O, O, O, O, O, O, O, O, O, O, O, O, O, O, O]
abbrev b15A2 : Array Bool := #[I, I, O, O, O, O, O, O, O, O, O, O, O, O, O, O, O, O, O, O, O, O, O, O, O, O]
abbrev b15A3 : Array Bool := #[I, I, I, O, O, O, O, O, O, O, O, O, O, O, O, O, O, O, O, O, O, O, O, O, O, O]
abbrev b15A4 : Array Bool := #[I, I, I, I, O, O, O, O, O, O, O, O, O, O, O, O, O, O, O, O, O, O, O, O, O, O]
abbrev b15A5 : Array Bool := #[I, I, I, I, I, O, O, O, O, O, O, O, O, O, O, O, O, O, O, O, O, O, O, O, O, O]
abbrev b15A6 : Array Bool := #[I, I, I, I, I, I, O, O, O, O, O, O, O, O, O, O, O, O, O, O, O, O, O, O, O, O]
abbrev b15A7 : Array Bool := #[I, I, I, I, I, I, I, O, O, O, O, O, O, O, O, O, O, O, O, O, O, O, O, O, O, O]
abbrev b15A8 : Array Bool := #[I, I, I, I, I, I, I, I, O, O, O, O, O, O, O, O, O, O, O, O, O, O, O, O, O, O]
abbrev b15A9 : Array Bool := #[I, I, I, I, I, I, I, I, I, O, O, O, O, O, O, O, O, O, O, O, O, O, O, O, O, O]
abbrev b15A10 : Array Bool := #[I, I, I, I, I, I, I, I, I, I, O, O, O, O, O, O, O, O, O, O, O, O, O, O, O, O]
abbrev b15A11 : Array Bool := #[I, I, I, I, I, I, I, I, I, I, I, O, O, O, O, O, O, O, O, O, O, O, O, O, O, O]
abbrev b15A12 : Array Bool := #[I, I, I, I, I, I, I, I, I, I, I, I, O, O, O, O, O, O, O, O, O, O, O, O, O, O]
abbrev b15A13 : Array Bool := #[I, I, I, I, I, I, I, I, I, I, I, I, I, O, O, O, O, O, O, O, O, O, O, O, O, O]
abbrev b15A14 : Array Bool := #[I, I, I, I, I, I, I, I, I, I, I, I, I, I, O, O, O, O, O, O, O, O, O, O, O, O]
abbrev b15A15 : Array Bool := #[I, I, I, I, I, I, I, I, I, I, I, I, I, I, I, O, O, O, O, O, O, O, O, O, O, O]
abbrev b15A16 : Array Bool := #[I, I, I, I, I, I, I, I, I, I, I, I, I, I, I, I, O, O, O, O, O, O, O, O, O, O]
abbrev b15A17 : Array Bool := #[I, I, I, I, I, I, I, I, I, I, I, I, I, I, I, I, O, I, O, O, O, O, O, O, O, O]
abbrev b15A18 : Array Bool := #[I, I, I, I, I, I, I, I, I, I, I, I, I, I, I, I, O, I, I, O, O, O, O, O, O, O]
abbrev b15A19 : Array Bool := #[I, I, I, I, I, I, I, I, I, I, I, I, I, I, I, I, O, I, I, I, O, O, O, O, O, O]
abbrev b15A20 : Array Bool := #[I, I, I, I, I, I, I, I, I, I, I, I, I, I, I, I, O, I, I, I, I, O, O, O, O, O]
abbrev b15A21 : Array Bool := #[I, I, I, I, I, I, I, I, I, I, I, I, I, I, I, I, O, I, I, I, I, I, O, O, O, O]
abbrev b15A22 : Array Bool := #[I, I, I, I, I, I, I, I, I, I, I, I, I, I, I, I, I, I, I, I, I, I, O, O, O, O]
abbrev b15A23 : Array Bool := #[I, I, I, I, I, I, I, I, I, I, I, I, I, I, I, I, I, I, I, I, I, I, I, O, O, O]
abbrev b15A24 : Array Bool := #[I, I, I, I, I, I, I, I, I, I, I, I, I, I, I, I, I, I, I, I, I, I, I, I, O, O]
abbrev b15A25 : Array Bool := #[I, I, I, I, I, I, I, I, I, I, I, I, I, I, I, I, I, I, I, I, I, I, I, I, I, O]
abbrev b15A26 : Array Bool := #[I, I, I, I, I, I, I, I, I, I, I, I, I, I, I, I, I, I, I, I, I, I, I, I, I, I]
abbrev b15A27 : Array Bool := #[I, I, I, I, I, I, I, I, I, I, I, I, I, I, I, I, I, O, O, O, O, O, O, O, O, O]
abbrev b15A28 : Array Bool := #[I, I, I, I, I, I, I, I, I, I, I, I, I, I, I, I, I, I, O, O, O, O, O, O, O, O]
abbrev b15A29 : Array Bool := #[I, I, I, I, I, I, I, I, I, I, I, I, I, I, I, I, I, I, I, O, O, O, O, O, O, O]
abbrev b15A30 : Array Bool := #[I, I, I, I, I, I, I, I, I, I, I, I, I, I, I, I, I, I, I, I, O, O, O, O, O, O]
abbrev b15A31 : Array Bool := #[I, I, I, I, I, I, I, I, I, I, I, I, I, I, I, I, I, I, I, I, I, O, O, O, O, O]
/-! ### spec_AreFinds: function 82 -/
def spec_AreFinds.l0 : Nat → List (S113) → Int → Option (Bool)
 | 0, _, _ => none
 | k + 1, x0, x3 => if x3 < (x0.length : Int) then (if 0 ≤ x3 then ((spec_IsFind.f ((rd_T113 x0 x3).f0.f0) ((rd_T113 x0 x3).f0.f1) ((rd_T113 x0 x3).f0.f2) ((rd_T113 x0 x3).f0.f3) ((rd_T113 x0 x3).f0.f4) ((rd_T113 x0 x3).f1) ((rd_T113 x0 x3).f2) ((rd_T113 x0 x3).f3)).bind fun t692 => (if t692 = true then (if x3 > 0 then (if 0 ≤ (wrap64 (x3 - 1)) then (if (wrap64 (x3 - 1)) < (x0.length : Int) then (if ((rd_T113 x0 (wrap64 (x3 - 1))).f0.f0) ≥ ((rd_T113 x0 x3).f0.f0) then (some false) else (spec_AreFinds.l0 k x0 (wrap64 (x3 + 1)))) else (none)) else (none)) else (spec_AreFinds.l0 k x0 (wrap64 (x3 + 1)))) else (some false))) else (none)) else (some (decide ((x0.length : Int) ≤ 20)))
def spec_AreFinds.f (k : Nat) (l0 : List (S113)) : Option (Bool) := spec_AreFinds.l0 k l0 0
def spec_AreFinds.T4 : Bool × List (List Nat × List Nat) := (true, [([], []), ([], []), ([0, 1], [0, 1]), ([2], [2]), ([3], [3]), ([4], [4]), ([5, 4], [5]), ([6], [6]), ([7, 6], [6, 7]), ([8, 6, 6], [6, 8]), ([9], [9]), ([9], [9]), ([11, 9], [9, 11]), ([10, 12, 9], [9, 10, 12]), ([13, 9], [9, 13]), ([14, 9], [9, 14]), ([15, 9], [9, 15]), ([9], [9]), ([9], [9]), ([17, 18, 9], [9, 17, 18]), ([19, 9], [9, 19]), ([20, 9], [9, 20]), ([21, 9], [9, 21]), ([16, 22, 9], [9, 16, 22]), ([9, 23, 6], [6, 9, 23]), ([6, 24], [6, 24])])
def spec_AreFinds.B4 : List Nat := [0, 0, 3, 7, 15, 31, 63, 127, 255, 511, 1023, 1023, 3071, 8191, 16383, 32767, 65535, 1023, 1023, 394239, 918527, 1967103, 4064255, 8388607, 16777215, 33554431]
theorem spec_AreFinds.tab4 : rtab .any (opsOf Try.f82 4) = spec_AreFinds.T4 := by kernel_rfl
theorem spec_AreFinds.bits4 : waitsOk spec_AreFinds.T4.2 spec_AreFinds.B4 = true := by kernel_rfl
set_option maxHeartbeats 8000000 in
set_option maxRecDepth 100000 in
theorem spec_AreFinds.calls (k : Nat) (A0 : Option Addr) (c0 : Nat) (l0 : List (S113)) (r : Bool) (w : World) (hr0 : Kd.C k113 w A0 l0.length l0) (hc0 : l0.length ≤ c0) (h : spec_AreFinds.f k l0 = some r) :
  Calls Try.prog 82 #[.slice A0 l0.length c0] w fun e w' => e = .returned (.bool r) ∧ Below w.heap.size w w' := by
 have hu113 := Try.underlying113
 have HR0 := zK hr0
 have HC0 := zK hc0
 clear hr0 hc0
 have HB := zK (Below.refl w.heap.size w)
 have H : (spec_AreFinds.l0 k l0 0) = some r := h
 clear h
 have H' := zK H
 clear H
 go_enter Try.func82, Try.ntmps82
 go_wp2
 go_loopg [3] k (fun kq v3 w' => ∃ (x3_1 : Int), v3 = .int .i64 x3_1 ∧ Aside0 (spec_AreFinds.l0 kq l0 x3_1 = some r) ∧ Aside0 (kq ≤ k) ∧ Aside0 (Below w.heap.size w w'))
 case atStart => exact ⟨(0), M12, H', ⟨Nat.le_refl _⟩, ⟨o8⟩⟩
 case round =>
  clear H'
  obtain ⟨x3_1, rfl, HA, HK1, HB⟩ := hrel
  cases gk with
  | zero => exact absurd HA.o (by simp [spec_AreFinds.l0])
  | succ k1 =>
   have H := HA.o
   clear HA
   simp only [spec_AreFinds.l0] at H
   by_cases c2 : x3_1 < (l0.length : Int)
   rotate_left
   ·rw [if_neg c2] at H
    have c2b0 : decide (x3_1 < (l0.length : Int)) = false := decide_eq_false c2
    clear c2
    obtain rfl := Option.some.inj H
    go_wp2
    go_ret
    exact ⟨o0, o8⟩

   rw [if_pos c2] at H
   have c2b0 : decide (x3_1 < (l0.length : Int)) = true := decide_eq_true c2
   clear c2
   by_cases c3 : 0 ≤ x3_1
   rotate_left
   ·rw [if_neg c3] at H
    exact absurd H (by simp)
   rw [if_pos c3] at H
   have c3b0 : decide (0 ≤ x3_1) = true := decide_eq_true c3
   clear c3
   replace H := Option.bind_eq_some_iff.mp H
   obtain ⟨t692, A40, H⟩ := H
   try dsimp only at H
   have A4 := zK A40
   clear A40
   by_cases c5 : t692 = true
   rotate_left
   ·replace c5 := Bool.eq_false_iff.mpr c5
    subst c5
    have H1 : (some false) = some r := by rw [if_neg (show ¬ (false = true) by decide)] at H; exact H
    clear H
    have H := H1
    clear H1
    obtain rfl := Option.some.inj H
    try go_wp2
    have _ := zK (b1 HB.o)
    clear HB
    rename_i HB
    have p691 : 0 ≤ (x3_1 : Int) := oD M4
    have q691 : x3_1 < (l0.length : Int) := oD M4
    obtain ⟨ad691, e691, hx691_0, hx691_1, hx691_2, hx691_3, hx691_4, hx691_5, hx691_6, hx691_7⟩ := at_T113 HR0.o x3_1 p691 q691
    have hw691_7 := hx691_7
    have hw691_6 := hx691_6
    have hw691_5 := hx691_5
    have hw691_4 := hx691_4
    have hw691_3 := hx691_3
    have hw691_2 := hx691_2
    have hw691_1 := hx691_1
    have hw691_0 := hx691_0
    cases e691
    replace hx691_0 := cB HB.o hx691_0
    replace hx691_1 := cB HB.o hx691_1
    replace hx691_2 := cB HB.o hx691_2
    replace hx691_3 := cB HB.o hx691_3
    replace hx691_4 := cB HB.o hx691_4
    replace hx691_5 := cB HB.o hx691_5
    replace hx691_6 := cB HB.o hx691_6
    replace hx691_7 := cB HB.o hx691_7
    replace p691 := eq_true p691
    replace q691 := eq_true q691
    refine start_ (n := 26) (S := fun w' => w'.cell? (ad691.add ((x3_1).toNat * 8)) = some (.int .i64 ((rd_T113 l0 x3_1).f0.f0)) ∧ w'.cell? ⟨(ad691.add ((x3_1).toNat * 8)).block, (ad691.add ((x3_1).toNat * 8)).off + 1, none⟩ = some (.int .i64 ((rd_T113 l0 x3_1).f0.f1)) ∧ w'.cell? ⟨(ad691.add ((x3_1).toNat * 8)).block, (ad691.add ((x3_1).toNat * 8)).off + 2, none⟩ = some (.int .i64 ((rd_T113 l0 x3_1).f0.f2)) ∧ w'.cell? ⟨(ad691.add ((x3_1).toNat * 8)).block, (ad691.add ((x3_1).toNat * 8)).off + 3, none⟩ = some (.int .i64 ((rd_T113 l0 x3_1).f0.f3)) ∧ w'.cell? ⟨(ad691.add ((x3_1).toNat * 8)).block, (ad691.add ((x3_1).toNat * 8)).off + 4, none⟩ = some (.int .i64 ((rd_T113 l0 x3_1).f0.f4)) ∧ w'.cell? ⟨(ad691.add ((x3_1).toNat * 8)).block, (ad691.add ((x3_1).toNat * 8)).off + 5, none⟩ = some (.int .i64 ((rd_T113 l0 x3_1).f1)) ∧ w'.cell? ⟨(ad691.add ((x3_1).toNat * 8)).block, (ad691.add ((x3_1).toNat * 8)).off + 6, none⟩ = some (.int .i64 ((rd_T113 l0 x3_1).f2)) ∧ w'.cell? ⟨(ad691.add ((x3_1).toNat * 8)).block, (ad691.add ((x3_1).toNat * 8)).off + 7, none⟩ = some (.int .i64 ((rd_T113 l0 x3_1).f3))) (ds := []) b15A0 (by kernel_rfl) rfl rfl ⟨(cB HB.o hw691_0 :), (cB HB.o hw691_1 :), (cB HB.o hw691_2 :), (cB HB.o hw691_3 :), (cB HB.o hw691_4 :), (cB HB.o hw691_5 :), (cB HB.o hw691_6 :), (cB HB.o hw691_7 :)⟩ (fun hHeld => ?_); refine with_tabW spec_AreFinds.tab4 spec_AreFinds.bits4 (fun HT_ HW_ => ?_)
    generalize wr.drew = w17 at HB hx691_0 hx691_1 hx691_2 hx691_3 hx691_4 hx691_5 hx691_6 hx691_7 hHeld ⊢
    refine pI 0 (some 10) b15A1 HT_ ?_
    refine pI 1 (some 11) b15A2 HT_ ?_
    refine pI 2 (some 12) b15A3 HT_ ?_
    refine tI 3 (some 13) b15A4 HT_ HW_ hHeld rfl rfl (Or.inl ⟨by rfl, o5⟩) ?_
    refine one_ (i := 4) (N := some 14) b15A5 rfl rfl (one_of HT_.o (by kernel_rfl)) (by decide) (fun K hK => ?_)
    refine goes_ Try.func134 (by kernel_rfl) rfl #[.agg #[.int .i64 ((rd_T113 l0 x3_1).f0.f0), .int .i64 ((rd_T113 l0 x3_1).f0.f1), .int .i64 ((rd_T113 l0 x3_1).f0.f2), .int .i64 ((rd_T113 l0 x3_1).f0.f3), .int .i64 ((rd_T113 l0 x3_1).f0.f4), .int .i64 ((rd_T113 l0 x3_1).f1), .int .i64 ((rd_T113 l0 x3_1).f2), .int .i64 ((rd_T113 l0 x3_1).f3)]] (by rfl) rfl rfl M0 ?_
    with_reducible refine (spec_IsFind.calls ((rd_T113 l0 x3_1).f0.f0) ((rd_T113 l0 x3_1).f0.f1) ((rd_T113 l0 x3_1).f0.f2) ((rd_T113 l0 x3_1).f0.f3) ((rd_T113 l0 x3_1).f0.f4) ((rd_T113 l0 x3_1).f1) ((rd_T113 l0 x3_1).f2) ((rd_T113 l0 x3_1).f3) false _ A4.o).mono ?_
    rintro e w18 ⟨rfl, hb⟩
    refine ⟨_, rfl, ?_⟩
    have _ := zK (bT (qB HB.o) hb)
    clear HB
    rename_i HB
    (try clear hb)
    (try clear hb2)
    (try clear hk)
    (try clear hi)
    refine hK.out _ _ ⟨(cB HB.o hw691_0 :), (cB HB.o hw691_1 :), (cB HB.o hw691_2 :), (cB HB.o hw691_3 :), (cB HB.o hw691_4 :), (cB HB.o hw691_5 :), (cB HB.o hw691_6 :), (cB HB.o hw691_7 :)⟩ (fun hHeld => ?_)
    clear hK K
    refine norm_ (a' := ?_) ?_ ?_
    rotate_left
    ·show Act.put _ (some 14) _ = _
     simp only [Act.put, sA, sZ, sS, i64_w, i32_w]
     rfl
    refine pI 5 (some 15) b15A6 HT_ ?_
    refine pI 6 (some 16) b15A7 HT_ ?_
    refine pU 7 (some 17) b15A8 HT_ ?_
    refine pU 8 (some 18) b15A9 HT_ ?_
    refine pU 9 (some 19) b15A10 HT_ ?_
    refine pU 10 (some 20) b15A11 HT_ ?_
    refine pU 11 (some 21) b15A12 HT_ ?_
    refine pU 12 (some 22) b15A13 HT_ ?_
    refine pU 13 (some 23) b15A14 HT_ ?_
    refine pU 14 (some 24) b15A15 HT_ ?_
    refine pU 15 (some 25) b15A16 HT_ ?_
    refine pU 16 (some 26) b15A27 HT_ ?_
    refine pU 17 (some 27) b15A28 HT_ ?_
    refine pU 18 (some 28) b15A29 HT_ ?_
    refine pU 19 (some 29) b15A30 HT_ ?_
    refine pU 20 (some 30) b15A31 HT_ ?_
    refine pU 21 (some 31) b15A22 HT_ ?_
    refine pU 22 (some 32) b15A23 HT_ ?_
    refine pU 23 (some 33) b15A24 HT_ ?_
    refine pU 24 (some 34) b15A25 HT_ ?_
    refine pI 25 (some 35) b15A26 HT_ ?_
    refine done_ (done_of HT_.o (by kernel_rfl)) ?_
    try go_wp2
    go_ret
    exact ⟨o0, o8⟩
   subst c5
   have H1 : (if x3_1 > 0 then (if 0 ≤ (wrap64 (x3_1 - 1)) then (if (wrap64 (x3_1 - 1)) < (l0.length : Int) then (if ((rd_T113 l0 (wrap64 (x3_1 - 1))).f0.f0) ≥ ((rd_T113 l0 x3_1).f0.f0) then (some false) else (spec_AreFinds.l0 k1 l0 (wrap64 (x3_1 + 1)))) else (none)) else (none)) else (spec_AreFinds.l0 k1 l0 (wrap64 (x3_1 + 1)))) = some r := by rw [if_pos rfl] at H; exact H
   clear H
   have H := H1
   clear H1
   by_cases c6 : x3_1 > 0
   rotate_left
   ·rw [if_neg c6] at H
    have c6b0 : decide (0 < x3_1) = false := decide_eq_false c6
    clear c6
    have H' := zK H
    clear H
    try go_wp2
    have _ := zK (b1 HB.o)
    clear HB
    rename_i HB
    have p691 : 0 ≤ (x3_1 : Int) := oD M4
    have q691 : x3_1 < (l0.length : Int) := oD M4
    obtain ⟨ad691, e691, hx691_0, hx691_1, hx691_2, hx691_3, hx691_4, hx691_5, hx691_6, hx691_7⟩ := at_T113 HR0.o x3_1 p691 q691
    have hw691_7 := hx691_7
    have hw691_6 := hx691_6
    have hw691_5 := hx691_5
    have hw691_4 := hx691_4
    have hw691_3 := hx691_3
    have hw691_2 := hx691_2
    have hw691_1 := hx691_1
    have hw691_0 := hx691_0
    cases e691
    replace hx691_0 := cB HB.o hx691_0
    replace hx691_1 := cB HB.o hx691_1
    replace hx691_2 := cB HB.o hx691_2
    replace hx691_3 := cB HB.o hx691_3
    replace hx691_4 := cB HB.o hx691_4
    replace hx691_5 := cB HB.o hx691_5
    replace hx691_6 := cB HB.o hx691_6
    replace hx691_7 := cB HB.o hx691_7
    replace p691 := eq_true p691
    replace q691 := eq_true q691
    refine start_ (n := 26) (S := fun w' => w'.cell? (ad691.add ((x3_1).toNat * 8)) = some (.int .i64 ((rd_T113 l0 x3_1).f0.f0)) ∧ w'.cell? ⟨(ad691.add ((x3_1).toNat * 8)).block, (ad691.add ((x3_1).toNat * 8)).off + 1, none⟩ = some (.int .i64 ((rd_T113 l0 x3_1).f0.f1)) ∧ w'.cell? ⟨(ad691.add ((x3_1).toNat * 8)).block, (ad691.add ((x3_1).toNat * 8)).off + 2, none⟩ = some (.int .i64 ((rd_T113 l0 x3_1).f0.f2)) ∧ w'.cell? ⟨(ad691.add ((x3_1).toNat * 8)).block, (ad691.add ((x3_1).toNat * 8)).off + 3, none⟩ = some (.int .i64 ((rd_T113 l0 x3_1).f0.f3)) ∧ w'.cell? ⟨(ad691.add ((x3_1).toNat * 8)).block, (ad691.add ((x3_1).toNat * 8)).off + 4, none⟩ = some (.int .i64 ((rd_T113 l0 x3_1).f0.f4)) ∧ w'.cell? ⟨(ad691.add ((x3_1).toNat * 8)).block, (ad691.add ((x3_1).toNat * 8)).off + 5, none⟩ = some (.int .i64 ((rd_T113 l0 x3_1).f1)) ∧ w'.cell? ⟨(ad691.add ((x3_1).toNat * 8)).block, (ad691.add ((x3_1).toNat * 8)).off + 6, none⟩ = some (.int .i64 ((rd_T113 l0 x3_1).f2)) ∧ w'.cell? ⟨(ad691.add ((x3_1).toNat * 8)).block, (ad691.add ((x3_1).toNat * 8)).off + 7, none⟩ = some (.int .i64 ((rd_T113 l0 x3_1).f3))) (ds := []) b15A0 (by kernel_rfl) rfl rfl ⟨(cB HB.o hw691_0 :), (cB HB.o hw691_1 :), (cB HB.o hw691_2 :), (cB HB.o hw691_3 :), (cB HB.o hw691_4 :), (cB HB.o hw691_5 :), (cB HB.o hw691_6 :), (cB HB.o hw691_7 :)⟩ (fun hHeld => ?_); refine with_tabW spec_AreFinds.tab4 spec_AreFinds.bits4 (fun HT_ HW_ => ?_)
    generalize wr.drew = w15 at HB hx691_0 hx691_1 hx691_2 hx691_3 hx691_4 hx691_5 hx691_6 hx691_7 hHeld ⊢
    refine pI 0 (some 10) b15A1 HT_ ?_
    refine pI 1 (some 11) b15A2 HT_ ?_
    refine pI 2 (some 12) b15A3 HT_ ?_
    refine tI 3 (some 13) b15A4 HT_ HW_ hHeld rfl rfl (Or.inl ⟨by rfl, o5⟩) ?_
    refine one_ (i := 4) (N := some 14) b15A5 rfl rfl (one_of HT_.o (by kernel_rfl)) (by decide) (fun K hK => ?_)
    refine goes_ Try.func134 (by kernel_rfl) rfl #[.agg #[.int .i64 ((rd_T113 l0 x3_1).f0.f0), .int .i64 ((rd_T113 l0 x3_1).f0.f1), .int .i64 ((rd_T113 l0 x3_1).f0.f2), .int .i64 ((rd_T113 l0 x3_1).f0.f3), .int .i64 ((rd_T113 l0 x3_1).f0.f4), .int .i64 ((rd_T113 l0 x3_1).f1), .int .i64 ((rd_T113 l0 x3_1).f2), .int .i64 ((rd_T113 l0 x3_1).f3)]] (by rfl) rfl rfl M0 ?_
    with_reducible refine (spec_IsFind.calls ((rd_T113 l0 x3_1).f0.f0) ((rd_T113 l0 x3_1).f0.f1) ((rd_T113 l0 x3_1).f0.f2) ((rd_T113 l0 x3_1).f0.f3) ((rd_T113 l0 x3_1).f0.f4) ((rd_T113 l0 x3_1).f1) ((rd_T113 l0 x3_1).f2) ((rd_T113 l0 x3_1).f3) true _ A4.o).mono ?_
    rintro e w16 ⟨rfl, hb⟩
    refine ⟨_, rfl, ?_⟩
    have _ := zK (bT (qB HB.o) hb)
    clear HB
    rename_i HB
    (try clear hb)
    (try clear hb2)
    (try clear hk)
    (try clear hi)
    refine hK.out _ _ ⟨(cB HB.o hw691_0 :), (cB HB.o hw691_1 :), (cB HB.o hw691_2 :), (cB HB.o hw691_3 :), (cB HB.o hw691_4 :), (cB HB.o hw691_5 :), (cB HB.o hw691_6 :), (cB HB.o hw691_7 :)⟩ (fun hHeld => ?_)
    clear hK K
    refine norm_ (a' := ?_) ?_ ?_
    rotate_left
    ·show Act.put _ (some 14) _ = _
     simp only [Act.put, sA, sZ, sS, i64_w, i32_w]
     rfl
    refine pI 5 (some 15) b15A6 HT_ ?_
    refine pI 6 (some 16) b15A7 HT_ ?_
    refine pI 7 (some 17) b15A8 HT_ ?_
    refine pI 8 (some 18) b15A9 HT_ ?_
    refine pI 9 (some 19) b15A10 HT_ ?_
    refine pU 10 (some 20) b15A11 HT_ ?_
    refine pU 11 (some 21) b15A12 HT_ ?_
    refine pU 12 (some 22) b15A13 HT_ ?_
    refine pU 13 (some 23) b15A14 HT_ ?_
    refine pU 14 (some 24) b15A15 HT_ ?_
    refine pU 15 (some 25) b15A16 HT_ ?_
    refine pU 16 (some 26) b15A27 HT_ ?_
    refine pU 17 (some 27) b15A28 HT_ ?_
    refine pU 18 (some 28) b15A29 HT_ ?_
    refine pU 19 (some 29) b15A30 HT_ ?_
    refine pU 20 (some 30) b15A31 HT_ ?_
    refine pU 21 (some 31) b15A22 HT_ ?_
    refine pU 22 (some 32) b15A23 HT_ ?_
    refine pU 23 (some 33) b15A24 HT_ ?_
    refine pI 24 (some 34) b15A25 HT_ ?_
    refine pI 25 (some 35) b15A26 HT_ ?_
    refine done_ (done_of HT_.o (by kernel_rfl)) ?_
    try go_wp2
    go_roundg k1
    case measure => have := HK1.o; omega
    case rel => exact ⟨(wrap64 (x3_1 + 1)), M12, H', ⟨o6⟩, ⟨o8⟩⟩
   rw [if_pos c6] at H
   have c6b0 : decide (0 < x3_1) = true := decide_eq_true c6
   clear c6
   obtain ⟨ji7, hji7⟩ : ∃ j_ : Int, (wrap64 (x3_1 - 1)) = j_ := ⟨_, rfl⟩
   replace H : (if 0 ≤ (ji7) then (if (ji7) < (l0.length : Int) then (if ((rd_T113 l0 (ji7)).f0.f0) ≥ ((rd_T113 l0 x3_1).f0.f0) then (some false) else (spec_AreFinds.l0 k1 l0 (wrap64 (x3_1 + 1)))) else (none)) else (none)) = some r := by first | (rw [hji7] at H; exact H) | (simp only [hji7] at H ⊢; exact H)
   (try rw [hji7] at A4)
   have hji7w : (IntKind.i64.wrap (x3_1 - 1)) = ji7 := (i64_w _).trans hji7
   by_cases c8 : 0 ≤ (ji7)
   rotate_left
   ·rw [if_neg c8] at H
    exact absurd H (by simp)
   rw [if_pos c8] at H
   have c8b0 : decide (0 ≤ (ji7)) = true := decide_eq_true c8
   clear c8
   by_cases c9 : (ji7) < (l0.length : Int)
   rotate_left
   ·rw [if_neg c9] at H
    exact absurd H (by simp)
   rw [if_pos c9] at H
   have c9b0 : decide ((ji7) < (l0.length : Int)) = true := decide_eq_true c9
   clear c9
   by_cases c10 : ((rd_T113 l0 (ji7)).f0.f0) ≥ ((rd_T113 l0 x3_1).f0.f0)
   ·rw [if_pos c10] at H
    have c10b0 : decide (((rd_T113 l0 x3_1).f0.f0) ≤ ((rd_T113 l0 (ji7)).f0.f0)) = true := decide_eq_true c10
    clear c10
    obtain rfl := Option.some.inj H
    try go_wp2
    have _ := zK (b1 HB.o)
    clear HB
    rename_i HB
    have p691 : 0 ≤ (x3_1 : Int) := oD M4
    have q691 : x3_1 < (l0.length : Int) := oD M4
    obtain ⟨ad691, e691, hx691_0, hx691_1, hx691_2, hx691_3, hx691_4, hx691_5, hx691_6, hx691_7⟩ := at_T113 HR0.o x3_1 p691 q691
    have hw691_7 := hx691_7
    have hw691_6 := hx691_6
    have hw691_5 := hx691_5
    have hw691_4 := hx691_4
    have hw691_3 := hx691_3
    have hw691_2 := hx691_2
    have hw691_1 := hx691_1
    have hw691_0 := hx691_0
    cases e691
    replace hx691_0 := cB HB.o hx691_0
    replace hx691_1 := cB HB.o hx691_1
    replace hx691_2 := cB HB.o hx691_2
    replace hx691_3 := cB HB.o hx691_3
    replace hx691_4 := cB HB.o hx691_4
    replace hx691_5 := cB HB.o hx691_5
    replace hx691_6 := cB HB.o hx691_6
    replace hx691_7 := cB HB.o hx691_7
    replace p691 := eq_true p691
    replace q691 := eq_true q691
    have p693 : 0 ≤ ((ji7) : Int) := oD M4
    have q693 : (ji7) < (l0.length : Int) := oD M4
    obtain ⟨ad693, e693, hx693_0, hx693_1, hx693_2, hx693_3, hx693_4, hx693_5, hx693_6, hx693_7⟩ := at_T113 HR0.o (ji7) p693 q693
    have hw693_7 := hx693_7
    have hw693_6 := hx693_6
    have hw693_5 := hx693_5
    have hw693_4 := hx693_4
    have hw693_3 := hx693_3
    have hw693_2 := hx693_2
    have hw693_1 := hx693_1
    have hw693_0 := hx693_0
    obtain rfl : ad691 = ad693 := (by injection e693)
    replace hx693_0 := cB HB.o hx693_0
    replace hx693_1 := cB HB.o hx693_1
    replace hx693_2 := cB HB.o hx693_2
    replace hx693_3 := cB HB.o hx693_3
    replace hx693_4 := cB HB.o hx693_4
    replace hx693_5 := cB HB.o hx693_5
    replace hx693_6 := cB HB.o hx693_6
    replace hx693_7 := cB HB.o hx693_7
    replace p693 := eq_true p693
    replace q693 := eq_true q693
    have p694 : 0 ≤ (x3_1 : Int) := oD M4
    have q694 : x3_1 < (l0.length : Int) := oD M4
    obtain ⟨ad694, e694, hx694_0, hx694_1, hx694_2, hx694_3, hx694_4, hx694_5, hx694_6, hx694_7⟩ := at_T113 HR0.o x3_1 p694 q694
    have hw694_7 := hx694_7
    have hw694_6 := hx694_6
    have hw694_5 := hx694_5
    have hw694_4 := hx694_4
    have hw694_3 := hx694_3
    have hw694_2 := hx694_2
    have hw694_1 := hx694_1
    have hw694_0 := hx694_0
    obtain rfl : ad691 = ad694 := (by injection e694)
    replace hx694_0 := cB HB.o hx694_0
    replace hx694_1 := cB HB.o hx694_1
    replace hx694_2 := cB HB.o hx694_2
    replace hx694_3 := cB HB.o hx694_3
    replace hx694_4 := cB HB.o hx694_4
    replace hx694_5 := cB HB.o hx694_5
    replace hx694_6 := cB HB.o hx694_6
    replace hx694_7 := cB HB.o hx694_7
    replace p694 := eq_true p694
    replace q694 := eq_true q694
    refine start_ (n := 26) (S := fun w' => w'.cell? (ad691.add ((x3_1).toNat * 8)) = some (.int .i64 ((rd_T113 l0 x3_1).f0.f0)) ∧ w'.cell? ⟨(ad691.add ((x3_1).toNat * 8)).block, (ad691.add ((x3_1).toNat * 8)).off + 1, none⟩ = some (.int .i64 ((rd_T113 l0 x3_1).f0.f1)) ∧ w'.cell? ⟨(ad691.add ((x3_1).toNat * 8)).block, (ad691.add ((x3_1).toNat * 8)).off + 2, none⟩ = some (.int .i64 ((rd_T113 l0 x3_1).f0.f2)) ∧ w'.cell? ⟨(ad691.add ((x3_1).toNat * 8)).block, (ad691.add ((x3_1).toNat * 8)).off + 3, none⟩ = some (.int .i64 ((rd_T113 l0 x3_1).f0.f3)) ∧ w'.cell? ⟨(ad691.add ((x3_1).toNat * 8)).block, (ad691.add ((x3_1).toNat * 8)).off + 4, none⟩ = some (.int .i64 ((rd_T113 l0 x3_1).f0.f4)) ∧ w'.cell? ⟨(ad691.add ((x3_1).toNat * 8)).block, (ad691.add ((x3_1).toNat * 8)).off + 5, none⟩ = some (.int .i64 ((rd_T113 l0 x3_1).f1)) ∧ w'.cell? ⟨(ad691.add ((x3_1).toNat * 8)).block, (ad691.add ((x3_1).toNat * 8)).off + 6, none⟩ = some (.int .i64 ((rd_T113 l0 x3_1).f2)) ∧ w'.cell? ⟨(ad691.add ((x3_1).toNat * 8)).block, (ad691.add ((x3_1).toNat * 8)).off + 7, none⟩ = some (.int .i64 ((rd_T113 l0 x3_1).f3)) ∧ w'.cell? (ad691.add (((ji7)).toNat * 8)) = some (.int .i64 ((rd_T113 l0 (ji7)).f0.f0)) ∧ w'.cell? ⟨(ad691.add (((ji7)).toNat * 8)).block, (ad691.add (((ji7)).toNat * 8)).off + 1, none⟩ = some (.int .i64 ((rd_T113 l0 (ji7)).f0.f1)) ∧ w'.cell? ⟨(ad691.add (((ji7)).toNat * 8)).block, (ad691.add (((ji7)).toNat * 8)).off + 2, none⟩ = some (.int .i64 ((rd_T113 l0 (ji7)).f0.f2)) ∧ w'.cell? ⟨(ad691.add (((ji7)).toNat * 8)).block, (ad691.add (((ji7)).toNat * 8)).off + 3, none⟩ = some (.int .i64 ((rd_T113 l0 (ji7)).f0.f3)) ∧ w'.cell? ⟨(ad691.add (((ji7)).toNat * 8)).block, (ad691.add (((ji7)).toNat * 8)).off + 4, none⟩ = some (.int .i64 ((rd_T113 l0 (ji7)).f0.f4)) ∧ w'.cell? ⟨(ad691.add (((ji7)).toNat * 8)).block, (ad691.add (((ji7)).toNat * 8)).off + 5, none⟩ = some (.int .i64 ((rd_T113 l0 (ji7)).f1)) ∧ w'.cell? ⟨(ad691.add (((ji7)).toNat * 8)).block, (ad691.add (((ji7)).toNat * 8)).off + 6, none⟩ = some (.int .i64 ((rd_T113 l0 (ji7)).f2)) ∧ w'.cell? ⟨(ad691.add (((ji7)).toNat * 8)).block, (ad691.add (((ji7)).toNat * 8)).off + 7, none⟩ = some (.int .i64 ((rd_T113 l0 (ji7)).f3)) ∧ w'.cell? (ad691.add ((x3_1).toNat * 8)) = some (.int .i64 ((rd_T113 l0 x3_1).f0.f0)) ∧ w'.cell? ⟨(ad691.add ((x3_1).toNat * 8)).block, (ad691.add ((x3_1).toNat * 8)).off + 1, none⟩ = some (.int .i64 ((rd_T113 l0 x3_1).f0.f1)) ∧ w'.cell? ⟨(ad691.add ((x3_1).toNat * 8)).block, (ad691.add ((x3_1).toNat * 8)).off + 2, none⟩ = some (.int .i64 ((rd_T113 l0 x3_1).f0.f2)) ∧ w'.cell? ⟨(ad691.add ((x3_1).toNat * 8)).block, (ad691.add ((x3_1).toNat * 8)).off + 3, none⟩ = some (.int .i64 ((rd_T113 l0 x3_1).f0.f3)) ∧ w'.cell? ⟨(ad691.add ((x3_1).toNat * 8)).block, (ad691.add ((x3_1).toNat * 8)).off + 4, none⟩ = some (.int .i64 ((rd_T113 l0 x3_1).f0.f4)) ∧ w'.cell? ⟨(ad691.add ((x3_1).toNat * 8)).block, (ad691.add ((x3_1).toNat * 8)).off + 5, none⟩ = some (.int .i64 ((rd_T113 l0 x3_1).f1)) ∧ w'.cell? ⟨(ad691.add ((x3_1).toNat * 8)).block, (ad691.add ((x3_1).toNat * 8)).off + 6, none⟩ = some (.int .i64 ((rd_T113 l0 x3_1).f2)) ∧ w'.cell? ⟨(ad691.add ((x3_1).toNat * 8)).block, (ad691.add ((x3_1).toNat * 8)).off + 7, none⟩ = some (.int .i64 ((rd_T113 l0 x3_1).f3))) (ds := []) b15A0 (by kernel_rfl) rfl rfl ⟨(cB HB.o hw691_0 :), (cB HB.o hw691_1 :), (cB HB.o hw691_2 :), (cB HB.o hw691_3 :), (cB HB.o hw691_4 :), (cB HB.o hw691_5 :), (cB HB.o hw691_6 :), (cB HB.o hw691_7 :), (cB HB.o hw693_0 :), (cB HB.o hw693_1 :), (cB HB.o hw693_2 :), (cB HB.o hw693_3 :), (cB HB.o hw693_4 :), (cB HB.o hw693_5 :), (cB HB.o hw693_6 :), (cB HB.o hw693_7 :), (cB HB.o hw694_0 :), (cB HB.o hw694_1 :), (cB HB.o hw694_2 :), (cB HB.o hw694_3 :), (cB HB.o hw694_4 :), (cB HB.o hw694_5 :), (cB HB.o hw694_6 :), (cB HB.o hw694_7 :)⟩ (fun hHeld => ?_); refine with_tabW spec_AreFinds.tab4 spec_AreFinds.bits4 (fun HT_ HW_ => ?_)
    generalize wr.drew = w11 at HB hx691_0 hx691_1 hx691_2 hx691_3 hx691_4 hx691_5 hx691_6 hx691_7 hx693_0 hx693_1 hx693_2 hx693_3 hx693_4 hx693_5 hx693_6 hx693_7 hx694_0 hx694_1 hx694_2 hx694_3 hx694_4 hx694_5 hx694_6 hx694_7 hHeld ⊢
    refine pI 0 (some 10) b15A1 HT_ ?_
    refine pI 1 (some 11) b15A2 HT_ ?_
    refine pI 2 (some 12) b15A3 HT_ ?_
    refine tI 3 (some 13) b15A4 HT_ HW_ hHeld rfl rfl (Or.inl ⟨by rfl, o4⟩) ?_
    refine one_ (i := 4) (N := some 14) b15A5 rfl rfl (one_of HT_.o (by kernel_rfl)) (by decide) (fun K hK => ?_)
    refine goes_ Try.func134 (by kernel_rfl) rfl #[.agg #[.int .i64 ((rd_T113 l0 x3_1).f0.f0), .int .i64 ((rd_T113 l0 x3_1).f0.f1), .int .i64 ((rd_T113 l0 x3_1).f0.f2), .int .i64 ((rd_T113 l0 x3_1).f0.f3), .int .i64 ((rd_T113 l0 x3_1).f0.f4), .int .i64 ((rd_T113 l0 x3_1).f1), .int .i64 ((rd_T113 l0 x3_1).f2), .int .i64 ((rd_T113 l0 x3_1).f3)]] (by rfl) rfl rfl M0 ?_
    with_reducible refine (spec_IsFind.calls ((rd_T113 l0 x3_1).f0.f0) ((rd_T113 l0 x3_1).f0.f1) ((rd_T113 l0 x3_1).f0.f2) ((rd_T113 l0 x3_1).f0.f3) ((rd_T113 l0 x3_1).f0.f4) ((rd_T113 l0 x3_1).f1) ((rd_T113 l0 x3_1).f2) ((rd_T113 l0 x3_1).f3) true _ A4.o).mono ?_
    rintro e w12 ⟨rfl, hb⟩
    refine ⟨_, rfl, ?_⟩
    have _ := zK (bT (qB HB.o) hb)
    clear HB
    rename_i HB
    (try clear hb)
    (try clear hb2)
    (try clear hk)
    (try clear hi)
    refine hK.out _ _ ⟨(cB HB.o hw691_0 :), (cB HB.o hw691_1 :), (cB HB.o hw691_2 :), (cB HB.o hw691_3 :), (cB HB.o hw691_4 :), (cB HB.o hw691_5 :), (cB HB.o hw691_6 :), (cB HB.o hw691_7 :), (cB HB.o hw693_0 :), (cB HB.o hw693_1 :), (cB HB.o hw693_2 :), (cB HB.o hw693_3 :), (cB HB.o hw693_4 :), (cB HB.o hw693_5 :), (cB HB.o hw693_6 :), (cB HB.o hw693_7 :), (cB HB.o hw694_0 :), (cB HB.o hw694_1 :), (cB HB.o hw694_2 :), (cB HB.o hw694_3 :), (cB HB.o hw694_4 :), (cB HB.o hw694_5 :), (cB HB.o hw694_6 :), (cB HB.o hw694_7 :)⟩ (fun hHeld => ?_)
    clear hK K
    refine norm_ (a' := ?_) ?_ ?_
    rotate_left
    ·show Act.put _ (some 14) _ = _
     simp only [Act.put, sA, sZ, sS, i64_w, i32_w]
     rfl
    refine pI 5 (some 15) b15A6 HT_ ?_
    refine pI 6 (some 16) b15A7 HT_ ?_
    refine pI 7 (some 17) b15A8 HT_ ?_
    refine pI 8 (some 18) b15A9 HT_ ?_
    refine pI 9 (some 19) b15A10 HT_ ?_
    refine pI 10 (some 20) b15A11 HT_ ?_
    refine pI 11 (some 21) b15A12 HT_ ?_
    refine pI 12 (some 22) b15A13 HT_ ?_
    refine pI 13 (some 23) b15A14 HT_ ?_
    refine pI 14 (some 24) b15A15 HT_ ?_
    refine pI 15 (some 25) b15A16 HT_ ?_
    refine pI 17 (some 27) b15A17 HT_ ?_
    refine pI 18 (some 28) b15A18 HT_ ?_
    refine pI 19 (some 29) b15A19 HT_ ?_
    refine pI 20 (some 30) b15A20 HT_ ?_
    refine pI 21 (some 31) b15A21 HT_ ?_
    refine tI 16 (some 26) b15A22 HT_ HW_ hHeld rfl rfl (Or.inl ⟨by rfl, o4⟩) ?_
    refine tI 22 (some 32) b15A23 HT_ HW_ hHeld rfl rfl (Or.inl ⟨by rfl, o4⟩) ?_
    refine pI 23 (some 33) b15A24 HT_ ?_
    refine pI 24 (some 34) b15A25 HT_ ?_
    refine pI 25 (some 35) b15A26 HT_ ?_
    refine done_ (done_of HT_.o (by kernel_rfl)) ?_
    try go_wp2
    go_ret
    exact ⟨by first | rfl | (simp [errW_none, errW_some] <;> rfl) | (simp only [← hji7]; first | rfl | (simp [errW_none, errW_some] <;> rfl)) | (simp [*, errW_none, errW_some] <;> rfl), o8⟩
   rw [if_neg c10] at H
   have c10b0 : decide (((rd_T113 l0 x3_1).f0.f0) ≤ ((rd_T113 l0 (ji7)).f0.f0)) = false := decide_eq_false c10
   clear c10
   have H' := zK H
   clear H
   try go_wp2
   have _ := zK (b1 HB.o)
   clear HB
   rename_i HB
   have p691 : 0 ≤ (x3_1 : Int) := oD M4
   have q691 : x3_1 < (l0.length : Int) := oD M4
   obtain ⟨ad691, e691, hx691_0, hx691_1, hx691_2, hx691_3, hx691_4, hx691_5, hx691_6, hx691_7⟩ := at_T113 HR0.o x3_1 p691 q691
   have hw691_7 := hx691_7
   have hw691_6 := hx691_6
   have hw691_5 := hx691_5
   have hw691_4 := hx691_4
   have hw691_3 := hx691_3
   have hw691_2 := hx691_2
   have hw691_1 := hx691_1
   have hw691_0 := hx691_0
   cases e691
   replace hx691_0 := cB HB.o hx691_0
   replace hx691_1 := cB HB.o hx691_1
   replace hx691_2 := cB HB.o hx691_2
   replace hx691_3 := cB HB.o hx691_3
   replace hx691_4 := cB HB.o hx691_4
   replace hx691_5 := cB HB.o hx691_5
   replace hx691_6 := cB HB.o hx691_6
   replace hx691_7 := cB HB.o hx691_7
   replace p691 := eq_true p691
   replace q691 := eq_true q691
   have p693 : 0 ≤ ((ji7) : Int) := oD M4
   have q693 : (ji7) < (l0.length : Int) := oD M4
   obtain ⟨ad693, e693, hx693_0, hx693_1, hx693_2, hx693_3, hx693_4, hx693_5, hx693_6, hx693_7⟩ := at_T113 HR0.o (ji7) p693 q693
   have hw693_7 := hx693_7
   have hw693_6 := hx693_6
   have hw693_5 := hx693_5
   have hw693_4 := hx693_4
   have hw693_3 := hx693_3
   have hw693_2 := hx693_2
   have hw693_1 := hx693_1
   have hw693_0 := hx693_0
   obtain rfl : ad691 = ad693 := (by injection e693)
   replace hx693_0 := cB HB.o hx693_0
   replace hx693_1 := cB HB.o hx693_1
   replace hx693_2 := cB HB.o hx693_2
   replace hx693_3 := cB HB.o hx693_3
   replace hx693_4 := cB HB.o hx693_4
   replace hx693_5 := cB HB.o hx693_5
   replace hx693_6 := cB HB.o hx693_6
   replace hx693_7 := cB HB.o hx693_7
   replace p693 := eq_true p693
   replace q693 := eq_true q693
   have p694 : 0 ≤ (x3_1 : Int) := oD M4
   have q694 : x3_1 < (l0.length : Int) := oD M4
   obtain ⟨ad694, e694, hx694_0, hx694_1, hx694_2, hx694_3, hx694_4, hx694_5, hx694_6, hx694_7⟩ := at_T113 HR0.o x3_1 p694 q694
   have hw694_7 := hx694_7
   have hw694_6 := hx694_6
   have hw694_5 := hx694_5
   have hw694_4 := hx694_4
   have hw694_3 := hx694_3
   have hw694_2 := hx694_2
   have hw694_1 := hx694_1
   have hw694_0 := hx694_0
   obtain rfl : ad691 = ad694 := (by injection e694)
   replace hx694_0 := cB HB.o hx694_0
   replace hx694_1 := cB HB.o hx694_1
   replace hx694_2 := cB HB.o hx694_2
   replace hx694_3 := cB HB.o hx694_3
   replace hx694_4 := cB HB.o hx694_4
   replace hx694_5 := cB HB.o hx694_5
   replace hx694_6 := cB HB.o hx694_6
   replace hx694_7 := cB HB.o hx694_7
   replace p694 := eq_true p694
   replace q694 := eq_true q694
   refine start_ (n := 26) (S := fun w' => w'.cell? (ad691.add ((x3_1).toNat * 8)) = some (.int .i64 ((rd_T113 l0 x3_1).f0.f0)) ∧ w'.cell? ⟨(ad691.add ((x3_1).toNat * 8)).block, (ad691.add ((x3_1).toNat * 8)).off + 1, none⟩ = some (.int .i64 ((rd_T113 l0 x3_1).f0.f1)) ∧ w'.cell? ⟨(ad691.add ((x3_1).toNat * 8)).block, (ad691.add ((x3_1).toNat * 8)).off + 2, none⟩ = some (.int .i64 ((rd_T113 l0 x3_1).f0.f2)) ∧ w'.cell? ⟨(ad691.add ((x3_1).toNat * 8)).block, (ad691.add ((x3_1).toNat * 8)).off + 3, none⟩ = some (.int .i64 ((rd_T113 l0 x3_1).f0.f3)) ∧ w'.cell? ⟨(ad691.add ((x3_1).toNat * 8)).block, (ad691.add ((x3_1).toNat * 8)).off + 4, none⟩ = some (.int .i64 ((rd_T113 l0 x3_1).f0.f4)) ∧ w'.cell? ⟨(ad691.add ((x3_1).toNat * 8)).block, (ad691.add ((x3_1).toNat * 8)).off + 5, none⟩ = some (.int .i64 ((rd_T113 l0 x3_1).f1)) ∧ w'.cell? ⟨(ad691.add ((x3_1).toNat * 8)).block, (ad691.add ((x3_1).toNat * 8)).off + 6, none⟩ = some (.int .i64 ((rd_T113 l0 x3_1).f2)) ∧ w'.cell? ⟨(ad691.add ((x3_1).toNat * 8)).block, (ad691.add ((x3_1).toNat * 8)).off + 7, none⟩ = some (.int .i64 ((rd_T113 l0 x3_1).f3)) ∧ w'.cell? (ad691.add (((ji7)).toNat * 8)) = some (.int .i64 ((rd_T113 l0 (ji7)).f0.f0)) ∧ w'.cell? ⟨(ad691.add (((ji7)).toNat * 8)).block, (ad691.add (((ji7)).toNat * 8)).off + 1, none⟩ = some (.int .i64 ((rd_T113 l0 (ji7)).f0.f1)) ∧ w'.cell? ⟨(ad691.add (((ji7)).toNat * 8)).block, (ad691.add (((ji7)).toNat * 8)).off + 2, none⟩ = some (.int .i64 ((rd_T113 l0 (ji7)).f0.f2)) ∧ w'.cell? ⟨(ad691.add (((ji7)).toNat * 8)).block, (ad691.add (((ji7)).toNat * 8)).off + 3, none⟩ = some (.int .i64 ((rd_T113 l0 (ji7)).f0.f3)) ∧ w'.cell? ⟨(ad691.add (((ji7)).toNat * 8)).block, (ad691.add (((ji7)).toNat * 8)).off + 4, none⟩ = some (.int .i64 ((rd_T113 l0 (ji7)).f0.f4)) ∧ w'.cell? ⟨(ad691.add (((ji7)).toNat * 8)).block, (ad691.add (((ji7)).toNat * 8)).off + 5, none⟩ = some (.int .i64 ((rd_T113 l0 (ji7)).f1)) ∧ w'.cell? ⟨(ad691.add (((ji7)).toNat * 8)).block, (ad691.add (((ji7)).toNat * 8)).off + 6, none⟩ = some (.int .i64 ((rd_T113 l0 (ji7)).f2)) ∧ w'.cell? ⟨(ad691.add (((ji7)).toNat * 8)).block, (ad691.add (((ji7)).toNat * 8)).off + 7, none⟩ = some (.int .i64 ((rd_T113 l0 (ji7)).f3)) ∧ w'.cell? (ad691.add ((x3_1).toNat * 8)) = some (.int .i64 ((rd_T113 l0 x3_1).f0.f0)) ∧ w'.cell? ⟨(ad691.add ((x3_1).toNat * 8)).block, (ad691.add ((x3_1).toNat * 8)).off + 1, none⟩ = some (.int .i64 ((rd_T113 l0 x3_1).f0.f1)) ∧ w'.cell? ⟨(ad691.add ((x3_1).toNat * 8)).block, (ad691.add ((x3_1).toNat * 8)).off + 2, none⟩ = some (.int .i64 ((rd_T113 l0 x3_1).f0.f2)) ∧ w'.cell? ⟨(ad691.add ((x3_1).toNat * 8)).block, (ad691.add ((x3_1).toNat * 8)).off + 3, none⟩ = some (.int .i64 ((rd_T113 l0 x3_1).f0.f3)) ∧ w'.cell? ⟨(ad691.add ((x3_1).toNat * 8)).block, (ad691.add ((x3_1).toNat * 8)).off + 4, none⟩ = some (.int .i64 ((rd_T113 l0 x3_1).f0.f4)) ∧ w'.cell? ⟨(ad691.add ((x3_1).toNat * 8)).block, (ad691.add ((x3_1).toNat * 8)).off + 5, none⟩ = some (.int .i64 ((rd_T113 l0 x3_1).f1)) ∧ w'.cell? ⟨(ad691.add ((x3_1).toNat * 8)).block, (ad691.add ((x3_1).toNat * 8)).off + 6, none⟩ = some (.int .i64 ((rd_T113 l0 x3_1).f2)) ∧ w'.cell? ⟨(ad691.add ((x3_1).toNat * 8)).block, (ad691.add ((x3_1).toNat * 8)).off + 7, none⟩ = some (.int .i64 ((rd_T113 l0 x3_1).f3))) (ds := []) b15A0 (by kernel_rfl) rfl rfl ⟨(cB HB.o hw691_0 :), (cB HB.o hw691_1 :), (cB HB.o hw691_2 :), (cB HB.o hw691_3 :), (cB HB.o hw691_4 :), (cB HB.o hw691_5 :), (cB HB.o hw691_6 :), (cB HB.o hw691_7 :), (cB HB.o hw693_0 :), (cB HB.o hw693_1 :), (cB HB.o hw693_2 :), (cB HB.o hw693_3 :), (cB HB.o hw693_4 :), (cB HB.o hw693_5 :), (cB HB.o hw693_6 :), (cB HB.o hw693_7 :), (cB HB.o hw694_0 :), (cB HB.o hw694_1 :), (cB HB.o hw694_2 :), (cB HB.o hw694_3 :), (cB HB.o hw694_4 :), (cB HB.o hw694_5 :), (cB HB.o hw694_6 :), (cB HB.o hw694_7 :)⟩ (fun hHeld => ?_); refine with_tabW spec_AreFinds.tab4 spec_AreFinds.bits4 (fun HT_ HW_ => ?_)
   generalize wr.drew = w13 at HB hx691_0 hx691_1 hx691_2 hx691_3 hx691_4 hx691_5 hx691_6 hx691_7 hx693_0 hx693_1 hx693_2 hx693_3 hx693_4 hx693_5 hx693_6 hx693_7 hx694_0 hx694_1 hx694_2 hx694_3 hx694_4 hx694_5 hx694_6 hx694_7 hHeld ⊢
   refine pI 0 (some 10) b15A1 HT_ ?_
   refine pI 1 (some 11) b15A2 HT_ ?_
   refine pI 2 (some 12) b15A3 HT_ ?_
   refine tI 3 (some 13) b15A4 HT_ HW_ hHeld rfl rfl (Or.inl ⟨by rfl, o4⟩) ?_
   refine one_ (i := 4) (N := some 14) b15A5 rfl rfl (one_of HT_.o (by kernel_rfl)) (by decide) (fun K hK => ?_)
   refine goes_ Try.func134 (by kernel_rfl) rfl #[.agg #[.int .i64 ((rd_T113 l0 x3_1).f0.f0), .int .i64 ((rd_T113 l0 x3_1).f0.f1), .int .i64 ((rd_T113 l0 x3_1).f0.f2), .int .i64 ((rd_T113 l0 x3_1).f0.f3), .int .i64 ((rd_T113 l0 x3_1).f0.f4), .int .i64 ((rd_T113 l0 x3_1).f1), .int .i64 ((rd_T113 l0 x3_1).f2), .int .i64 ((rd_T113 l0 x3_1).f3)]] (by rfl) rfl rfl M0 ?_
   with_reducible refine (spec_IsFind.calls ((rd_T113 l0 x3_1).f0.f0) ((rd_T113 l0 x3_1).f0.f1) ((rd_T113 l0 x3_1).f0.f2) ((rd_T113 l0 x3_1).f0.f3) ((rd_T113 l0 x3_1).f0.f4) ((rd_T113 l0 x3_1).f1) ((rd_T113 l0 x3_1).f2) ((rd_T113 l0 x3_1).f3) true _ A4.o).mono ?_
   rintro e w14 ⟨rfl, hb⟩
   refine ⟨_, rfl, ?_⟩
   have _ := zK (bT (qB HB.o) hb)
   clear HB
   rename_i HB
   (try clear hb)
   (try clear hb2)
   (try clear hk)
   (try clear hi)
   refine hK.out _ _ ⟨(cB HB.o hw691_0 :), (cB HB.o hw691_1 :), (cB HB.o hw691_2 :), (cB HB.o hw691_3 :), (cB HB.o hw691_4 :), (cB HB.o hw691_5 :), (cB HB.o hw691_6 :), (cB HB.o hw691_7 :), (cB HB.o hw693_0 :), (cB HB.o hw693_1 :), (cB HB.o hw693_2 :), (cB HB.o hw693_3 :), (cB HB.o hw693_4 :), (cB HB.o hw693_5 :), (cB HB.o hw693_6 :), (cB HB.o hw693_7 :), (cB HB.o hw694_0 :), (cB HB.o hw694_1 :), (cB HB.o hw694_2 :), (cB HB.o hw694_3 :), (cB HB.o hw694_4 :), (cB HB.o hw694_5 :), (cB HB.o hw694_6 :), (cB HB.o hw694_7 :)⟩ (fun hHeld => ?_)
   clear hK K
   refine norm_ (a' := ?_) ?_ ?_
   rotate_left
   ·show Act.put _ (some 14) _ = _
    simp only [Act.put, sA, sZ, sS, i64_w, i32_w]
    rfl
   refine pI 5 (some 15) b15A6 HT_ ?_
   refine pI 6 (some 16) b15A7 HT_ ?_
   refine pI 7 (some 17) b15A8 HT_ ?_
   refine pI 8 (some 18) b15A9 HT_ ?_
   refine pI 9 (some 19) b15A10 HT_ ?_
   refine pI 10 (some 20) b15A11 HT_ ?_
   refine pI 11 (some 21) b15A12 HT_ ?_
   refine pI 12 (some 22) b15A13 HT_ ?_
   refine pI 13 (some 23) b15A14 HT_ ?_
   refine pI 14 (some 24) b15A15 HT_ ?_
   refine pI 15 (some 25) b15A16 HT_ ?_
   refine pI 17 (some 27) b15A17 HT_ ?_
   refine pI 18 (some 28) b15A18 HT_ ?_
   refine pI 19 (some 29) b15A19 HT_ ?_
   refine pI 20 (some 30) b15A20 HT_ ?_
   refine pI 21 (some 31) b15A21 HT_ ?_
   refine tI 16 (some 26) b15A22 HT_ HW_ hHeld rfl rfl (Or.inl ⟨by rfl, o4⟩) ?_
   refine tI 22 (some 32) b15A23 HT_ HW_ hHeld rfl rfl (Or.inl ⟨by rfl, o4⟩) ?_
   refine pI 23 (some 33) b15A24 HT_ ?_
   refine pI 24 (some 34) b15A25 HT_ ?_
   refine pI 25 (some 35) b15A26 HT_ ?_
   refine done_ (done_of HT_.o (by kernel_rfl)) ?_
   try go_wp2
   go_roundg k1
   case measure => have := HK1.o; omega
   case rel => exact ⟨(wrap64 (x3_1 + 1)), M12, H', ⟨o6⟩, ⟨o8⟩⟩
end Go.Proofs.Ytejhjenlodclpaa.PFnHints
