/- Walks of functions that FnExactTighten reaches: written by a tool of the kit for this claim, then shortened by a program of ours. -/
import Derived.Test.YtejhjenlodclpaaPFnExactTightenx0
import Derived.Test.YtejhjenlodclpaaPFnExactTightenx3
/- narrow -/
namespace Go.Proofs.Ytejhjenlodclpaa.PFnExactTighten
open Go.RowKit Go.Proofs.YtejhjenlodclpaaW.PrintWords Go.Proofs.YtejhjenlodclpaaW.PrintLast Go.Proofs.YtejhjenlodclpaaW.PrintMore
attribute [local go_sem] max2_int min2_int max_two min_two max_three min_three max_four min_four   -- for this text's walks alone
set_option linter.unusedVariables false
set_option linter.unusedSimpArgs false

abbrev b4A0 : Array Bool := #[bo, bo, bo, bo, bo, bo, bo, bo, bo, bo, bo, bo, bo, bo, bo, bo, bo, bo, bo, bo, bo, bo, bo, bo]
abbrev b4A1 : Array Bool := #[bi, bo, bo, bo, bo, bo, bo, bo, bo, bo, bo, bo, bo, bo, bo, bo, bo, bo, bo, bo, bo, bo, bo, bo]
abbrev b4A2 : Array Bool := #[bi, bi, bo, bo, bo, bo, bo, bo, bo, bo, bo, bo, bo, bo, bo, bo, bo, bo, bo, bo, bo, bo, bo, bo]
abbrev b4A3 : Array Bool := #[bi, bi, bi, bo, bo, bo, bo, bo, bo, bo, bo, bo, bo, bo, bo, bo, bo, bo, bo, bo, bo, bo, bo, bo]
abbrev b4A4 : Array Bool := #[bi, bi, bi, bi, bo, bo, bo, bo, bo, bo, bo, bo, bo, bo, bo, bo, bo, bo, bo, bo, bo, bo, bo, bo]
abbrev b4A5 : Array Bool := #[bi, bi, bi, bi, bi, bo, bo, bo, bo, bo, bo, bo, bo, bo, bo, bo, bo, bo, bo, bo, bo, bo, bo, bo]
abbrev b4A6 : Array Bool := #[bi, bi, bi, bi, bi, bi, bo, bo, bo, bo, bo, bo, bo, bo, bo, bo, bo, bo, bo, bo, bo, bo, bo, bo]
abbrev b4A7 : Array Bool := #[bi, bi, bi, bi, bi, bi, bi, bo, bo, bo, bo, bo, bo, bo, bo, bo, bo, bo, bo, bo, bo, bo, bo, bo]
abbrev b4A8 : Array Bool := #[bi, bi, bi, bi, bi, bi, bi, bi, bo, bo, bo, bo, bo, bo, bo, bo, bo, bo, bo, bo, bo, bo, bo, bo]
abbrev b4A9 : Array Bool := #[bi, bi, bi, bi, bi, bi, bi, bi, bi, bo, bo, bo, bo, bo, bo, bo, bo, bo, bo, bo, bo, bo, bo, bo]
abbrev b4A10 : Array Bool := #[bi, bi, bi, bi, bi, bi, bi, bi, bi, bi, bo, bo, bo, bo, bo, bo, bo, bo, bo, bo, bo, bo, bo, bo]
abbrev b4A11 : Array Bool := #[bi, bi, bi, bi, bi, bi, bi, bi, bi, bi, bi, bo, bo, bo, bo, bo, bo, bo, bo, bo, bo, bo, bo, bo]
abbrev b4A12 : Array Bool := #[bi, bi, bi, bi, bi, bi, bi, bi, bi, bi, bi, bi, bo, bo, bo, bo, bo, bo, bo, bo, bo, bo, bo, bo]
abbrev b4A13 : Array Bool := #[bi, bi, bi, bi, bi, bi, bi, bi, bi, bi, bi, bi, bi, bo, bo, bo, bo, bo, bo, bo, bo, bo, bo, bo]
abbrev b4A14 : Array Bool := #[bi, bi, bi, bi, bi, bi, bi, bi, bi, bi, bi, bi, bi, bi, bo, bo, bo, bo, bo, bo, bo, bo, bo, bo]
abbrev b4A15 : Array Bool := #[bi, bi, bi, bi, bi, bi, bi, bi, bi, bi, bi, bi, bi, bi, bi, bo, bo, bo, bo, bo, bo, bo, bo, bo]
abbrev b4A16 : Array Bool := #[bi, bi, bi, bi, bi, bi, bi, bi, bi, bi, bi, bi, bi, bi, bi, bo, bi, bo, bo, bo, bo, bo, bo, bo]
abbrev b4A17 : Array Bool := #[bi, bi, bi, bi, bi, bi, bi, bi, bi, bi, bi, bi, bi, bi, bi, bo, bi, bi, bo, bo, bo, bo, bo, bo]
abbrev b4A18 : Array Bool := #[bi, bi, bi, bi, bi, bi, bi, bi, bi, bi, bi, bi, bi, bi, bi, bo, bi, bi, bi, bo, bo, bo, bo, bo]
abbrev b4A19 : Array Bool := #[bi, bi, bi, bi, bi, bi, bi, bi, bi, bi, bi, bi, bi, bi, bi, bo, bi, bi, bi, bi, bo, bo, bo, bo]
abbrev b4A20 : Array Bool := #[bi, bi, bi, bi, bi, bi, bi, bi, bi, bi, bi, bi, bi, bi, bi, bi, bi, bi, bi, bi, bo, bo, bo, bo]
abbrev b4A21 : Array Bool := #[bi, bi, bi, bi, bi, bi, bi, bi, bi, bi, bi, bi, bi, bi, bi, bi, bi, bi, bi, bi, bi, bo, bo, bo]
abbrev b4A22 : Array Bool := #[bi, bi, bi, bi, bi, bi, bi, bi, bi, bi, bi, bi, bi, bi, bi, bi, bi, bi, bi, bi, bi, bi, bo, bo]
abbrev b4A23 : Array Bool := #[bi, bi, bi, bi, bi, bi, bi, bi, bi, bi, bi, bi, bi, bi, bi, bi, bi, bi, bi, bi, bi, bi, bi, bo]
abbrev b4A24 : Array Bool := #[bi, bi, bi, bi, bi, bi, bi, bi, bi, bi, bi, bi, bi, bi, bi, bi, bi, bi, bi, bi, bi, bi, bi, bi]
abbrev b4A25 : Array Bool := #[bi, bi, bi, bi, bi, bi, bi, bi, bi, bi, bi, bi, bi, bi, bi, bi, bo, bo, bo, bo, bo, bo, bo, bo]
abbrev b4A26 : Array Bool := #[bi, bi, bi, bi, bi, bi, bi, bi, bi, bi, bi, bi, bi, bi, bi, bi, bi, bo, bo, bo, bo, bo, bo, bo]
abbrev b4A27 : Array Bool := #[bi, bi, bi, bi, bi, bi, bi, bi, bi, bi, bi, bi, bi, bi, bi, bi, bi, bi, bo, bo, bo, bo, bo, bo]
abbrev b4A28 : Array Bool := #[bi, bi, bi, bi, bi, bi, bi, bi, bi, bi, bi, bi, bi, bi, bi, bi, bi, bi, bi, bo, bo, bo, bo, bo]
/-! ### spec_AreThings: function 115 -/
def spec_AreThings.l0 : Nat → List (S111) → Int → Option (Bool)
 | 0, _, _ => none
 | k + 1, x0, x3 => if x3 < (x0.length : Int) then (if 0 ≤ x3 then ((spec_IsThing.f ((rd_T111 x0 x3).f0) ((rd_T111 x0 x3).f1) ((rd_T111 x0 x3).f2) ((rd_T111 x0 x3).f3) ((rd_T111 x0 x3).f4)).bind fun t119 => (if t119 = true then (if x3 > 0 then (if 0 ≤ (wrap64 (x3 - 1)) then (if (wrap64 (x3 - 1)) < (x0.length : Int) then (if ((rd_T111 x0 (wrap64 (x3 - 1))).f0) ≥ ((rd_T111 x0 x3).f0) then (some false) else (spec_AreThings.l0 k x0 (wrap64 (x3 + 1)))) else (none)) else (none)) else (spec_AreThings.l0 k x0 (wrap64 (x3 + 1)))) else (some false))) else (none)) else (some (decide ((x0.length : Int) ≤ 20)))
def spec_AreThings.f (k : Nat) (l0 : List (S111)) : Option (Bool) := spec_AreThings.l0 k l0 0
def spec_AreThings.T4 : Bool × List (List Nat × List Nat) := (true, [([], []), ([], []), ([0, 1], [0, 1]), ([2], [2]), ([3], [3]), ([4], [4]), ([5, 4], [5]), ([6], [6]), ([7, 6], [6, 7]), ([8, 6, 6], [6, 8]), ([9], [9]), ([9], [9]), ([11, 9], [9, 11]), ([10, 12, 9], [9, 10, 12]), ([13, 9], [9, 13]), ([14, 9], [9, 14]), ([9], [9]), ([9], [9]), ([16, 17, 9], [9, 16, 17]), ([18, 9], [9, 18]), ([19, 9], [9, 19]), ([15, 20, 9], [9, 15, 20]), ([9, 21, 6], [6, 9, 21]), ([6, 22], [6, 22])])
def spec_AreThings.B4 : List Nat := [0, 0, 3, 7, 15, 31, 63, 127, 255, 511, 1023, 1023, 3071, 8191, 16383, 32767, 1023, 1023, 197631, 459775, 984063, 2097151, 4194303, 8388607]
theorem spec_AreThings.tab4 : rtab .any (opsOf Try.f115 4) = spec_AreThings.T4 := by kernel_rfl
theorem spec_AreThings.bits4 : waitsOk spec_AreThings.T4.2 spec_AreThings.B4 = true := by kernel_rfl
set_option maxHeartbeats 8000000 in
set_option maxRecDepth 100000 in
theorem spec_AreThings.calls (k : Nat) (A0 : Option Addr) (c0 : Nat) (l0 : List (S111)) (r : Bool) (w : World) (hr0 : Kd.C k111 w A0 l0.length l0) (hc0 : l0.length ≤ c0) (h : spec_AreThings.f k l0 = some r) :
  Calls Try.prog 115 #[.slice A0 l0.length c0] w fun e w' => e = .returned (.bool r) ∧ Below w.heap.size w w' := by
 have hu111 := Try.underlying111
 have HR0 := zK hr0
 have HC0 := zK hc0
 clear hr0 hc0
 have HB := zK (Below.refl w.heap.size w)
 have H : (spec_AreThings.l0 k l0 0) = some r := h
 clear h
 have H' := zK H
 clear H
 go_enter Try.func115, Try.ntmps115
 go_wp2
 go_loopg [3] k (fun kq v3 w' => ∃ (x3_1 : Int), v3 = .int .i64 x3_1 ∧ Aside0 (spec_AreThings.l0 kq l0 x3_1 = some r) ∧ Aside0 (kq ≤ k) ∧ Aside0 (Below w.heap.size w w'))
 case atStart => exact ⟨(0), (by first | rfl | (simp; done) | (simp [*]; done)), H', ⟨Nat.le_refl _⟩, ⟨by exact qB HB.out⟩⟩
 case round =>
  clear H'
  try clear c1
  obtain ⟨x3_1, rfl, HA, HK1, HB⟩ := hrel
  cases gk with
  | zero => exact absurd HA.out (by simp [spec_AreThings.l0])
  | succ k1 =>
   have H := HA.out
   clear HA
   simp only [spec_AreThings.l0] at H
   by_cases c2 : x3_1 < (l0.length : Int)
   rotate_left
   ·rw [if_neg c2] at H
    have c2b0 : decide (x3_1 < (l0.length : Int)) = false := decide_eq_false c2
    clear c2
    obtain rfl := Option.some.inj H
    go_wp2
    go_ret
    exact ⟨by first | rfl | (simp [errW_none, errW_some] <;> rfl) | (simp [*, errW_none, errW_some] <;> rfl), by exact qB HB.out⟩

   rw [if_pos c2] at H
   have c2b0 : decide (x3_1 < (l0.length : Int)) = true := decide_eq_true c2
   clear c2
   by_cases c3 : 0 ≤ x3_1
   rotate_left
   ·rw [if_neg c3] at H
    exact absurd H (by simp)
   rw [if_pos c3] at H
   have c3b0 : decide (0 ≤ x3_1) = true := decide_eq_true c3
   clear c3
   replace H := Option.bind_eq_some_iff.mp H
   obtain ⟨t119, A40, H⟩ := H
   replace H : (if t119 = true then (if x3_1 > 0 then (if 0 ≤ (wrap64 (x3_1 - 1)) then (if (wrap64 (x3_1 - 1)) < (l0.length : Int) then (if ((rd_T111 l0 (wrap64 (x3_1 - 1))).f0) ≥ ((rd_T111 l0 x3_1).f0) then (some false) else (spec_AreThings.l0 k1 l0 (wrap64 (x3_1 + 1)))) else (none)) else (none)) else (spec_AreThings.l0 k1 l0 (wrap64 (x3_1 + 1)))) else (some false)) = some r := H
   have A4 := zK A40
   clear A40
   by_cases c5 : t119 = true
   rotate_left
   ·replace c5 := Bool.eq_false_iff.mpr c5
    subst c5
    have H1 : (some false) = some r := by rw [if_neg (show ¬ (false = true) by decide)] at H; exact H
    clear H
    have H := H1
    clear H1
    obtain rfl := Option.some.inj H
    try go_wp2
    have n0_ := zK (b1 HB.out)
    clear HB
    have HB := n0_
    clear n0_
    have p118 : 0 ≤ (x3_1 : Int) := oD (by first | (with_reducible assumption) | assumption)
    have q118 : x3_1 < (l0.length : Int) := oD (by first | (with_reducible assumption) | assumption)
    obtain ⟨ad118, e118, hx118_0, hx118_1, hx118_2, hx118_3, hx118_4⟩ := at_T111 HR0.out x3_1 p118 q118
    have hw118_4 := hx118_4
    have hw118_3 := hx118_3
    have hw118_2 := hx118_2
    have hw118_1 := hx118_1
    have hw118_0 := hx118_0
    cases e118
    replace hx118_0 := (HB.out.cell (bL w hx118_0)).trans hx118_0
    replace hx118_1 := (HB.out.cell (bL w hx118_1)).trans hx118_1
    replace hx118_2 := (HB.out.cell (bL w hx118_2)).trans hx118_2
    replace hx118_3 := (HB.out.cell (bL w hx118_3)).trans hx118_3
    replace hx118_4 := (HB.out.cell (bL w hx118_4)).trans hx118_4
    replace p118 := eq_true p118
    replace q118 := eq_true q118
    refine start_ (n := 24) (S := fun w' => w'.cell? (ad118.add ((x3_1).toNat * 5)) = some (.int .i64 ((rd_T111 l0 x3_1).f0)) ∧ w'.cell? ⟨(ad118.add ((x3_1).toNat * 5)).block, (ad118.add ((x3_1).toNat * 5)).off + 1, none⟩ = some (.int .i64 ((rd_T111 l0 x3_1).f1)) ∧ w'.cell? ⟨(ad118.add ((x3_1).toNat * 5)).block, (ad118.add ((x3_1).toNat * 5)).off + 2, none⟩ = some (.int .i64 ((rd_T111 l0 x3_1).f2)) ∧ w'.cell? ⟨(ad118.add ((x3_1).toNat * 5)).block, (ad118.add ((x3_1).toNat * 5)).off + 3, none⟩ = some (.int .i64 ((rd_T111 l0 x3_1).f3)) ∧ w'.cell? ⟨(ad118.add ((x3_1).toNat * 5)).block, (ad118.add ((x3_1).toNat * 5)).off + 4, none⟩ = some (.int .i64 ((rd_T111 l0 x3_1).f4))) (ds := []) b4A0 (by kernel_rfl) rfl rfl ⟨((HB.out.cell (bL w hw118_0)).trans hw118_0), ((HB.out.cell (bL w hw118_1)).trans hw118_1), ((HB.out.cell (bL w hw118_2)).trans hw118_2), ((HB.out.cell (bL w hw118_3)).trans hw118_3), ((HB.out.cell (bL w hw118_4)).trans hw118_4)⟩ (fun hHeld => ?_); refine with_tabW spec_AreThings.tab4 spec_AreThings.bits4 (fun HT_ HW_ => ?_)
    generalize wr.drew = w17 at HB hx118_0 hx118_1 hx118_2 hx118_3 hx118_4 hHeld ⊢
    refine pI 0 (some 10) b4A1 HT_ ?_
    refine pI 1 (some 11) b4A2 HT_ ?_
    refine pI 2 (some 12) b4A3 HT_ ?_
    refine tI 3 (some 13) b4A4 HT_ HW_ hHeld rfl rfl (Or.inl ⟨by rfl, by rintro w' ⟨s0, s1, s2, s3, s4⟩; go_simp; with_reducible rfl⟩) ?_
    refine one_ (i := 4) (N := some 14) b4A5 rfl rfl (one_of HT_.out (by kernel_rfl)) (by decide) (fun K hK => ?_)
    refine goes_ Try.func155 (by kernel_rfl) rfl #[.agg #[.int .i64 ((rd_T111 l0 x3_1).f0), .int .i64 ((rd_T111 l0 x3_1).f1), .int .i64 ((rd_T111 l0 x3_1).f2), .int .i64 ((rd_T111 l0 x3_1).f3), .int .i64 ((rd_T111 l0 x3_1).f4)]] (by rfl) rfl rfl (by (try simp only [List.map_toArray, List.map_cons, List.map_nil]); first | done | rfl | (simp only [List.length_drop, List.length_take]; rfl)) ?_
    with_reducible refine (spec_IsThing.calls ((rd_T111 l0 x3_1).f0) ((rd_T111 l0 x3_1).f1) ((rd_T111 l0 x3_1).f2) ((rd_T111 l0 x3_1).f3) ((rd_T111 l0 x3_1).f4) false _ A4.out).mono ?_
    rintro e w18 ⟨rfl, hb⟩
    refine ⟨_, rfl, ?_⟩
    have n0_ := zK (bT (qB HB.out) hb)
    clear HB
    have HB := n0_
    clear n0_
    (try clear hb)
    (try clear hb2)
    (try clear hk)
    (try clear hi)
    refine hK.out _ _ ⟨((HB.out.cell (bL w hw118_0)).trans hw118_0), ((HB.out.cell (bL w hw118_1)).trans hw118_1), ((HB.out.cell (bL w hw118_2)).trans hw118_2), ((HB.out.cell (bL w hw118_3)).trans hw118_3), ((HB.out.cell (bL w hw118_4)).trans hw118_4)⟩ (fun hHeld => ?_)
    clear hK K
    refine norm_ (a' := ?_) ?_ ?_
    rotate_left
    ·show Act.put _ (some 14) _ = _
     simp only [Act.put, sA, sZ, sS, i64_w, i32_w]
     rfl
    refine pI 5 (some 15) b4A6 HT_ ?_
    refine pI 6 (some 16) b4A7 HT_ ?_
    refine pU 7 (some 17) b4A8 HT_ ?_
    refine pU 8 (some 18) b4A9 HT_ ?_
    refine pU 9 (some 19) b4A10 HT_ ?_
    refine pU 10 (some 20) b4A11 HT_ ?_
    refine pU 11 (some 21) b4A12 HT_ ?_
    refine pU 12 (some 22) b4A13 HT_ ?_
    refine pU 13 (some 23) b4A14 HT_ ?_
    refine pU 14 (some 24) b4A15 HT_ ?_
    refine pU 15 (some 25) b4A25 HT_ ?_
    refine pU 16 (some 26) b4A26 HT_ ?_
    refine pU 17 (some 27) b4A27 HT_ ?_
    refine pU 18 (some 28) b4A28 HT_ ?_
    refine pU 19 (some 29) b4A20 HT_ ?_
    refine pU 20 (some 30) b4A21 HT_ ?_
    refine pU 21 (some 31) b4A22 HT_ ?_
    refine pU 22 (some 32) b4A23 HT_ ?_
    refine pI 23 (some 33) b4A24 HT_ ?_
    refine done_ (done_of HT_.out (by kernel_rfl)) ?_
    try go_wp2
    go_ret
    exact ⟨by first | rfl | (simp [errW_none, errW_some] <;> rfl) | (simp [*, errW_none, errW_some] <;> rfl), by exact qB HB.out⟩
   subst c5
   have H1 : (if x3_1 > 0 then (if 0 ≤ (wrap64 (x3_1 - 1)) then (if (wrap64 (x3_1 - 1)) < (l0.length : Int) then (if ((rd_T111 l0 (wrap64 (x3_1 - 1))).f0) ≥ ((rd_T111 l0 x3_1).f0) then (some false) else (spec_AreThings.l0 k1 l0 (wrap64 (x3_1 + 1)))) else (none)) else (none)) else (spec_AreThings.l0 k1 l0 (wrap64 (x3_1 + 1)))) = some r := by rw [if_pos rfl] at H; exact H
   clear H
   have H := H1
   clear H1
   by_cases c6 : x3_1 > 0
   rotate_left
   ·rw [if_neg c6] at H
    have c6b0 : decide (0 < x3_1) = false := decide_eq_false c6
    clear c6
    have H' := zK H
    clear H
    try go_wp2
    have n0_ := zK (b1 HB.out)
    clear HB
    have HB := n0_
    clear n0_
    have p118 : 0 ≤ (x3_1 : Int) := oD (by first | (with_reducible assumption) | assumption)
    have q118 : x3_1 < (l0.length : Int) := oD (by first | (with_reducible assumption) | assumption)
    obtain ⟨ad118, e118, hx118_0, hx118_1, hx118_2, hx118_3, hx118_4⟩ := at_T111 HR0.out x3_1 p118 q118
    have hw118_4 := hx118_4
    have hw118_3 := hx118_3
    have hw118_2 := hx118_2
    have hw118_1 := hx118_1
    have hw118_0 := hx118_0
    cases e118
    replace hx118_0 := (HB.out.cell (bL w hx118_0)).trans hx118_0
    replace hx118_1 := (HB.out.cell (bL w hx118_1)).trans hx118_1
    replace hx118_2 := (HB.out.cell (bL w hx118_2)).trans hx118_2
    replace hx118_3 := (HB.out.cell (bL w hx118_3)).trans hx118_3
    replace hx118_4 := (HB.out.cell (bL w hx118_4)).trans hx118_4
    replace p118 := eq_true p118
    replace q118 := eq_true q118
    refine start_ (n := 24) (S := fun w' => w'.cell? (ad118.add ((x3_1).toNat * 5)) = some (.int .i64 ((rd_T111 l0 x3_1).f0)) ∧ w'.cell? ⟨(ad118.add ((x3_1).toNat * 5)).block, (ad118.add ((x3_1).toNat * 5)).off + 1, none⟩ = some (.int .i64 ((rd_T111 l0 x3_1).f1)) ∧ w'.cell? ⟨(ad118.add ((x3_1).toNat * 5)).block, (ad118.add ((x3_1).toNat * 5)).off + 2, none⟩ = some (.int .i64 ((rd_T111 l0 x3_1).f2)) ∧ w'.cell? ⟨(ad118.add ((x3_1).toNat * 5)).block, (ad118.add ((x3_1).toNat * 5)).off + 3, none⟩ = some (.int .i64 ((rd_T111 l0 x3_1).f3)) ∧ w'.cell? ⟨(ad118.add ((x3_1).toNat * 5)).block, (ad118.add ((x3_1).toNat * 5)).off + 4, none⟩ = some (.int .i64 ((rd_T111 l0 x3_1).f4))) (ds := []) b4A0 (by kernel_rfl) rfl rfl ⟨((HB.out.cell (bL w hw118_0)).trans hw118_0), ((HB.out.cell (bL w hw118_1)).trans hw118_1), ((HB.out.cell (bL w hw118_2)).trans hw118_2), ((HB.out.cell (bL w hw118_3)).trans hw118_3), ((HB.out.cell (bL w hw118_4)).trans hw118_4)⟩ (fun hHeld => ?_); refine with_tabW spec_AreThings.tab4 spec_AreThings.bits4 (fun HT_ HW_ => ?_)
    generalize wr.drew = w15 at HB hx118_0 hx118_1 hx118_2 hx118_3 hx118_4 hHeld ⊢
    refine pI 0 (some 10) b4A1 HT_ ?_
    refine pI 1 (some 11) b4A2 HT_ ?_
    refine pI 2 (some 12) b4A3 HT_ ?_
    refine tI 3 (some 13) b4A4 HT_ HW_ hHeld rfl rfl (Or.inl ⟨by rfl, by rintro w' ⟨s0, s1, s2, s3, s4⟩; go_simp; with_reducible rfl⟩) ?_
    refine one_ (i := 4) (N := some 14) b4A5 rfl rfl (one_of HT_.out (by kernel_rfl)) (by decide) (fun K hK => ?_)
    refine goes_ Try.func155 (by kernel_rfl) rfl #[.agg #[.int .i64 ((rd_T111 l0 x3_1).f0), .int .i64 ((rd_T111 l0 x3_1).f1), .int .i64 ((rd_T111 l0 x3_1).f2), .int .i64 ((rd_T111 l0 x3_1).f3), .int .i64 ((rd_T111 l0 x3_1).f4)]] (by rfl) rfl rfl (by (try simp only [List.map_toArray, List.map_cons, List.map_nil]); first | done | rfl | (simp only [List.length_drop, List.length_take]; rfl)) ?_
    with_reducible refine (spec_IsThing.calls ((rd_T111 l0 x3_1).f0) ((rd_T111 l0 x3_1).f1) ((rd_T111 l0 x3_1).f2) ((rd_T111 l0 x3_1).f3) ((rd_T111 l0 x3_1).f4) true _ A4.out).mono ?_
    rintro e w16 ⟨rfl, hb⟩
    refine ⟨_, rfl, ?_⟩
    have n0_ := zK (bT (qB HB.out) hb)
    clear HB
    have HB := n0_
    clear n0_
    (try clear hb)
    (try clear hb2)
    (try clear hk)
    (try clear hi)
    refine hK.out _ _ ⟨((HB.out.cell (bL w hw118_0)).trans hw118_0), ((HB.out.cell (bL w hw118_1)).trans hw118_1), ((HB.out.cell (bL w hw118_2)).trans hw118_2), ((HB.out.cell (bL w hw118_3)).trans hw118_3), ((HB.out.cell (bL w hw118_4)).trans hw118_4)⟩ (fun hHeld => ?_)
    clear hK K
    refine norm_ (a' := ?_) ?_ ?_
    rotate_left
    ·show Act.put _ (some 14) _ = _
     simp only [Act.put, sA, sZ, sS, i64_w, i32_w]
     rfl
    refine pI 5 (some 15) b4A6 HT_ ?_
    refine pI 6 (some 16) b4A7 HT_ ?_
    refine pI 7 (some 17) b4A8 HT_ ?_
    refine pI 8 (some 18) b4A9 HT_ ?_
    refine pI 9 (some 19) b4A10 HT_ ?_
    refine pU 10 (some 20) b4A11 HT_ ?_
    refine pU 11 (some 21) b4A12 HT_ ?_
    refine pU 12 (some 22) b4A13 HT_ ?_
    refine pU 13 (some 23) b4A14 HT_ ?_
    refine pU 14 (some 24) b4A15 HT_ ?_
    refine pU 15 (some 25) b4A25 HT_ ?_
    refine pU 16 (some 26) b4A26 HT_ ?_
    refine pU 17 (some 27) b4A27 HT_ ?_
    refine pU 18 (some 28) b4A28 HT_ ?_
    refine pU 19 (some 29) b4A20 HT_ ?_
    refine pU 20 (some 30) b4A21 HT_ ?_
    refine pU 21 (some 31) b4A22 HT_ ?_
    refine pI 22 (some 32) b4A23 HT_ ?_
    refine pI 23 (some 33) b4A24 HT_ ?_
    refine done_ (done_of HT_.out (by kernel_rfl)) ?_
    try go_wp2
    go_roundg k1
    case measure => have := HK1.out; omega
    case rel => exact ⟨(wrap64 (x3_1 + 1)), (by first | rfl | (simp; done) | (simp [*]; done)), H', ⟨by have := HK1.out; omega⟩, ⟨by exact qB HB.out⟩⟩
   rw [if_pos c6] at H
   have c6b0 : decide (0 < x3_1) = true := decide_eq_true c6
   clear c6
   obtain ⟨ji7, hji7⟩ : ∃ j_ : Int, (wrap64 (x3_1 - 1)) = j_ := ⟨_, rfl⟩
   replace H : (if 0 ≤ (ji7) then (if (ji7) < (l0.length : Int) then (if ((rd_T111 l0 (ji7)).f0) ≥ ((rd_T111 l0 x3_1).f0) then (some false) else (spec_AreThings.l0 k1 l0 (wrap64 (x3_1 + 1)))) else (none)) else (none)) = some r := by first | (rw [hji7] at H; exact H) | (simp only [hji7] at H ⊢; exact H)
   (try rw [hji7] at A4)
   have hji7w : (IntKind.i64.wrap (x3_1 - 1)) = ji7 := (i64_w _).trans hji7
   by_cases c8 : 0 ≤ (ji7)
   rotate_left
   ·rw [if_neg c8] at H
    exact absurd H (by simp)
   rw [if_pos c8] at H
   have c8b0 : decide (0 ≤ (ji7)) = true := decide_eq_true c8
   clear c8
   by_cases c9 : (ji7) < (l0.length : Int)
   rotate_left
   ·rw [if_neg c9] at H
    exact absurd H (by simp)
   rw [if_pos c9] at H
   have c9b0 : decide ((ji7) < (l0.length : Int)) = true := decide_eq_true c9
   clear c9
   by_cases c10 : ((rd_T111 l0 (ji7)).f0) ≥ ((rd_T111 l0 x3_1).f0)
   ·rw [if_pos c10] at H
    have c10b0 : decide (((rd_T111 l0 x3_1).f0) ≤ ((rd_T111 l0 (ji7)).f0)) = true := decide_eq_true c10
    clear c10
    obtain rfl := Option.some.inj H
    try go_wp2
    have n0_ := zK (b1 HB.out)
    clear HB
    have HB := n0_
    clear n0_
    have p118 : 0 ≤ (x3_1 : Int) := oD (by first | (with_reducible assumption) | assumption)
    have q118 : x3_1 < (l0.length : Int) := oD (by first | (with_reducible assumption) | assumption)
    obtain ⟨ad118, e118, hx118_0, hx118_1, hx118_2, hx118_3, hx118_4⟩ := at_T111 HR0.out x3_1 p118 q118
    have hw118_4 := hx118_4
    have hw118_3 := hx118_3
    have hw118_2 := hx118_2
    have hw118_1 := hx118_1
    have hw118_0 := hx118_0
    cases e118
    replace hx118_0 := (HB.out.cell (bL w hx118_0)).trans hx118_0
    replace hx118_1 := (HB.out.cell (bL w hx118_1)).trans hx118_1
    replace hx118_2 := (HB.out.cell (bL w hx118_2)).trans hx118_2
    replace hx118_3 := (HB.out.cell (bL w hx118_3)).trans hx118_3
    replace hx118_4 := (HB.out.cell (bL w hx118_4)).trans hx118_4
    replace p118 := eq_true p118
    replace q118 := eq_true q118
    have p120 : 0 ≤ ((ji7) : Int) := oD (by first | (with_reducible assumption) | assumption)
    have q120 : (ji7) < (l0.length : Int) := oD (by first | (with_reducible assumption) | assumption)
    obtain ⟨ad120, e120, hx120_0, hx120_1, hx120_2, hx120_3, hx120_4⟩ := at_T111 HR0.out (ji7) p120 q120
    have hw120_4 := hx120_4
    have hw120_3 := hx120_3
    have hw120_2 := hx120_2
    have hw120_1 := hx120_1
    have hw120_0 := hx120_0
    obtain rfl : ad118 = ad120 := (by injection e120)
    replace hx120_0 := (HB.out.cell (bL w hx120_0)).trans hx120_0
    replace hx120_1 := (HB.out.cell (bL w hx120_1)).trans hx120_1
    replace hx120_2 := (HB.out.cell (bL w hx120_2)).trans hx120_2
    replace hx120_3 := (HB.out.cell (bL w hx120_3)).trans hx120_3
    replace hx120_4 := (HB.out.cell (bL w hx120_4)).trans hx120_4
    replace p120 := eq_true p120
    replace q120 := eq_true q120
    have p121 : 0 ≤ (x3_1 : Int) := oD (by first | (with_reducible assumption) | assumption)
    have q121 : x3_1 < (l0.length : Int) := oD (by first | (with_reducible assumption) | assumption)
    obtain ⟨ad121, e121, hx121_0, hx121_1, hx121_2, hx121_3, hx121_4⟩ := at_T111 HR0.out x3_1 p121 q121
    have hw121_4 := hx121_4
    have hw121_3 := hx121_3
    have hw121_2 := hx121_2
    have hw121_1 := hx121_1
    have hw121_0 := hx121_0
    obtain rfl : ad118 = ad121 := (by injection e121)
    replace hx121_0 := (HB.out.cell (bL w hx121_0)).trans hx121_0
    replace hx121_1 := (HB.out.cell (bL w hx121_1)).trans hx121_1
    replace hx121_2 := (HB.out.cell (bL w hx121_2)).trans hx121_2
    replace hx121_3 := (HB.out.cell (bL w hx121_3)).trans hx121_3
    replace hx121_4 := (HB.out.cell (bL w hx121_4)).trans hx121_4
    replace p121 := eq_true p121
    replace q121 := eq_true q121
    refine start_ (n := 24) (S := fun w' => w'.cell? (ad118.add ((x3_1).toNat * 5)) = some (.int .i64 ((rd_T111 l0 x3_1).f0)) ∧ w'.cell? ⟨(ad118.add ((x3_1).toNat * 5)).block, (ad118.add ((x3_1).toNat * 5)).off + 1, none⟩ = some (.int .i64 ((rd_T111 l0 x3_1).f1)) ∧ w'.cell? ⟨(ad118.add ((x3_1).toNat * 5)).block, (ad118.add ((x3_1).toNat * 5)).off + 2, none⟩ = some (.int .i64 ((rd_T111 l0 x3_1).f2)) ∧ w'.cell? ⟨(ad118.add ((x3_1).toNat * 5)).block, (ad118.add ((x3_1).toNat * 5)).off + 3, none⟩ = some (.int .i64 ((rd_T111 l0 x3_1).f3)) ∧ w'.cell? ⟨(ad118.add ((x3_1).toNat * 5)).block, (ad118.add ((x3_1).toNat * 5)).off + 4, none⟩ = some (.int .i64 ((rd_T111 l0 x3_1).f4)) ∧ w'.cell? (ad118.add (((ji7)).toNat * 5)) = some (.int .i64 ((rd_T111 l0 (ji7)).f0)) ∧ w'.cell? ⟨(ad118.add (((ji7)).toNat * 5)).block, (ad118.add (((ji7)).toNat * 5)).off + 1, none⟩ = some (.int .i64 ((rd_T111 l0 (ji7)).f1)) ∧ w'.cell? ⟨(ad118.add (((ji7)).toNat * 5)).block, (ad118.add (((ji7)).toNat * 5)).off + 2, none⟩ = some (.int .i64 ((rd_T111 l0 (ji7)).f2)) ∧ w'.cell? ⟨(ad118.add (((ji7)).toNat * 5)).block, (ad118.add (((ji7)).toNat * 5)).off + 3, none⟩ = some (.int .i64 ((rd_T111 l0 (ji7)).f3)) ∧ w'.cell? ⟨(ad118.add (((ji7)).toNat * 5)).block, (ad118.add (((ji7)).toNat * 5)).off + 4, none⟩ = some (.int .i64 ((rd_T111 l0 (ji7)).f4)) ∧ w'.cell? (ad118.add ((x3_1).toNat * 5)) = some (.int .i64 ((rd_T111 l0 x3_1).f0)) ∧ w'.cell? ⟨(ad118.add ((x3_1).toNat * 5)).block, (ad118.add ((x3_1).toNat * 5)).off + 1, none⟩ = some (.int .i64 ((rd_T111 l0 x3_1).f1)) ∧ w'.cell? ⟨(ad118.add ((x3_1).toNat * 5)).block, (ad118.add ((x3_1).toNat * 5)).off + 2, none⟩ = some (.int .i64 ((rd_T111 l0 x3_1).f2)) ∧ w'.cell? ⟨(ad118.add ((x3_1).toNat * 5)).block, (ad118.add ((x3_1).toNat * 5)).off + 3, none⟩ = some (.int .i64 ((rd_T111 l0 x3_1).f3)) ∧ w'.cell? ⟨(ad118.add ((x3_1).toNat * 5)).block, (ad118.add ((x3_1).toNat * 5)).off + 4, none⟩ = some (.int .i64 ((rd_T111 l0 x3_1).f4))) (ds := []) b4A0 (by kernel_rfl) rfl rfl ⟨((HB.out.cell (bL w hw118_0)).trans hw118_0), ((HB.out.cell (bL w hw118_1)).trans hw118_1), ((HB.out.cell (bL w hw118_2)).trans hw118_2), ((HB.out.cell (bL w hw118_3)).trans hw118_3), ((HB.out.cell (bL w hw118_4)).trans hw118_4), ((HB.out.cell (bL w hw120_0)).trans hw120_0), ((HB.out.cell (bL w hw120_1)).trans hw120_1), ((HB.out.cell (bL w hw120_2)).trans hw120_2), ((HB.out.cell (bL w hw120_3)).trans hw120_3), ((HB.out.cell (bL w hw120_4)).trans hw120_4), ((HB.out.cell (bL w hw121_0)).trans hw121_0), ((HB.out.cell (bL w hw121_1)).trans hw121_1), ((HB.out.cell (bL w hw121_2)).trans hw121_2), ((HB.out.cell (bL w hw121_3)).trans hw121_3), ((HB.out.cell (bL w hw121_4)).trans hw121_4)⟩ (fun hHeld => ?_); refine with_tabW spec_AreThings.tab4 spec_AreThings.bits4 (fun HT_ HW_ => ?_)
    generalize wr.drew = w11 at HB hx118_0 hx118_1 hx118_2 hx118_3 hx118_4 hx120_0 hx120_1 hx120_2 hx120_3 hx120_4 hx121_0 hx121_1 hx121_2 hx121_3 hx121_4 hHeld ⊢
    refine pI 0 (some 10) b4A1 HT_ ?_
    refine pI 1 (some 11) b4A2 HT_ ?_
    refine pI 2 (some 12) b4A3 HT_ ?_
    refine tI 3 (some 13) b4A4 HT_ HW_ hHeld rfl rfl (Or.inl ⟨by rfl, by rintro w' ⟨s0, s1, s2, s3, s4, s5, s6, s7, s8, s9, s10, s11, s12, s13, s14⟩; go_simp; with_reducible rfl⟩) ?_
    refine one_ (i := 4) (N := some 14) b4A5 rfl rfl (one_of HT_.out (by kernel_rfl)) (by decide) (fun K hK => ?_)
    refine goes_ Try.func155 (by kernel_rfl) rfl #[.agg #[.int .i64 ((rd_T111 l0 x3_1).f0), .int .i64 ((rd_T111 l0 x3_1).f1), .int .i64 ((rd_T111 l0 x3_1).f2), .int .i64 ((rd_T111 l0 x3_1).f3), .int .i64 ((rd_T111 l0 x3_1).f4)]] (by rfl) rfl rfl (by (try simp only [List.map_toArray, List.map_cons, List.map_nil]); first | done | rfl | (simp only [List.length_drop, List.length_take]; rfl)) ?_
    with_reducible refine (spec_IsThing.calls ((rd_T111 l0 x3_1).f0) ((rd_T111 l0 x3_1).f1) ((rd_T111 l0 x3_1).f2) ((rd_T111 l0 x3_1).f3) ((rd_T111 l0 x3_1).f4) true _ A4.out).mono ?_
    rintro e w12 ⟨rfl, hb⟩
    refine ⟨_, rfl, ?_⟩
    have n0_ := zK (bT (qB HB.out) hb)
    clear HB
    have HB := n0_
    clear n0_
    (try clear hb)
    (try clear hb2)
    (try clear hk)
    (try clear hi)
    refine hK.out _ _ ⟨((HB.out.cell (bL w hw118_0)).trans hw118_0), ((HB.out.cell (bL w hw118_1)).trans hw118_1), ((HB.out.cell (bL w hw118_2)).trans hw118_2), ((HB.out.cell (bL w hw118_3)).trans hw118_3), ((HB.out.cell (bL w hw118_4)).trans hw118_4), ((HB.out.cell (bL w hw120_0)).trans hw120_0), ((HB.out.cell (bL w hw120_1)).trans hw120_1), ((HB.out.cell (bL w hw120_2)).trans hw120_2), ((HB.out.cell (bL w hw120_3)).trans hw120_3), ((HB.out.cell (bL w hw120_4)).trans hw120_4), ((HB.out.cell (bL w hw121_0)).trans hw121_0), ((HB.out.cell (bL w hw121_1)).trans hw121_1), ((HB.out.cell (bL w hw121_2)).trans hw121_2), ((HB.out.cell (bL w hw121_3)).trans hw121_3), ((HB.out.cell (bL w hw121_4)).trans hw121_4)⟩ (fun hHeld => ?_)
    clear hK K
    refine norm_ (a' := ?_) ?_ ?_
    rotate_left
    ·show Act.put _ (some 14) _ = _
     simp only [Act.put, sA, sZ, sS, i64_w, i32_w]
     rfl
    refine pI 5 (some 15) b4A6 HT_ ?_
    refine pI 6 (some 16) b4A7 HT_ ?_
    refine pI 7 (some 17) b4A8 HT_ ?_
    refine pI 8 (some 18) b4A9 HT_ ?_
    refine pI 9 (some 19) b4A10 HT_ ?_
    refine pI 10 (some 20) b4A11 HT_ ?_
    refine pI 11 (some 21) b4A12 HT_ ?_
    refine pI 12 (some 22) b4A13 HT_ ?_
    refine pI 13 (some 23) b4A14 HT_ ?_
    refine pI 14 (some 24) b4A15 HT_ ?_
    refine pI 16 (some 26) b4A16 HT_ ?_
    refine pI 17 (some 27) b4A17 HT_ ?_
    refine pI 18 (some 28) b4A18 HT_ ?_
    refine pI 19 (some 29) b4A19 HT_ ?_
    refine tI 15 (some 25) b4A20 HT_ HW_ hHeld rfl rfl (Or.inl ⟨by rfl, by rintro w' ⟨s0, s1, s2, s3, s4, s5, s6, s7, s8, s9, s10, s11, s12, s13, s14⟩; go_simp; with_reducible rfl⟩) ?_
    refine tI 20 (some 30) b4A21 HT_ HW_ hHeld rfl rfl (Or.inl ⟨by rfl, by rintro w' ⟨s0, s1, s2, s3, s4, s5, s6, s7, s8, s9, s10, s11, s12, s13, s14⟩; go_simp; with_reducible rfl⟩) ?_
    refine pI 21 (some 31) b4A22 HT_ ?_
    refine pI 22 (some 32) b4A23 HT_ ?_
    refine pI 23 (some 33) b4A24 HT_ ?_
    refine done_ (done_of HT_.out (by kernel_rfl)) ?_
    try go_wp2
    go_ret
    exact ⟨by first | rfl | (simp [errW_none, errW_some] <;> rfl) | (simp only [← hji7]; first | rfl | (simp [errW_none, errW_some] <;> rfl)) | (simp [*, errW_none, errW_some] <;> rfl), by exact qB HB.out⟩
   rw [if_neg c10] at H
   have c10b0 : decide (((rd_T111 l0 x3_1).f0) ≤ ((rd_T111 l0 (ji7)).f0)) = false := decide_eq_false c10
   clear c10
   have H' := zK H
   clear H
   try go_wp2
   have n0_ := zK (b1 HB.out)
   clear HB
   have HB := n0_
   clear n0_
   have p118 : 0 ≤ (x3_1 : Int) := oD (by first | (with_reducible assumption) | assumption)
   have q118 : x3_1 < (l0.length : Int) := oD (by first | (with_reducible assumption) | assumption)
   obtain ⟨ad118, e118, hx118_0, hx118_1, hx118_2, hx118_3, hx118_4⟩ := at_T111 HR0.out x3_1 p118 q118
   have hw118_4 := hx118_4
   have hw118_3 := hx118_3
   have hw118_2 := hx118_2
   have hw118_1 := hx118_1
   have hw118_0 := hx118_0
   cases e118
   replace hx118_0 := (HB.out.cell (bL w hx118_0)).trans hx118_0
   replace hx118_1 := (HB.out.cell (bL w hx118_1)).trans hx118_1
   replace hx118_2 := (HB.out.cell (bL w hx118_2)).trans hx118_2
   replace hx118_3 := (HB.out.cell (bL w hx118_3)).trans hx118_3
   replace hx118_4 := (HB.out.cell (bL w hx118_4)).trans hx118_4
   replace p118 := eq_true p118
   replace q118 := eq_true q118
   have p120 : 0 ≤ ((ji7) : Int) := oD (by first | (with_reducible assumption) | assumption)
   have q120 : (ji7) < (l0.length : Int) := oD (by first | (with_reducible assumption) | assumption)
   obtain ⟨ad120, e120, hx120_0, hx120_1, hx120_2, hx120_3, hx120_4⟩ := at_T111 HR0.out (ji7) p120 q120
   have hw120_4 := hx120_4
   have hw120_3 := hx120_3
   have hw120_2 := hx120_2
   have hw120_1 := hx120_1
   have hw120_0 := hx120_0
   obtain rfl : ad118 = ad120 := (by injection e120)
   replace hx120_0 := (HB.out.cell (bL w hx120_0)).trans hx120_0
   replace hx120_1 := (HB.out.cell (bL w hx120_1)).trans hx120_1
   replace hx120_2 := (HB.out.cell (bL w hx120_2)).trans hx120_2
   replace hx120_3 := (HB.out.cell (bL w hx120_3)).trans hx120_3
   replace hx120_4 := (HB.out.cell (bL w hx120_4)).trans hx120_4
   replace p120 := eq_true p120
   replace q120 := eq_true q120
   have p121 : 0 ≤ (x3_1 : Int) := oD (by first | (with_reducible assumption) | assumption)
   have q121 : x3_1 < (l0.length : Int) := oD (by first | (with_reducible assumption) | assumption)
   obtain ⟨ad121, e121, hx121_0, hx121_1, hx121_2, hx121_3, hx121_4⟩ := at_T111 HR0.out x3_1 p121 q121
   have hw121_4 := hx121_4
   have hw121_3 := hx121_3
   have hw121_2 := hx121_2
   have hw121_1 := hx121_1
   have hw121_0 := hx121_0
   obtain rfl : ad118 = ad121 := (by injection e121)
   replace hx121_0 := (HB.out.cell (bL w hx121_0)).trans hx121_0
   replace hx121_1 := (HB.out.cell (bL w hx121_1)).trans hx121_1
   replace hx121_2 := (HB.out.cell (bL w hx121_2)).trans hx121_2
   replace hx121_3 := (HB.out.cell (bL w hx121_3)).trans hx121_3
   replace hx121_4 := (HB.out.cell (bL w hx121_4)).trans hx121_4
   replace p121 := eq_true p121
   replace q121 := eq_true q121
   refine start_ (n := 24) (S := fun w' => w'.cell? (ad118.add ((x3_1).toNat * 5)) = some (.int .i64 ((rd_T111 l0 x3_1).f0)) ∧ w'.cell? ⟨(ad118.add ((x3_1).toNat * 5)).block, (ad118.add ((x3_1).toNat * 5)).off + 1, none⟩ = some (.int .i64 ((rd_T111 l0 x3_1).f1)) ∧ w'.cell? ⟨(ad118.add ((x3_1).toNat * 5)).block, (ad118.add ((x3_1).toNat * 5)).off + 2, none⟩ = some (.int .i64 ((rd_T111 l0 x3_1).f2)) ∧ w'.cell? ⟨(ad118.add ((x3_1).toNat * 5)).block, (ad118.add ((x3_1).toNat * 5)).off + 3, none⟩ = some (.int .i64 ((rd_T111 l0 x3_1).f3)) ∧ w'.cell? ⟨(ad118.add ((x3_1).toNat * 5)).block, (ad118.add ((x3_1).toNat * 5)).off + 4, none⟩ = some (.int .i64 ((rd_T111 l0 x3_1).f4)) ∧ w'.cell? (ad118.add (((ji7)).toNat * 5)) = some (.int .i64 ((rd_T111 l0 (ji7)).f0)) ∧ w'.cell? ⟨(ad118.add (((ji7)).toNat * 5)).block, (ad118.add (((ji7)).toNat * 5)).off + 1, none⟩ = some (.int .i64 ((rd_T111 l0 (ji7)).f1)) ∧ w'.cell? ⟨(ad118.add (((ji7)).toNat * 5)).block, (ad118.add (((ji7)).toNat * 5)).off + 2, none⟩ = some (.int .i64 ((rd_T111 l0 (ji7)).f2)) ∧ w'.cell? ⟨(ad118.add (((ji7)).toNat * 5)).block, (ad118.add (((ji7)).toNat * 5)).off + 3, none⟩ = some (.int .i64 ((rd_T111 l0 (ji7)).f3)) ∧ w'.cell? ⟨(ad118.add (((ji7)).toNat * 5)).block, (ad118.add (((ji7)).toNat * 5)).off + 4, none⟩ = some (.int .i64 ((rd_T111 l0 (ji7)).f4)) ∧ w'.cell? (ad118.add ((x3_1).toNat * 5)) = some (.int .i64 ((rd_T111 l0 x3_1).f0)) ∧ w'.cell? ⟨(ad118.add ((x3_1).toNat * 5)).block, (ad118.add ((x3_1).toNat * 5)).off + 1, none⟩ = some (.int .i64 ((rd_T111 l0 x3_1).f1)) ∧ w'.cell? ⟨(ad118.add ((x3_1).toNat * 5)).block, (ad118.add ((x3_1).toNat * 5)).off + 2, none⟩ = some (.int .i64 ((rd_T111 l0 x3_1).f2)) ∧ w'.cell? ⟨(ad118.add ((x3_1).toNat * 5)).block, (ad118.add ((x3_1).toNat * 5)).off + 3, none⟩ = some (.int .i64 ((rd_T111 l0 x3_1).f3)) ∧ w'.cell? ⟨(ad118.add ((x3_1).toNat * 5)).block, (ad118.add ((x3_1).toNat * 5)).off + 4, none⟩ = some (.int .i64 ((rd_T111 l0 x3_1).f4))) (ds := []) b4A0 (by kernel_rfl) rfl rfl ⟨((HB.out.cell (bL w hw118_0)).trans hw118_0), ((HB.out.cell (bL w hw118_1)).trans hw118_1), ((HB.out.cell (bL w hw118_2)).trans hw118_2), ((HB.out.cell (bL w hw118_3)).trans hw118_3), ((HB.out.cell (bL w hw118_4)).trans hw118_4), ((HB.out.cell (bL w hw120_0)).trans hw120_0), ((HB.out.cell (bL w hw120_1)).trans hw120_1), ((HB.out.cell (bL w hw120_2)).trans hw120_2), ((HB.out.cell (bL w hw120_3)).trans hw120_3), ((HB.out.cell (bL w hw120_4)).trans hw120_4), ((HB.out.cell (bL w hw121_0)).trans hw121_0), ((HB.out.cell (bL w hw121_1)).trans hw121_1), ((HB.out.cell (bL w hw121_2)).trans hw121_2), ((HB.out.cell (bL w hw121_3)).trans hw121_3), ((HB.out.cell (bL w hw121_4)).trans hw121_4)⟩ (fun hHeld => ?_); refine with_tabW spec_AreThings.tab4 spec_AreThings.bits4 (fun HT_ HW_ => ?_)
   generalize wr.drew = w13 at HB hx118_0 hx118_1 hx118_2 hx118_3 hx118_4 hx120_0 hx120_1 hx120_2 hx120_3 hx120_4 hx121_0 hx121_1 hx121_2 hx121_3 hx121_4 hHeld ⊢
   refine pI 0 (some 10) b4A1 HT_ ?_
   refine pI 1 (some 11) b4A2 HT_ ?_
   refine pI 2 (some 12) b4A3 HT_ ?_
   refine tI 3 (some 13) b4A4 HT_ HW_ hHeld rfl rfl (Or.inl ⟨by rfl, by rintro w' ⟨s0, s1, s2, s3, s4, s5, s6, s7, s8, s9, s10, s11, s12, s13, s14⟩; go_simp; with_reducible rfl⟩) ?_
   refine one_ (i := 4) (N := some 14) b4A5 rfl rfl (one_of HT_.out (by kernel_rfl)) (by decide) (fun K hK => ?_)
   refine goes_ Try.func155 (by kernel_rfl) rfl #[.agg #[.int .i64 ((rd_T111 l0 x3_1).f0), .int .i64 ((rd_T111 l0 x3_1).f1), .int .i64 ((rd_T111 l0 x3_1).f2), .int .i64 ((rd_T111 l0 x3_1).f3), .int .i64 ((rd_T111 l0 x3_1).f4)]] (by rfl) rfl rfl (by (try simp only [List.map_toArray, List.map_cons, List.map_nil]); first | done | rfl | (simp only [List.length_drop, List.length_take]; rfl)) ?_
   with_reducible refine (spec_IsThing.calls ((rd_T111 l0 x3_1).f0) ((rd_T111 l0 x3_1).f1) ((rd_T111 l0 x3_1).f2) ((rd_T111 l0 x3_1).f3) ((rd_T111 l0 x3_1).f4) true _ A4.out).mono ?_
   rintro e w14 ⟨rfl, hb⟩
   refine ⟨_, rfl, ?_⟩
   have n0_ := zK (bT (qB HB.out) hb)
   clear HB
   have HB := n0_
   clear n0_
   (try clear hb)
   (try clear hb2)
   (try clear hk)
   (try clear hi)
   refine hK.out _ _ ⟨((HB.out.cell (bL w hw118_0)).trans hw118_0), ((HB.out.cell (bL w hw118_1)).trans hw118_1), ((HB.out.cell (bL w hw118_2)).trans hw118_2), ((HB.out.cell (bL w hw118_3)).trans hw118_3), ((HB.out.cell (bL w hw118_4)).trans hw118_4), ((HB.out.cell (bL w hw120_0)).trans hw120_0), ((HB.out.cell (bL w hw120_1)).trans hw120_1), ((HB.out.cell (bL w hw120_2)).trans hw120_2), ((HB.out.cell (bL w hw120_3)).trans hw120_3), ((HB.out.cell (bL w hw120_4)).trans hw120_4), ((HB.out.cell (bL w hw121_0)).trans hw121_0), ((HB.out.cell (bL w hw121_1)).trans hw121_1), ((HB.out.cell (bL w hw121_2)).trans hw121_2), ((HB.out.cell (bL w hw121_3)).trans hw121_3), ((HB.out.cell (bL w hw121_4)).trans hw121_4)⟩ (fun hHeld => ?_)
   clear hK K
   refine norm_ (a' := ?_) ?_ ?_
   rotate_left
   ·show Act.put _ (some 14) _ = _
    simp only [Act.put, sA, sZ, sS, i64_w, i32_w]
    rfl
   refine pI 5 (some 15) b4A6 HT_ ?_
   refine pI 6 (some 16) b4A7 HT_ ?_
   refine pI 7 (some 17) b4A8 HT_ ?_
   refine pI 8 (some 18) b4A9 HT_ ?_
   refine pI 9 (some 19) b4A10 HT_ ?_
   refine pI 10 (some 20) b4A11 HT_ ?_
   refine pI 11 (some 21) b4A12 HT_ ?_
   refine pI 12 (some 22) b4A13 HT_ ?_
   refine pI 13 (some 23) b4A14 HT_ ?_
   refine pI 14 (some 24) b4A15 HT_ ?_
   refine pI 16 (some 26) b4A16 HT_ ?_
   refine pI 17 (some 27) b4A17 HT_ ?_
   refine pI 18 (some 28) b4A18 HT_ ?_
   refine pI 19 (some 29) b4A19 HT_ ?_
   refine tI 15 (some 25) b4A20 HT_ HW_ hHeld rfl rfl (Or.inl ⟨by rfl, by rintro w' ⟨s0, s1, s2, s3, s4, s5, s6, s7, s8, s9, s10, s11, s12, s13, s14⟩; go_simp; with_reducible rfl⟩) ?_
   refine tI 20 (some 30) b4A21 HT_ HW_ hHeld rfl rfl (Or.inl ⟨by rfl, by rintro w' ⟨s0, s1, s2, s3, s4, s5, s6, s7, s8, s9, s10, s11, s12, s13, s14⟩; go_simp; with_reducible rfl⟩) ?_
   refine pI 21 (some 31) b4A22 HT_ ?_
   refine pI 22 (some 32) b4A23 HT_ ?_
   refine pI 23 (some 33) b4A24 HT_ ?_
   refine done_ (done_of HT_.out (by kernel_rfl)) ?_
   try go_wp2
   go_roundg k1
   case measure => have := HK1.out; omega
   case rel => exact ⟨(wrap64 (x3_1 + 1)), (by first | rfl | (simp; done) | (simp [*]; done)), H', ⟨by have := HK1.out; omega⟩, ⟨by exact qB HB.out⟩⟩
end Go.Proofs.Ytejhjenlodclpaa.PFnExactTighten
