/- Walks of functions that FnExactTighten reaches: written by a tool of the kit for this claim, then shortened by a program of ours. -/
import Derived.Test.YtejhjenlodclpaaPFnExactTightenx0
import Derived.Test.YtejhjenlodclpaaPFnExactTightenx15
/- narrow -/
namespace Go.Proofs.Ytejhjenlodclpaa.PFnExactTighten
open Go.RowKit Go.Proofs.YtejhjenlodclpaaW.PrintWords Go.Proofs.YtejhjenlodclpaaW.PrintLast Go.Proofs.YtejhjenlodclpaaW.PrintMore
attribute [local go_sem] max2_int min2_int max_two min_two max_three min_three max_four min_four   -- for this text's walks alone
set_option linter.unusedVariables false
set_option linter.unusedSimpArgs false

abbrev b16A0 : Array Bool := #[bo, bo, bo, bo, bo, bo, bo, bo, bo, bo]
abbrev b16A1 : Array Bool := #[bi, bo, bo, bo, bo, bo, bo, bo, bo, bo]
abbrev b16A2 : Array Bool := #[bi, bi, bo, bo, bo, bo, bo, bo, bo, bo]
abbrev b16A3 : Array Bool := #[bi, bi, bi, bo, bo, bo, bo, bo, bo, bo]
abbrev b16A4 : Array Bool := #[bi, bi, bi, bo, bi, bo, bo, bo, bo, bo]
abbrev b16A5 : Array Bool := #[bi, bi, bi, bo, bi, bi, bo, bo, bo, bo]
abbrev b16A6 : Array Bool := #[bi, bi, bi, bo, bi, bi, bi, bo, bo, bo]
abbrev b16A7 : Array Bool := #[bi, bi, bi, bi, bi, bi, bi, bo, bo, bo]
abbrev b16A8 : Array Bool := #[bi, bi, bi, bi, bi, bi, bi, bi, bo, bo]
abbrev b16A9 : Array Bool := #[bi, bi, bi, bi, bi, bi, bi, bi, bi, bo]
abbrev b16A10 : Array Bool := #[bi, bi, bi, bi, bi, bi, bi, bi, bi, bi]
/-! ### laws_eqSlotS: function 68 -/
def laws_eqSlotS.l0 : Nat → List (S154) → List (S154) → Int → Option (Bool)
 | 0, _, _, _ => none
 | k + 1, x0, x1, x5 => if x5 < (x0.length : Int) then (if 0 ≤ x5 then (if x5 < (x1.length : Int) then ((laws_eqSlot.f ((rd_T154 x0 x5).f0) ((rd_T154 x0 x5).f1) ((rd_T154 x0 x5).f2) ((rd_T154 x1 x5).f0) ((rd_T154 x1 x5).f1) ((rd_T154 x1 x5).f2)).bind fun t380 => (if t380 = true then (laws_eqSlotS.l0 k x0 x1 (wrap64 (x5 + 1))) else (some false))) else (none)) else (none)) else (some true)
def laws_eqSlotS.f (k : Nat) (l0 : List (S154)) (l1 : List (S154)) : Option (Bool) := if (l0.length : Int) = (l1.length : Int) then (laws_eqSlotS.l0 k l0 l1 0) else (some false)
def laws_eqSlotS.T6 : Bool × List (List Nat × List Nat) := (true, [([], []), ([], []), ([0, 1], [0, 1]), ([2], [2]), ([], []), ([], []), ([4, 5], [4, 5]), ([6], [6]), ([3, 7], [3, 7]), ([8], [8])])
def laws_eqSlotS.B6 : List Nat := [0, 0, 3, 7, 0, 0, 48, 112, 255, 511]
theorem laws_eqSlotS.tab6 : rtab .any (opsOf Try.f68 6) = laws_eqSlotS.T6 := by kernel_rfl
theorem laws_eqSlotS.bits6 : waitsOk laws_eqSlotS.T6.2 laws_eqSlotS.B6 = true := by kernel_rfl
set_option maxHeartbeats 8000000 in
set_option maxRecDepth 100000 in
theorem laws_eqSlotS.calls (k : Nat) (A0 : Option Addr) (c0 : Nat) (l0 : List (S154)) (A1 : Option Addr) (c1 : Nat) (l1 : List (S154)) (r : Bool) (w : World) (hr0 : Kd.C k154 w A0 l0.length l0) (hc0 : l0.length ≤ c0) (hr1 : Kd.C k154 w A1 l1.length l1) (hc1 : l1.length ≤ c1) (h : laws_eqSlotS.f k l0 l1 = some r) :
  Calls Try.prog 68 #[.slice A0 l0.length c0, .slice A1 l1.length c1] w fun e w' => e = .returned (.bool r) ∧ Below w.heap.size w w' := by
 have hu154 := Try.underlying154
 have HR0 := zK hr0
 have HC0 := zK hc0
 clear hr0 hc0
 have HR1 := zK hr1
 have HC1 := zK hc1
 clear hr1 hc1
 have HB := zK (Below.refl w.heap.size w)
 have H : (if (l0.length : Int) = (l1.length : Int) then (laws_eqSlotS.l0 k l0 l1 0) else (some false)) = some r := h
 clear h
 by_cases c3 : (l0.length : Int) = (l1.length : Int)
 rotate_left
 ·rw [if_neg c3] at H
  have c3b0 : ((l0.length : Int) == (l1.length : Int)) = false := beq_eq_false_iff_ne.mpr c3
  have c3b1 : ((l0.length : Int) != (l1.length : Int)) = true := bne_iff_ne.mpr c3
  have c3b2 : (l0.length == l1.length) = false := by first | simpa using c3 | (simp at c3 ⊢; omega)
  obtain rfl := Option.some.inj H
  go_enter Try.func68, Try.ntmps68
  go_wp2
  go_ret
  exact ⟨by first | rfl | (simp [errW_none, errW_some] <;> rfl) | (simp [*, errW_none, errW_some] <;> rfl), by exact qB HB.out⟩
 rw [if_pos c3] at H
 have c3b0 : ((l0.length : Int) == (l1.length : Int)) = true := beq_iff_eq.mpr c3
 have c3b1 : ((l0.length : Int) != (l1.length : Int)) = false := bne_eq_false_iff_eq.mpr c3
 have c3b2 : (l0.length == l1.length) = true := by first | simpa using c3 | (simp at c3 ⊢; omega)
 clear c3
 have H' := zK H
 clear H
 go_enter Try.func68, Try.ntmps68
 go_wp2
 go_loopg [5] k (fun kq v5 w' => ∃ (x5_1 : Int), v5 = .int .i64 x5_1 ∧ Aside0 (laws_eqSlotS.l0 kq l0 l1 x5_1 = some r) ∧ Aside0 (kq ≤ k) ∧ Aside0 (Below w.heap.size w w'))
 case atStart => exact ⟨(0), (by first | rfl | (simp; done) | (simp [*]; done)), H', ⟨Nat.le_refl _⟩, ⟨by exact qB HB.out⟩⟩
 case round =>
  clear H'
  try clear c1
  try clear p2
  try clear c3
  try clear c3b0
  try clear c3b1
  try clear c3b2
  obtain ⟨x5_1, rfl, HA, HK1, HB⟩ := hrel
  cases gk with
  | zero => exact absurd HA.out (by simp [laws_eqSlotS.l0])
  | succ k1 =>
   have H := HA.out
   clear HA
   simp only [laws_eqSlotS.l0] at H
   by_cases c4 : x5_1 < (l0.length : Int)
   rotate_left
   ·rw [if_neg c4] at H
    have c4b0 : decide (x5_1 < (l0.length : Int)) = false := decide_eq_false c4
    clear c4
    obtain rfl := Option.some.inj H
    go_wp2
    go_ret
    exact ⟨by first | rfl | (simp [errW_none, errW_some] <;> rfl) | (simp [*, errW_none, errW_some] <;> rfl), by exact qB HB.out⟩
   rw [if_pos c4] at H
   have c4b0 : decide (x5_1 < (l0.length : Int)) = true := decide_eq_true c4
   clear c4
   by_cases c5 : 0 ≤ x5_1
   rotate_left
   ·rw [if_neg c5] at H
    exact absurd H (by simp)
   rw [if_pos c5] at H
   have c5b0 : decide (0 ≤ x5_1) = true := decide_eq_true c5
   clear c5
   by_cases c6 : x5_1 < (l1.length : Int)
   rotate_left
   ·rw [if_neg c6] at H
    exact absurd H (by simp)
   rw [if_pos c6] at H
   have c6b0 : decide (x5_1 < (l1.length : Int)) = true := decide_eq_true c6
   clear c6
   replace H := Option.bind_eq_some_iff.mp H
   obtain ⟨t380, A70, H⟩ := H
   replace H : (if t380 = true then (laws_eqSlotS.l0 k1 l0 l1 (wrap64 (x5_1 + 1))) else (some false)) = some r := H
   have A7 := zK A70
   clear A70
   by_cases c8 : t380 = true
   rotate_left
   ·replace c8 := Bool.eq_false_iff.mpr c8
    subst c8
    have H1 : (some false) = some r := by rw [if_neg (show ¬ (false = true) by decide)] at H; exact H
    clear H
    have H := H1
    clear H1
    obtain rfl := Option.some.inj H
    try go_wp2
    have n0_ := zK (b1 HB.out)
    clear HB
    have HB := n0_
    clear n0_
    have p378 : 0 ≤ (x5_1 : Int) := oD (by first | (with_reducible assumption) | assumption)
    have q378 : x5_1 < (l0.length : Int) := oD (by first | (with_reducible assumption) | assumption)
    obtain ⟨ad378, e378, hx378_0, hx378_1, hx378_2⟩ := at_T154 HR0.out x5_1 p378 q378
    have hw378_2 := hx378_2
    have hw378_1 := hx378_1
    have hw378_0 := hx378_0
    cases e378
    replace hx378_0 := (HB.out.cell (bL w hx378_0)).trans hx378_0
    replace hx378_1 := (HB.out.cell (bL w hx378_1)).trans hx378_1
    replace hx378_2 := (HB.out.cell (bL w hx378_2)).trans hx378_2
    replace p378 := eq_true p378
    replace q378 := eq_true q378
    have p379 : 0 ≤ (x5_1 : Int) := oD (by first | (with_reducible assumption) | assumption)
    have q379 : x5_1 < (l1.length : Int) := oD (by first | (with_reducible assumption) | assumption)
    obtain ⟨ad379, e379, hx379_0, hx379_1, hx379_2⟩ := at_T154 HR1.out x5_1 p379 q379
    have hw379_2 := hx379_2
    have hw379_1 := hx379_1
    have hw379_0 := hx379_0
    cases e379
    replace hx379_0 := (HB.out.cell (bL w hx379_0)).trans hx379_0
    replace hx379_1 := (HB.out.cell (bL w hx379_1)).trans hx379_1
    replace hx379_2 := (HB.out.cell (bL w hx379_2)).trans hx379_2
    replace p379 := eq_true p379
    replace q379 := eq_true q379
    refine start_ (n := 10) (S := fun w' => w'.cell? (ad378.add ((x5_1).toNat * 3)) = some (.int .i64 ((rd_T154 l0 x5_1).f0)) ∧ w'.cell? ⟨(ad378.add ((x5_1).toNat * 3)).block, (ad378.add ((x5_1).toNat * 3)).off + 1, none⟩ = some (.int .i64 ((rd_T154 l0 x5_1).f1)) ∧ w'.cell? ⟨(ad378.add ((x5_1).toNat * 3)).block, (ad378.add ((x5_1).toNat * 3)).off + 2, none⟩ = some (.int .i64 ((rd_T154 l0 x5_1).f2)) ∧ w'.cell? (ad379.add ((x5_1).toNat * 3)) = some (.int .i64 ((rd_T154 l1 x5_1).f0)) ∧ w'.cell? ⟨(ad379.add ((x5_1).toNat * 3)).block, (ad379.add ((x5_1).toNat * 3)).off + 1, none⟩ = some (.int .i64 ((rd_T154 l1 x5_1).f1)) ∧ w'.cell? ⟨(ad379.add ((x5_1).toNat * 3)).block, (ad379.add ((x5_1).toNat * 3)).off + 2, none⟩ = some (.int .i64 ((rd_T154 l1 x5_1).f2))) (ds := []) b16A0 (by kernel_rfl) rfl rfl ⟨((HB.out.cell (bL w hw378_0)).trans hw378_0), ((HB.out.cell (bL w hw378_1)).trans hw378_1), ((HB.out.cell (bL w hw378_2)).trans hw378_2), ((HB.out.cell (bL w hw379_0)).trans hw379_0), ((HB.out.cell (bL w hw379_1)).trans hw379_1), ((HB.out.cell (bL w hw379_2)).trans hw379_2)⟩ (fun hHeld => ?_); refine with_tabW laws_eqSlotS.tab6 laws_eqSlotS.bits6 (fun HT_ HW_ => ?_)
    generalize wr.drew = w11 at HB hx378_0 hx378_1 hx378_2 hx379_0 hx379_1 hx379_2 hHeld ⊢
    refine pI 0 (some 17) b16A1 HT_ ?_
    refine pI 1 (some 18) b16A2 HT_ ?_
    refine pI 2 (some 19) b16A3 HT_ ?_
    refine pI 4 (some 21) b16A4 HT_ ?_
    refine pI 5 (some 22) b16A5 HT_ ?_
    refine pI 6 (some 23) b16A6 HT_ ?_
    refine tI 3 (some 20) b16A7 HT_ HW_ hHeld rfl rfl (Or.inl ⟨by rfl, by rintro w' ⟨s0, s1, s2, s3, s4, s5⟩; go_simp; with_reducible rfl⟩) ?_
    refine tI 7 (some 24) b16A8 HT_ HW_ hHeld rfl rfl (Or.inl ⟨by rfl, by rintro w' ⟨s0, s1, s2, s3, s4, s5⟩; go_simp; with_reducible rfl⟩) ?_
    refine one_ (i := 8) (N := some 25) b16A9 rfl rfl (one_of HT_.out (by kernel_rfl)) (by decide) (fun K hK => ?_)
    refine goes_ Try.func125 (by kernel_rfl) rfl #[.agg #[.int .i64 ((rd_T154 l0 x5_1).f0), .int .i64 ((rd_T154 l0 x5_1).f1), .int .i64 ((rd_T154 l0 x5_1).f2)], .agg #[.int .i64 ((rd_T154 l1 x5_1).f0), .int .i64 ((rd_T154 l1 x5_1).f1), .int .i64 ((rd_T154 l1 x5_1).f2)]] (by rfl) rfl rfl (by (try simp only [List.map_toArray, List.map_cons, List.map_nil]); first | done | rfl | (simp only [List.length_drop, List.length_take]; rfl)) ?_
    with_reducible refine (laws_eqSlot.calls ((rd_T154 l0 x5_1).f0) ((rd_T154 l0 x5_1).f1) ((rd_T154 l0 x5_1).f2) ((rd_T154 l1 x5_1).f0) ((rd_T154 l1 x5_1).f1) ((rd_T154 l1 x5_1).f2) false _ A7.out).mono ?_
    rintro e w12 ⟨rfl, hb⟩
    refine ⟨_, rfl, ?_⟩
    have n0_ := zK (bT (qB HB.out) hb)
    clear HB
    have HB := n0_
    clear n0_
    (try clear hb)
    (try clear hb2)
    (try clear hk)
    (try clear hi)
    refine hK.out _ _ ⟨((HB.out.cell (bL w hw378_0)).trans hw378_0), ((HB.out.cell (bL w hw378_1)).trans hw378_1), ((HB.out.cell (bL w hw378_2)).trans hw378_2), ((HB.out.cell (bL w hw379_0)).trans hw379_0), ((HB.out.cell (bL w hw379_1)).trans hw379_1), ((HB.out.cell (bL w hw379_2)).trans hw379_2)⟩ (fun hHeld => ?_)
    clear hK K
    refine norm_ (a' := ?_) ?_ ?_
    rotate_left
    ·show Act.put _ (some 25) _ = _
     simp only [Act.put, sA, sZ, sS, i64_w, i32_w]
     rfl
    refine pI 9 (some 26) b16A10 HT_ ?_
    refine done_ (done_of HT_.out (by kernel_rfl)) ?_
    try go_wp2
    go_ret
    exact ⟨by first | rfl | (simp [errW_none, errW_some] <;> rfl) | (simp [*, errW_none, errW_some] <;> rfl), by exact qB HB.out⟩
   subst c8
   have H1 : (laws_eqSlotS.l0 k1 l0 l1 (wrap64 (x5_1 + 1))) = some r := by rw [if_pos rfl] at H; exact H
   clear H
   have H := H1
   clear H1
   have H' := zK H
   clear H
   try go_wp2
   have n0_ := zK (b1 HB.out)
   clear HB
   have HB := n0_
   clear n0_
   have p378 : 0 ≤ (x5_1 : Int) := oD (by first | (with_reducible assumption) | assumption)
   have q378 : x5_1 < (l0.length : Int) := oD (by first | (with_reducible assumption) | assumption)
   obtain ⟨ad378, e378, hx378_0, hx378_1, hx378_2⟩ := at_T154 HR0.out x5_1 p378 q378
   have hw378_2 := hx378_2
   have hw378_1 := hx378_1
   have hw378_0 := hx378_0
   cases e378
   replace hx378_0 := (HB.out.cell (bL w hx378_0)).trans hx378_0
   replace hx378_1 := (HB.out.cell (bL w hx378_1)).trans hx378_1
   replace hx378_2 := (HB.out.cell (bL w hx378_2)).trans hx378_2
   replace p378 := eq_true p378
   replace q378 := eq_true q378
   have p379 : 0 ≤ (x5_1 : Int) := oD (by first | (with_reducible assumption) | assumption)
   have q379 : x5_1 < (l1.length : Int) := oD (by first | (with_reducible assumption) | assumption)
   obtain ⟨ad379, e379, hx379_0, hx379_1, hx379_2⟩ := at_T154 HR1.out x5_1 p379 q379
   have hw379_2 := hx379_2
   have hw379_1 := hx379_1
   have hw379_0 := hx379_0
   cases e379
   replace hx379_0 := (HB.out.cell (bL w hx379_0)).trans hx379_0
   replace hx379_1 := (HB.out.cell (bL w hx379_1)).trans hx379_1
   replace hx379_2 := (HB.out.cell (bL w hx379_2)).trans hx379_2
   replace p379 := eq_true p379
   replace q379 := eq_true q379
   refine start_ (n := 10) (S := fun w' => w'.cell? (ad378.add ((x5_1).toNat * 3)) = some (.int .i64 ((rd_T154 l0 x5_1).f0)) ∧ w'.cell? ⟨(ad378.add ((x5_1).toNat * 3)).block, (ad378.add ((x5_1).toNat * 3)).off + 1, none⟩ = some (.int .i64 ((rd_T154 l0 x5_1).f1)) ∧ w'.cell? ⟨(ad378.add ((x5_1).toNat * 3)).block, (ad378.add ((x5_1).toNat * 3)).off + 2, none⟩ = some (.int .i64 ((rd_T154 l0 x5_1).f2)) ∧ w'.cell? (ad379.add ((x5_1).toNat * 3)) = some (.int .i64 ((rd_T154 l1 x5_1).f0)) ∧ w'.cell? ⟨(ad379.add ((x5_1).toNat * 3)).block, (ad379.add ((x5_1).toNat * 3)).off + 1, none⟩ = some (.int .i64 ((rd_T154 l1 x5_1).f1)) ∧ w'.cell? ⟨(ad379.add ((x5_1).toNat * 3)).block, (ad379.add ((x5_1).toNat * 3)).off + 2, none⟩ = some (.int .i64 ((rd_T154 l1 x5_1).f2))) (ds := []) b16A0 (by kernel_rfl) rfl rfl ⟨((HB.out.cell (bL w hw378_0)).trans hw378_0), ((HB.out.cell (bL w hw378_1)).trans hw378_1), ((HB.out.cell (bL w hw378_2)).trans hw378_2), ((HB.out.cell (bL w hw379_0)).trans hw379_0), ((HB.out.cell (bL w hw379_1)).trans hw379_1), ((HB.out.cell (bL w hw379_2)).trans hw379_2)⟩ (fun hHeld => ?_); refine with_tabW laws_eqSlotS.tab6 laws_eqSlotS.bits6 (fun HT_ HW_ => ?_)
   generalize wr.drew = w9 at HB hx378_0 hx378_1 hx378_2 hx379_0 hx379_1 hx379_2 hHeld ⊢
   refine pI 0 (some 17) b16A1 HT_ ?_
   refine pI 1 (some 18) b16A2 HT_ ?_
   refine pI 2 (some 19) b16A3 HT_ ?_
   refine pI 4 (some 21) b16A4 HT_ ?_
   refine pI 5 (some 22) b16A5 HT_ ?_
   refine pI 6 (some 23) b16A6 HT_ ?_
   refine tI 3 (some 20) b16A7 HT_ HW_ hHeld rfl rfl (Or.inl ⟨by rfl, by rintro w' ⟨s0, s1, s2, s3, s4, s5⟩; go_simp; with_reducible rfl⟩) ?_
   refine tI 7 (some 24) b16A8 HT_ HW_ hHeld rfl rfl (Or.inl ⟨by rfl, by rintro w' ⟨s0, s1, s2, s3, s4, s5⟩; go_simp; with_reducible rfl⟩) ?_
   refine one_ (i := 8) (N := some 25) b16A9 rfl rfl (one_of HT_.out (by kernel_rfl)) (by decide) (fun K hK => ?_)
   refine goes_ Try.func125 (by kernel_rfl) rfl #[.agg #[.int .i64 ((rd_T154 l0 x5_1).f0), .int .i64 ((rd_T154 l0 x5_1).f1), .int .i64 ((rd_T154 l0 x5_1).f2)], .agg #[.int .i64 ((rd_T154 l1 x5_1).f0), .int .i64 ((rd_T154 l1 x5_1).f1), .int .i64 ((rd_T154 l1 x5_1).f2)]] (by rfl) rfl rfl (by (try simp only [List.map_toArray, List.map_cons, List.map_nil]); first | done | rfl | (simp only [List.length_drop, List.length_take]; rfl)) ?_
   with_reducible refine (laws_eqSlot.calls ((rd_T154 l0 x5_1).f0) ((rd_T154 l0 x5_1).f1) ((rd_T154 l0 x5_1).f2) ((rd_T154 l1 x5_1).f0) ((rd_T154 l1 x5_1).f1) ((rd_T154 l1 x5_1).f2) true _ A7.out).mono ?_
   rintro e w10 ⟨rfl, hb⟩
   refine ⟨_, rfl, ?_⟩
   have n0_ := zK (bT (qB HB.out) hb)
   clear HB
   have HB := n0_
   clear n0_
   (try clear hb)
   (try clear hb2)
   (try clear hk)
   (try clear hi)
   refine hK.out _ _ ⟨((HB.out.cell (bL w hw378_0)).trans hw378_0), ((HB.out.cell (bL w hw378_1)).trans hw378_1), ((HB.out.cell (bL w hw378_2)).trans hw378_2), ((HB.out.cell (bL w hw379_0)).trans hw379_0), ((HB.out.cell (bL w hw379_1)).trans hw379_1), ((HB.out.cell (bL w hw379_2)).trans hw379_2)⟩ (fun hHeld => ?_)
   clear hK K
   refine norm_ (a' := ?_) ?_ ?_
   rotate_left
   ·show Act.put _ (some 25) _ = _
    simp only [Act.put, sA, sZ, sS, i64_w, i32_w]
    rfl
   refine pI 9 (some 26) b16A10 HT_ ?_
   refine done_ (done_of HT_.out (by kernel_rfl)) ?_
   try go_wp2
   go_roundg k1
   case measure => have := HK1.out; omega
   case rel => exact ⟨(wrap64 (x5_1 + 1)), (by first | rfl | (simp; done) | (simp [*]; done)), H', ⟨by have := HK1.out; omega⟩, ⟨by exact qB HB.out⟩⟩
/-! ### laws_eqThing: function 126 -/
def laws_eqThing.f (a0_0 : Int) (a0_1 : Int) (a0_2 : Int) (a0_3 : Int) (a0_4 : Int) (a1_0 : Int) (a1_1 : Int) (a1_2 : Int) (a1_3 : Int) (a1_4 : Int) : Option (Bool) := if a0_0 = a1_0 then (if a0_1 = a1_1 then (if a0_2 = a1_2 then (if a0_3 = a1_3 then (if a0_4 = a1_4 then (some true) else (some false)) else (some false)) else (some false)) else (some false)) else (some false)
set_option maxHeartbeats 8000000 in
set_option maxRecDepth 100000 in
theorem laws_eqThing.calls (a0_0 : Int) (a0_1 : Int) (a0_2 : Int) (a0_3 : Int) (a0_4 : Int) (a1_0 : Int) (a1_1 : Int) (a1_2 : Int) (a1_3 : Int) (a1_4 : Int) (r : Bool) (w : World) (h : laws_eqThing.f a0_0 a0_1 a0_2 a0_3 a0_4 a1_0 a1_1 a1_2 a1_3 a1_4 = some r) :
  Calls Try.prog 126 #[.agg #[.int .i64 a0_0, .int .i64 a0_1, .int .i64 a0_2, .int .i64 a0_3, .int .i64 a0_4], .agg #[.int .i64 a1_0, .int .i64 a1_1, .int .i64 a1_2, .int .i64 a1_3, .int .i64 a1_4]] w fun e w' => e = .returned (.bool r) ∧ Below w.heap.size w w' := by
 have hu111 := Try.underlying111
 have HB := zK (Below.refl w.heap.size w)
 have H : (if a0_0 = a1_0 then (if a0_1 = a1_1 then (if a0_2 = a1_2 then (if a0_3 = a1_3 then (if a0_4 = a1_4 then (some true) else (some false)) else (some false)) else (some false)) else (some false)) else (some false)) = some r := h
 clear h
 by_cases c3 : a0_0 = a1_0
 rotate_left
 ·rw [if_neg c3] at H
  have c3b0 : (a0_0 == a1_0) = false := beq_eq_false_iff_ne.mpr c3
  have c3b1 : (a0_0 != a1_0) = true := bne_iff_ne.mpr c3
  obtain rfl := Option.some.inj H
  go_enter Try.func126, Try.ntmps126
  go_wp2_with (first | ((with_reducible refine gate_dst (N := 2) rfl ?_); refine box_event ?hg (N := 2) ?hd (cs := #[.int .i64 a0_0, .int .i64 a0_1, .int .i64 a0_2, .int .i64 a0_3, .int .i64 a0_4]) (t := 111) ?hr ?_; (case hd => rfl); (case hg => rfl); (case hr => first | (go_simp; done) | (go_simp; rfl)); intro gb381 hg w33 hbox hb; have n0_ := zK (bT (qB HB.out) hb); have n1_ := zK (hbox); have n2_ := zK ((by rw [hg]; exact (bZ (qB HB.out)) : w.heap.size ≤ gb381)); have n3_ := zK ((by rw [hg]; exact (bZ (qB HB.out)) : w.heap.size ≤ gb381)); clear HB; have HB := n0_; have BK381 := n1_; have GW381 := n2_; have GE381 := n3_; clear n0_ n1_ n2_ n3_; clear hb hbox hg) | ((with_reducible refine gate_dst (N := 3) rfl ?_); refine box_event ?hg (N := 3) ?hd (cs := #[.int .i64 a1_0, .int .i64 a1_1, .int .i64 a1_2, .int .i64 a1_3, .int .i64 a1_4]) (t := 111) ?hr ?_; (case hd => rfl); (case hg => rfl); (case hr => first | (go_simp; done) | (go_simp; rfl)); intro gb382 hg w34 hbox hb; have n0_ := zK (bB (g := gb381) (o := .cells #[.int .i64 a0_0, .int .i64 a0_1, .int .i64 a0_2, .int .i64 a0_3, .int .i64 a0_4] 111 (0, 0)) (qK BK381.out) hb); have n1_ := zK (bT (by repeat (first | (with_reducible first | exact HB.out | apply bA | apply bN | apply b1 | refine bS ?_ GE381.out) | exact HB.out)) hb); have n2_ := zK (hbox); have n3_ := zK ((by rw [hg]; exact (bZ (by repeat (first | (with_reducible first | exact HB.out | apply bA | apply bN | apply b1 | refine bS ?_ GE381.out) | exact HB.out))) : w.heap.size ≤ gb382)); have n4_ := zK ((by rw [hg]; exact (bZ (by repeat (first | (with_reducible first | exact HB.out | apply bA | apply bN | apply b1 | refine bS ?_ GE381.out) | exact HB.out))) : w.heap.size ≤ gb382)); have n5_ := zK ((by rw [hg]; exact Nat.ne_of_lt (blk_lt (g := gb381) (o := .cells #[.int .i64 a0_0, .int .i64 a0_1, .int .i64 a0_2, .int .i64 a0_3, .int .i64 a0_4] 111 (0, 0)) (qK BK381.out)) : gb381 ≠ gb382)); have n6_ := zK ((by rw [hg]; exact Nat.ne_of_gt (blk_lt (g := gb381) (o := .cells #[.int .i64 a0_0, .int .i64 a0_1, .int .i64 a0_2, .int .i64 a0_3, .int .i64 a0_4] 111 (0, 0)) (qK BK381.out)) : gb382 ≠ gb381)); clear BK381; clear HB; have BK381 := n0_; have HB := n1_; have BK382 := n2_; have GW382 := n3_; have GE382 := n4_; have NB381_382 := n5_; have NB382_381 := n6_; clear n0_ n1_ n2_ n3_ n4_ n5_ n6_; clear hb hbox hg; have hnb35 := NB381_382.out; have hnc35 := NB382_381.out; have hcz36_0 : w34.cell? ⟨gb381, 0, none⟩ = some (.int .i64 a0_0) := (bc BK381.out 0).trans rfl; have hcz36_1 : w34.cell? ⟨gb381, 1, none⟩ = some (.int .i64 a0_1) := (bc BK381.out 1).trans rfl; have hcz36_2 : w34.cell? ⟨gb381, 2, none⟩ = some (.int .i64 a0_2) := (bc BK381.out 2).trans rfl; have hcz36_3 : w34.cell? ⟨gb381, 3, none⟩ = some (.int .i64 a0_3) := (bc BK381.out 3).trans rfl; have hcz36_4 : w34.cell? ⟨gb381, 4, none⟩ = some (.int .i64 a0_4) := (bc BK381.out 4).trans rfl; have hfz36_0 := bf BK381.out 0; have hfz36_1 := bf BK381.out 1; have hfz36_2 := bf BK381.out 2; have hfz36_3 := bf BK381.out 3; have hfz36_4 := bf BK381.out 4; have hcz37_0 : w34.cell? ⟨gb382, 0, none⟩ = some (.int .i64 a1_0) := (bc BK382.out 0).trans rfl; have hcz37_1 : w34.cell? ⟨gb382, 1, none⟩ = some (.int .i64 a1_1) := (bc BK382.out 1).trans rfl; have hcz37_2 : w34.cell? ⟨gb382, 2, none⟩ = some (.int .i64 a1_2) := (bc BK382.out 2).trans rfl; have hcz37_3 : w34.cell? ⟨gb382, 3, none⟩ = some (.int .i64 a1_3) := (bc BK382.out 3).trans rfl; have hcz37_4 : w34.cell? ⟨gb382, 4, none⟩ = some (.int .i64 a1_4) := (bc BK382.out 4).trans rfl; have hfz37_0 := bf BK382.out 0; have hfz37_1 := bf BK382.out 1; have hfz37_2 := bf BK382.out 2; have hfz37_3 := bf BK382.out 3; have hfz37_4 := bf BK382.out 4))
  go_ret
  exact ⟨by first | rfl | (simp [errW_none, errW_some] <;> rfl) | (simp [*, errW_none, errW_some] <;> rfl), by repeat (first | (with_reducible first | exact HB.out | apply bA | apply bN | apply b1 | refine bS ?_ GE381.out | refine bS ?_ GE382.out) | exact HB.out)⟩
 rw [if_pos c3] at H
 have c3b0 : (a0_0 == a1_0) = true := beq_iff_eq.mpr c3
 have c3b1 : (a0_0 != a1_0) = false := bne_eq_false_iff_eq.mpr c3
 clear c3
 by_cases c4 : a0_1 = a1_1
 rotate_left
 ·rw [if_neg c4] at H
  have c4b0 : (a0_1 == a1_1) = false := beq_eq_false_iff_ne.mpr c4
  have c4b1 : (a0_1 != a1_1) = true := bne_iff_ne.mpr c4
  obtain rfl := Option.some.inj H
  go_enter Try.func126, Try.ntmps126
  go_wp2_with (first | ((with_reducible refine gate_dst (N := 2) rfl ?_); refine box_event ?hg (N := 2) ?hd (cs := #[.int .i64 a0_0, .int .i64 a0_1, .int .i64 a0_2, .int .i64 a0_3, .int .i64 a0_4]) (t := 111) ?hr ?_; (case hd => rfl); (case hg => rfl); (case hr => first | (go_simp; done) | (go_simp; rfl)); intro gb381 hg w28 hbox hb; have n0_ := zK (bT (qB HB.out) hb); have n1_ := zK (hbox); have n2_ := zK ((by rw [hg]; exact (bZ (qB HB.out)) : w.heap.size ≤ gb381)); have n3_ := zK ((by rw [hg]; exact (bZ (qB HB.out)) : w.heap.size ≤ gb381)); clear HB; have HB := n0_; have BK381 := n1_; have GW381 := n2_; have GE381 := n3_; clear n0_ n1_ n2_ n3_; clear hb hbox hg) | ((with_reducible refine gate_dst (N := 3) rfl ?_); refine box_event ?hg (N := 3) ?hd (cs := #[.int .i64 a1_0, .int .i64 a1_1, .int .i64 a1_2, .int .i64 a1_3, .int .i64 a1_4]) (t := 111) ?hr ?_; (case hd => rfl); (case hg => rfl); (case hr => first | (go_simp; done) | (go_simp; rfl)); intro gb382 hg w29 hbox hb; have n0_ := zK (bB (g := gb381) (o := .cells #[.int .i64 a0_0, .int .i64 a0_1, .int .i64 a0_2, .int .i64 a0_3, .int .i64 a0_4] 111 (0, 0)) (qK BK381.out) hb); have n1_ := zK (bT (by repeat (first | (with_reducible first | exact HB.out | apply bA | apply bN | apply b1 | refine bS ?_ GE381.out) | exact HB.out)) hb); have n2_ := zK (hbox); have n3_ := zK ((by rw [hg]; exact (bZ (by repeat (first | (with_reducible first | exact HB.out | apply bA | apply bN | apply b1 | refine bS ?_ GE381.out) | exact HB.out))) : w.heap.size ≤ gb382)); have n4_ := zK ((by rw [hg]; exact (bZ (by repeat (first | (with_reducible first | exact HB.out | apply bA | apply bN | apply b1 | refine bS ?_ GE381.out) | exact HB.out))) : w.heap.size ≤ gb382)); have n5_ := zK ((by rw [hg]; exact Nat.ne_of_lt (blk_lt (g := gb381) (o := .cells #[.int .i64 a0_0, .int .i64 a0_1, .int .i64 a0_2, .int .i64 a0_3, .int .i64 a0_4] 111 (0, 0)) (qK BK381.out)) : gb381 ≠ gb382)); have n6_ := zK ((by rw [hg]; exact Nat.ne_of_gt (blk_lt (g := gb381) (o := .cells #[.int .i64 a0_0, .int .i64 a0_1, .int .i64 a0_2, .int .i64 a0_3, .int .i64 a0_4] 111 (0, 0)) (qK BK381.out)) : gb382 ≠ gb381)); clear BK381; clear HB; have BK381 := n0_; have HB := n1_; have BK382 := n2_; have GW382 := n3_; have GE382 := n4_; have NB381_382 := n5_; have NB382_381 := n6_; clear n0_ n1_ n2_ n3_ n4_ n5_ n6_; clear hb hbox hg; have hnb30 := NB381_382.out; have hnc30 := NB382_381.out; have hcz31_0 : w29.cell? ⟨gb381, 0, none⟩ = some (.int .i64 a0_0) := (bc BK381.out 0).trans rfl; have hcz31_1 : w29.cell? ⟨gb381, 1, none⟩ = some (.int .i64 a0_1) := (bc BK381.out 1).trans rfl; have hcz31_2 : w29.cell? ⟨gb381, 2, none⟩ = some (.int .i64 a0_2) := (bc BK381.out 2).trans rfl; have hcz31_3 : w29.cell? ⟨gb381, 3, none⟩ = some (.int .i64 a0_3) := (bc BK381.out 3).trans rfl; have hcz31_4 : w29.cell? ⟨gb381, 4, none⟩ = some (.int .i64 a0_4) := (bc BK381.out 4).trans rfl; have hfz31_0 := bf BK381.out 0; have hfz31_1 := bf BK381.out 1; have hfz31_2 := bf BK381.out 2; have hfz31_3 := bf BK381.out 3; have hfz31_4 := bf BK381.out 4; have hcz32_0 : w29.cell? ⟨gb382, 0, none⟩ = some (.int .i64 a1_0) := (bc BK382.out 0).trans rfl; have hcz32_1 : w29.cell? ⟨gb382, 1, none⟩ = some (.int .i64 a1_1) := (bc BK382.out 1).trans rfl; have hcz32_2 : w29.cell? ⟨gb382, 2, none⟩ = some (.int .i64 a1_2) := (bc BK382.out 2).trans rfl; have hcz32_3 : w29.cell? ⟨gb382, 3, none⟩ = some (.int .i64 a1_3) := (bc BK382.out 3).trans rfl; have hcz32_4 : w29.cell? ⟨gb382, 4, none⟩ = some (.int .i64 a1_4) := (bc BK382.out 4).trans rfl; have hfz32_0 := bf BK382.out 0; have hfz32_1 := bf BK382.out 1; have hfz32_2 := bf BK382.out 2; have hfz32_3 := bf BK382.out 3; have hfz32_4 := bf BK382.out 4))
  go_ret
  exact ⟨by first | rfl | (simp [errW_none, errW_some] <;> rfl) | (simp [*, errW_none, errW_some] <;> rfl), by repeat (first | (with_reducible first | exact HB.out | apply bA | apply bN | apply b1 | refine bS ?_ GE381.out | refine bS ?_ GE382.out) | exact HB.out)⟩
 rw [if_pos c4] at H
 have c4b0 : (a0_1 == a1_1) = true := beq_iff_eq.mpr c4
 have c4b1 : (a0_1 != a1_1) = false := bne_eq_false_iff_eq.mpr c4
 clear c4
 by_cases c5 : a0_2 = a1_2
 rotate_left
 ·rw [if_neg c5] at H
  have c5b0 : (a0_2 == a1_2) = false := beq_eq_false_iff_ne.mpr c5
  have c5b1 : (a0_2 != a1_2) = true := bne_iff_ne.mpr c5
  obtain rfl := Option.some.inj H
  go_enter Try.func126, Try.ntmps126
  go_wp2_with (first | ((with_reducible refine gate_dst (N := 2) rfl ?_); refine box_event ?hg (N := 2) ?hd (cs := #[.int .i64 a0_0, .int .i64 a0_1, .int .i64 a0_2, .int .i64 a0_3, .int .i64 a0_4]) (t := 111) ?hr ?_; (case hd => rfl); (case hg => rfl); (case hr => first | (go_simp; done) | (go_simp; rfl)); intro gb381 hg w23 hbox hb; have n0_ := zK (bT (qB HB.out) hb); have n1_ := zK (hbox); have n2_ := zK ((by rw [hg]; exact (bZ (qB HB.out)) : w.heap.size ≤ gb381)); have n3_ := zK ((by rw [hg]; exact (bZ (qB HB.out)) : w.heap.size ≤ gb381)); clear HB; have HB := n0_; have BK381 := n1_; have GW381 := n2_; have GE381 := n3_; clear n0_ n1_ n2_ n3_; clear hb hbox hg) | ((with_reducible refine gate_dst (N := 3) rfl ?_); refine box_event ?hg (N := 3) ?hd (cs := #[.int .i64 a1_0, .int .i64 a1_1, .int .i64 a1_2, .int .i64 a1_3, .int .i64 a1_4]) (t := 111) ?hr ?_; (case hd => rfl); (case hg => rfl); (case hr => first | (go_simp; done) | (go_simp; rfl)); intro gb382 hg w24 hbox hb; have n0_ := zK (bB (g := gb381) (o := .cells #[.int .i64 a0_0, .int .i64 a0_1, .int .i64 a0_2, .int .i64 a0_3, .int .i64 a0_4] 111 (0, 0)) (qK BK381.out) hb); have n1_ := zK (bT (by repeat (first | (with_reducible first | exact HB.out | apply bA | apply bN | apply b1 | refine bS ?_ GE381.out) | exact HB.out)) hb); have n2_ := zK (hbox); have n3_ := zK ((by rw [hg]; exact (bZ (by repeat (first | (with_reducible first | exact HB.out | apply bA | apply bN | apply b1 | refine bS ?_ GE381.out) | exact HB.out))) : w.heap.size ≤ gb382)); have n4_ := zK ((by rw [hg]; exact (bZ (by repeat (first | (with_reducible first | exact HB.out | apply bA | apply bN | apply b1 | refine bS ?_ GE381.out) | exact HB.out))) : w.heap.size ≤ gb382)); have n5_ := zK ((by rw [hg]; exact Nat.ne_of_lt (blk_lt (g := gb381) (o := .cells #[.int .i64 a0_0, .int .i64 a0_1, .int .i64 a0_2, .int .i64 a0_3, .int .i64 a0_4] 111 (0, 0)) (qK BK381.out)) : gb381 ≠ gb382)); have n6_ := zK ((by rw [hg]; exact Nat.ne_of_gt (blk_lt (g := gb381) (o := .cells #[.int .i64 a0_0, .int .i64 a0_1, .int .i64 a0_2, .int .i64 a0_3, .int .i64 a0_4] 111 (0, 0)) (qK BK381.out)) : gb382 ≠ gb381)); clear BK381; clear HB; have BK381 := n0_; have HB := n1_; have BK382 := n2_; have GW382 := n3_; have GE382 := n4_; have NB381_382 := n5_; have NB382_381 := n6_; clear n0_ n1_ n2_ n3_ n4_ n5_ n6_; clear hb hbox hg; have hnb25 := NB381_382.out; have hnc25 := NB382_381.out; have hcz26_0 : w24.cell? ⟨gb381, 0, none⟩ = some (.int .i64 a0_0) := (bc BK381.out 0).trans rfl; have hcz26_1 : w24.cell? ⟨gb381, 1, none⟩ = some (.int .i64 a0_1) := (bc BK381.out 1).trans rfl; have hcz26_2 : w24.cell? ⟨gb381, 2, none⟩ = some (.int .i64 a0_2) := (bc BK381.out 2).trans rfl; have hcz26_3 : w24.cell? ⟨gb381, 3, none⟩ = some (.int .i64 a0_3) := (bc BK381.out 3).trans rfl; have hcz26_4 : w24.cell? ⟨gb381, 4, none⟩ = some (.int .i64 a0_4) := (bc BK381.out 4).trans rfl; have hfz26_0 := bf BK381.out 0; have hfz26_1 := bf BK381.out 1; have hfz26_2 := bf BK381.out 2; have hfz26_3 := bf BK381.out 3; have hfz26_4 := bf BK381.out 4; have hcz27_0 : w24.cell? ⟨gb382, 0, none⟩ = some (.int .i64 a1_0) := (bc BK382.out 0).trans rfl; have hcz27_1 : w24.cell? ⟨gb382, 1, none⟩ = some (.int .i64 a1_1) := (bc BK382.out 1).trans rfl; have hcz27_2 : w24.cell? ⟨gb382, 2, none⟩ = some (.int .i64 a1_2) := (bc BK382.out 2).trans rfl; have hcz27_3 : w24.cell? ⟨gb382, 3, none⟩ = some (.int .i64 a1_3) := (bc BK382.out 3).trans rfl; have hcz27_4 : w24.cell? ⟨gb382, 4, none⟩ = some (.int .i64 a1_4) := (bc BK382.out 4).trans rfl; have hfz27_0 := bf BK382.out 0; have hfz27_1 := bf BK382.out 1; have hfz27_2 := bf BK382.out 2; have hfz27_3 := bf BK382.out 3; have hfz27_4 := bf BK382.out 4))
  go_ret
  exact ⟨by first | rfl | (simp [errW_none, errW_some] <;> rfl) | (simp [*, errW_none, errW_some] <;> rfl), by repeat (first | (with_reducible first | exact HB.out | apply bA | apply bN | apply b1 | refine bS ?_ GE381.out | refine bS ?_ GE382.out) | exact HB.out)⟩
 rw [if_pos c5] at H
 have c5b0 : (a0_2 == a1_2) = true := beq_iff_eq.mpr c5
 have c5b1 : (a0_2 != a1_2) = false := bne_eq_false_iff_eq.mpr c5
 clear c5
 by_cases c6 : a0_3 = a1_3
 rotate_left
 ·rw [if_neg c6] at H
  have c6b0 : (a0_3 == a1_3) = false := beq_eq_false_iff_ne.mpr c6
  have c6b1 : (a0_3 != a1_3) = true := bne_iff_ne.mpr c6
  obtain rfl := Option.some.inj H
  go_enter Try.func126, Try.ntmps126
  go_wp2_with (first | ((with_reducible refine gate_dst (N := 2) rfl ?_); refine box_event ?hg (N := 2) ?hd (cs := #[.int .i64 a0_0, .int .i64 a0_1, .int .i64 a0_2, .int .i64 a0_3, .int .i64 a0_4]) (t := 111) ?hr ?_; (case hd => rfl); (case hg => rfl); (case hr => first | (go_simp; done) | (go_simp; rfl)); intro gb381 hg w18 hbox hb; have n0_ := zK (bT (qB HB.out) hb); have n1_ := zK (hbox); have n2_ := zK ((by rw [hg]; exact (bZ (qB HB.out)) : w.heap.size ≤ gb381)); have n3_ := zK ((by rw [hg]; exact (bZ (qB HB.out)) : w.heap.size ≤ gb381)); clear HB; have HB := n0_; have BK381 := n1_; have GW381 := n2_; have GE381 := n3_; clear n0_ n1_ n2_ n3_; clear hb hbox hg) | ((with_reducible refine gate_dst (N := 3) rfl ?_); refine box_event ?hg (N := 3) ?hd (cs := #[.int .i64 a1_0, .int .i64 a1_1, .int .i64 a1_2, .int .i64 a1_3, .int .i64 a1_4]) (t := 111) ?hr ?_; (case hd => rfl); (case hg => rfl); (case hr => first | (go_simp; done) | (go_simp; rfl)); intro gb382 hg w19 hbox hb; have n0_ := zK (bB (g := gb381) (o := .cells #[.int .i64 a0_0, .int .i64 a0_1, .int .i64 a0_2, .int .i64 a0_3, .int .i64 a0_4] 111 (0, 0)) (qK BK381.out) hb); have n1_ := zK (bT (by repeat (first | (with_reducible first | exact HB.out | apply bA | apply bN | apply b1 | refine bS ?_ GE381.out) | exact HB.out)) hb); have n2_ := zK (hbox); have n3_ := zK ((by rw [hg]; exact (bZ (by repeat (first | (with_reducible first | exact HB.out | apply bA | apply bN | apply b1 | refine bS ?_ GE381.out) | exact HB.out))) : w.heap.size ≤ gb382)); have n4_ := zK ((by rw [hg]; exact (bZ (by repeat (first | (with_reducible first | exact HB.out | apply bA | apply bN | apply b1 | refine bS ?_ GE381.out) | exact HB.out))) : w.heap.size ≤ gb382)); have n5_ := zK ((by rw [hg]; exact Nat.ne_of_lt (blk_lt (g := gb381) (o := .cells #[.int .i64 a0_0, .int .i64 a0_1, .int .i64 a0_2, .int .i64 a0_3, .int .i64 a0_4] 111 (0, 0)) (qK BK381.out)) : gb381 ≠ gb382)); have n6_ := zK ((by rw [hg]; exact Nat.ne_of_gt (blk_lt (g := gb381) (o := .cells #[.int .i64 a0_0, .int .i64 a0_1, .int .i64 a0_2, .int .i64 a0_3, .int .i64 a0_4] 111 (0, 0)) (qK BK381.out)) : gb382 ≠ gb381)); clear BK381; clear HB; have BK381 := n0_; have HB := n1_; have BK382 := n2_; have GW382 := n3_; have GE382 := n4_; have NB381_382 := n5_; have NB382_381 := n6_; clear n0_ n1_ n2_ n3_ n4_ n5_ n6_; clear hb hbox hg; have hnb20 := NB381_382.out; have hnc20 := NB382_381.out; have hcz21_0 : w19.cell? ⟨gb381, 0, none⟩ = some (.int .i64 a0_0) := (bc BK381.out 0).trans rfl; have hcz21_1 : w19.cell? ⟨gb381, 1, none⟩ = some (.int .i64 a0_1) := (bc BK381.out 1).trans rfl; have hcz21_2 : w19.cell? ⟨gb381, 2, none⟩ = some (.int .i64 a0_2) := (bc BK381.out 2).trans rfl; have hcz21_3 : w19.cell? ⟨gb381, 3, none⟩ = some (.int .i64 a0_3) := (bc BK381.out 3).trans rfl; have hcz21_4 : w19.cell? ⟨gb381, 4, none⟩ = some (.int .i64 a0_4) := (bc BK381.out 4).trans rfl; have hfz21_0 := bf BK381.out 0; have hfz21_1 := bf BK381.out 1; have hfz21_2 := bf BK381.out 2; have hfz21_3 := bf BK381.out 3; have hfz21_4 := bf BK381.out 4; have hcz22_0 : w19.cell? ⟨gb382, 0, none⟩ = some (.int .i64 a1_0) := (bc BK382.out 0).trans rfl; have hcz22_1 : w19.cell? ⟨gb382, 1, none⟩ = some (.int .i64 a1_1) := (bc BK382.out 1).trans rfl; have hcz22_2 : w19.cell? ⟨gb382, 2, none⟩ = some (.int .i64 a1_2) := (bc BK382.out 2).trans rfl; have hcz22_3 : w19.cell? ⟨gb382, 3, none⟩ = some (.int .i64 a1_3) := (bc BK382.out 3).trans rfl; have hcz22_4 : w19.cell? ⟨gb382, 4, none⟩ = some (.int .i64 a1_4) := (bc BK382.out 4).trans rfl; have hfz22_0 := bf BK382.out 0; have hfz22_1 := bf BK382.out 1; have hfz22_2 := bf BK382.out 2; have hfz22_3 := bf BK382.out 3; have hfz22_4 := bf BK382.out 4))
  go_ret
  exact ⟨by first | rfl | (simp [errW_none, errW_some] <;> rfl) | (simp [*, errW_none, errW_some] <;> rfl), by repeat (first | (with_reducible first | exact HB.out | apply bA | apply bN | apply b1 | refine bS ?_ GE381.out | refine bS ?_ GE382.out) | exact HB.out)⟩
 rw [if_pos c6] at H
 have c6b0 : (a0_3 == a1_3) = true := beq_iff_eq.mpr c6
 have c6b1 : (a0_3 != a1_3) = false := bne_eq_false_iff_eq.mpr c6
 clear c6
 by_cases c7 : a0_4 = a1_4
 rotate_left
 ·rw [if_neg c7] at H
  have c7b0 : (a0_4 == a1_4) = false := beq_eq_false_iff_ne.mpr c7
  have c7b1 : (a0_4 != a1_4) = true := bne_iff_ne.mpr c7
  obtain rfl := Option.some.inj H
  go_enter Try.func126, Try.ntmps126
  go_wp2_with (first | ((with_reducible refine gate_dst (N := 2) rfl ?_); refine box_event ?hg (N := 2) ?hd (cs := #[.int .i64 a0_0, .int .i64 a0_1, .int .i64 a0_2, .int .i64 a0_3, .int .i64 a0_4]) (t := 111) ?hr ?_; (case hd => rfl); (case hg => rfl); (case hr => first | (go_simp; done) | (go_simp; rfl)); intro gb381 hg w13 hbox hb; have n0_ := zK (bT (qB HB.out) hb); have n1_ := zK (hbox); have n2_ := zK ((by rw [hg]; exact (bZ (qB HB.out)) : w.heap.size ≤ gb381)); have n3_ := zK ((by rw [hg]; exact (bZ (qB HB.out)) : w.heap.size ≤ gb381)); clear HB; have HB := n0_; have BK381 := n1_; have GW381 := n2_; have GE381 := n3_; clear n0_ n1_ n2_ n3_; clear hb hbox hg) | ((with_reducible refine gate_dst (N := 3) rfl ?_); refine box_event ?hg (N := 3) ?hd (cs := #[.int .i64 a1_0, .int .i64 a1_1, .int .i64 a1_2, .int .i64 a1_3, .int .i64 a1_4]) (t := 111) ?hr ?_; (case hd => rfl); (case hg => rfl); (case hr => first | (go_simp; done) | (go_simp; rfl)); intro gb382 hg w14 hbox hb; have n0_ := zK (bB (g := gb381) (o := .cells #[.int .i64 a0_0, .int .i64 a0_1, .int .i64 a0_2, .int .i64 a0_3, .int .i64 a0_4] 111 (0, 0)) (qK BK381.out) hb); have n1_ := zK (bT (by repeat (first | (with_reducible first | exact HB.out | apply bA | apply bN | apply b1 | refine bS ?_ GE381.out) | exact HB.out)) hb); have n2_ := zK (hbox); have n3_ := zK ((by rw [hg]; exact (bZ (by repeat (first | (with_reducible first | exact HB.out | apply bA | apply bN | apply b1 | refine bS ?_ GE381.out) | exact HB.out))) : w.heap.size ≤ gb382)); have n4_ := zK ((by rw [hg]; exact (bZ (by repeat (first | (with_reducible first | exact HB.out | apply bA | apply bN | apply b1 | refine bS ?_ GE381.out) | exact HB.out))) : w.heap.size ≤ gb382)); have n5_ := zK ((by rw [hg]; exact Nat.ne_of_lt (blk_lt (g := gb381) (o := .cells #[.int .i64 a0_0, .int .i64 a0_1, .int .i64 a0_2, .int .i64 a0_3, .int .i64 a0_4] 111 (0, 0)) (qK BK381.out)) : gb381 ≠ gb382)); have n6_ := zK ((by rw [hg]; exact Nat.ne_of_gt (blk_lt (g := gb381) (o := .cells #[.int .i64 a0_0, .int .i64 a0_1, .int .i64 a0_2, .int .i64 a0_3, .int .i64 a0_4] 111 (0, 0)) (qK BK381.out)) : gb382 ≠ gb381)); clear BK381; clear HB; have BK381 := n0_; have HB := n1_; have BK382 := n2_; have GW382 := n3_; have GE382 := n4_; have NB381_382 := n5_; have NB382_381 := n6_; clear n0_ n1_ n2_ n3_ n4_ n5_ n6_; clear hb hbox hg; have hnb15 := NB381_382.out; have hnc15 := NB382_381.out; have hcz16_0 : w14.cell? ⟨gb381, 0, none⟩ = some (.int .i64 a0_0) := (bc BK381.out 0).trans rfl; have hcz16_1 : w14.cell? ⟨gb381, 1, none⟩ = some (.int .i64 a0_1) := (bc BK381.out 1).trans rfl; have hcz16_2 : w14.cell? ⟨gb381, 2, none⟩ = some (.int .i64 a0_2) := (bc BK381.out 2).trans rfl; have hcz16_3 : w14.cell? ⟨gb381, 3, none⟩ = some (.int .i64 a0_3) := (bc BK381.out 3).trans rfl; have hcz16_4 : w14.cell? ⟨gb381, 4, none⟩ = some (.int .i64 a0_4) := (bc BK381.out 4).trans rfl; have hfz16_0 := bf BK381.out 0; have hfz16_1 := bf BK381.out 1; have hfz16_2 := bf BK381.out 2; have hfz16_3 := bf BK381.out 3; have hfz16_4 := bf BK381.out 4; have hcz17_0 : w14.cell? ⟨gb382, 0, none⟩ = some (.int .i64 a1_0) := (bc BK382.out 0).trans rfl; have hcz17_1 : w14.cell? ⟨gb382, 1, none⟩ = some (.int .i64 a1_1) := (bc BK382.out 1).trans rfl; have hcz17_2 : w14.cell? ⟨gb382, 2, none⟩ = some (.int .i64 a1_2) := (bc BK382.out 2).trans rfl; have hcz17_3 : w14.cell? ⟨gb382, 3, none⟩ = some (.int .i64 a1_3) := (bc BK382.out 3).trans rfl; have hcz17_4 : w14.cell? ⟨gb382, 4, none⟩ = some (.int .i64 a1_4) := (bc BK382.out 4).trans rfl; have hfz17_0 := bf BK382.out 0; have hfz17_1 := bf BK382.out 1; have hfz17_2 := bf BK382.out 2; have hfz17_3 := bf BK382.out 3; have hfz17_4 := bf BK382.out 4))
  go_ret
  exact ⟨by first | rfl | (simp [errW_none, errW_some] <;> rfl) | (simp [*, errW_none, errW_some] <;> rfl), by repeat (first | (with_reducible first | exact HB.out | apply bA | apply bN | apply b1 | refine bS ?_ GE381.out | refine bS ?_ GE382.out) | exact HB.out)⟩
 rw [if_pos c7] at H
 have c7b0 : (a0_4 == a1_4) = true := beq_iff_eq.mpr c7
 have c7b1 : (a0_4 != a1_4) = false := bne_eq_false_iff_eq.mpr c7
 clear c7
 obtain rfl := Option.some.inj H
 go_enter Try.func126, Try.ntmps126
 go_wp2_with (first | ((with_reducible refine gate_dst (N := 2) rfl ?_); refine box_event ?hg (N := 2) ?hd (cs := #[.int .i64 a0_0, .int .i64 a0_1, .int .i64 a0_2, .int .i64 a0_3, .int .i64 a0_4]) (t := 111) ?hr ?_; (case hd => rfl); (case hg => rfl); (case hr => first | (go_simp; done) | (go_simp; rfl)); intro gb381 hg w8 hbox hb; have n0_ := zK (bT (qB HB.out) hb); have n1_ := zK (hbox); have n2_ := zK ((by rw [hg]; exact (bZ (qB HB.out)) : w.heap.size ≤ gb381)); have n3_ := zK ((by rw [hg]; exact (bZ (qB HB.out)) : w.heap.size ≤ gb381)); clear HB; have HB := n0_; have BK381 := n1_; have GW381 := n2_; have GE381 := n3_; clear n0_ n1_ n2_ n3_; clear hb hbox hg) | ((with_reducible refine gate_dst (N := 3) rfl ?_); refine box_event ?hg (N := 3) ?hd (cs := #[.int .i64 a1_0, .int .i64 a1_1, .int .i64 a1_2, .int .i64 a1_3, .int .i64 a1_4]) (t := 111) ?hr ?_; (case hd => rfl); (case hg => rfl); (case hr => first | (go_simp; done) | (go_simp; rfl)); intro gb382 hg w9 hbox hb; have n0_ := zK (bB (g := gb381) (o := .cells #[.int .i64 a0_0, .int .i64 a0_1, .int .i64 a0_2, .int .i64 a0_3, .int .i64 a0_4] 111 (0, 0)) (qK BK381.out) hb); have n1_ := zK (bT (by repeat (first | (with_reducible first | exact HB.out | apply bA | apply bN | apply b1 | refine bS ?_ GE381.out) | exact HB.out)) hb); have n2_ := zK (hbox); have n3_ := zK ((by rw [hg]; exact (bZ (by repeat (first | (with_reducible first | exact HB.out | apply bA | apply bN | apply b1 | refine bS ?_ GE381.out) | exact HB.out))) : w.heap.size ≤ gb382)); have n4_ := zK ((by rw [hg]; exact (bZ (by repeat (first | (with_reducible first | exact HB.out | apply bA | apply bN | apply b1 | refine bS ?_ GE381.out) | exact HB.out))) : w.heap.size ≤ gb382)); have n5_ := zK ((by rw [hg]; exact Nat.ne_of_lt (blk_lt (g := gb381) (o := .cells #[.int .i64 a0_0, .int .i64 a0_1, .int .i64 a0_2, .int .i64 a0_3, .int .i64 a0_4] 111 (0, 0)) (qK BK381.out)) : gb381 ≠ gb382)); have n6_ := zK ((by rw [hg]; exact Nat.ne_of_gt (blk_lt (g := gb381) (o := .cells #[.int .i64 a0_0, .int .i64 a0_1, .int .i64 a0_2, .int .i64 a0_3, .int .i64 a0_4] 111 (0, 0)) (qK BK381.out)) : gb382 ≠ gb381)); clear BK381; clear HB; have BK381 := n0_; have HB := n1_; have BK382 := n2_; have GW382 := n3_; have GE382 := n4_; have NB381_382 := n5_; have NB382_381 := n6_; clear n0_ n1_ n2_ n3_ n4_ n5_ n6_; clear hb hbox hg; have hnb10 := NB381_382.out; have hnc10 := NB382_381.out; have hcz11_0 : w9.cell? ⟨gb381, 0, none⟩ = some (.int .i64 a0_0) := (bc BK381.out 0).trans rfl; have hcz11_1 : w9.cell? ⟨gb381, 1, none⟩ = some (.int .i64 a0_1) := (bc BK381.out 1).trans rfl; have hcz11_2 : w9.cell? ⟨gb381, 2, none⟩ = some (.int .i64 a0_2) := (bc BK381.out 2).trans rfl; have hcz11_3 : w9.cell? ⟨gb381, 3, none⟩ = some (.int .i64 a0_3) := (bc BK381.out 3).trans rfl; have hcz11_4 : w9.cell? ⟨gb381, 4, none⟩ = some (.int .i64 a0_4) := (bc BK381.out 4).trans rfl; have hfz11_0 := bf BK381.out 0; have hfz11_1 := bf BK381.out 1; have hfz11_2 := bf BK381.out 2; have hfz11_3 := bf BK381.out 3; have hfz11_4 := bf BK381.out 4; have hcz12_0 : w9.cell? ⟨gb382, 0, none⟩ = some (.int .i64 a1_0) := (bc BK382.out 0).trans rfl; have hcz12_1 : w9.cell? ⟨gb382, 1, none⟩ = some (.int .i64 a1_1) := (bc BK382.out 1).trans rfl; have hcz12_2 : w9.cell? ⟨gb382, 2, none⟩ = some (.int .i64 a1_2) := (bc BK382.out 2).trans rfl; have hcz12_3 : w9.cell? ⟨gb382, 3, none⟩ = some (.int .i64 a1_3) := (bc BK382.out 3).trans rfl; have hcz12_4 : w9.cell? ⟨gb382, 4, none⟩ = some (.int .i64 a1_4) := (bc BK382.out 4).trans rfl; have hfz12_0 := bf BK382.out 0; have hfz12_1 := bf BK382.out 1; have hfz12_2 := bf BK382.out 2; have hfz12_3 := bf BK382.out 3; have hfz12_4 := bf BK382.out 4))
 go_ret
 exact ⟨by first | rfl | (simp [errW_none, errW_some] <;> rfl) | (simp [*, errW_none, errW_some] <;> rfl), by repeat (first | (with_reducible first | exact HB.out | apply bA | apply bN | apply b1 | refine bS ?_ GE381.out | refine bS ?_ GE382.out) | exact HB.out)⟩
/-! ### laws_eqThingS: function 69 -/
def laws_eqThingS.l0 : Nat → List (S111) → List (S111) → Int → Option (Bool)
 | 0, _, _, _ => none
 | k + 1, x0, x1, x5 => if x5 < (x0.length : Int) then (if 0 ≤ x5 then (if x5 < (x1.length : Int) then ((laws_eqThing.f ((rd_T111 x0 x5).f0) ((rd_T111 x0 x5).f1) ((rd_T111 x0 x5).f2) ((rd_T111 x0 x5).f3) ((rd_T111 x0 x5).f4) ((rd_T111 x1 x5).f0) ((rd_T111 x1 x5).f1) ((rd_T111 x1 x5).f2) ((rd_T111 x1 x5).f3) ((rd_T111 x1 x5).f4)).bind fun t385 => (if t385 = true then (laws_eqThingS.l0 k x0 x1 (wrap64 (x5 + 1))) else (some false))) else (none)) else (none)) else (some true)
def laws_eqThingS.f (k : Nat) (l0 : List (S111)) (l1 : List (S111)) : Option (Bool) := if (l0.length : Int) = (l1.length : Int) then (laws_eqThingS.l0 k l0 l1 0) else (some false)
def laws_eqThingS.T6 : Bool × List (List Nat × List Nat) := (true, [([], []), ([], []), ([0, 1], [0, 1]), ([2], [2]), ([], []), ([], []), ([4, 5], [4, 5]), ([6], [6]), ([3, 7], [3, 7]), ([8], [8])])
def laws_eqThingS.B6 : List Nat := [0, 0, 3, 7, 0, 0, 48, 112, 255, 511]
theorem laws_eqThingS.tab6 : rtab .any (opsOf Try.f69 6) = laws_eqThingS.T6 := by kernel_rfl
theorem laws_eqThingS.bits6 : waitsOk laws_eqThingS.T6.2 laws_eqThingS.B6 = true := by kernel_rfl
set_option maxHeartbeats 8000000 in
set_option maxRecDepth 100000 in
theorem laws_eqThingS.calls (k : Nat) (A0 : Option Addr) (c0 : Nat) (l0 : List (S111)) (A1 : Option Addr) (c1 : Nat) (l1 : List (S111)) (r : Bool) (w : World) (hr0 : Kd.C k111 w A0 l0.length l0) (hc0 : l0.length ≤ c0) (hr1 : Kd.C k111 w A1 l1.length l1) (hc1 : l1.length ≤ c1) (h : laws_eqThingS.f k l0 l1 = some r) :
  Calls Try.prog 69 #[.slice A0 l0.length c0, .slice A1 l1.length c1] w fun e w' => e = .returned (.bool r) ∧ Below w.heap.size w w' := by
 have hu111 := Try.underlying111
 have HR0 := zK hr0
 have HC0 := zK hc0
 clear hr0 hc0
 have HR1 := zK hr1
 have HC1 := zK hc1
 clear hr1 hc1
 have HB := zK (Below.refl w.heap.size w)
 have H : (if (l0.length : Int) = (l1.length : Int) then (laws_eqThingS.l0 k l0 l1 0) else (some false)) = some r := h
 clear h
 by_cases c3 : (l0.length : Int) = (l1.length : Int)
 rotate_left
 ·rw [if_neg c3] at H
  have c3b0 : ((l0.length : Int) == (l1.length : Int)) = false := beq_eq_false_iff_ne.mpr c3
  have c3b1 : ((l0.length : Int) != (l1.length : Int)) = true := bne_iff_ne.mpr c3
  have c3b2 : (l0.length == l1.length) = false := by first | simpa using c3 | (simp at c3 ⊢; omega)
  obtain rfl := Option.some.inj H
  go_enter Try.func69, Try.ntmps69
  go_wp2
  go_ret
  exact ⟨by first | rfl | (simp [errW_none, errW_some] <;> rfl) | (simp [*, errW_none, errW_some] <;> rfl), by exact qB HB.out⟩

 rw [if_pos c3] at H
 have c3b0 : ((l0.length : Int) == (l1.length : Int)) = true := beq_iff_eq.mpr c3
 have c3b1 : ((l0.length : Int) != (l1.length : Int)) = false := bne_eq_false_iff_eq.mpr c3
 have c3b2 : (l0.length == l1.length) = true := by first | simpa using c3 | (simp at c3 ⊢; omega)
 clear c3
 have H' := zK H
 clear H
 go_enter Try.func69, Try.ntmps69
 go_wp2
 go_loopg [5] k (fun kq v5 w' => ∃ (x5_1 : Int), v5 = .int .i64 x5_1 ∧ Aside0 (laws_eqThingS.l0 kq l0 l1 x5_1 = some r) ∧ Aside0 (kq ≤ k) ∧ Aside0 (Below w.heap.size w w'))
 case atStart => exact ⟨(0), (by first | rfl | (simp; done) | (simp [*]; done)), H', ⟨Nat.le_refl _⟩, ⟨by exact qB HB.out⟩⟩
 case round =>
  clear H'
  try clear c1
  try clear p2
  try clear c3
  try clear c3b0
  try clear c3b1
  try clear c3b2
  obtain ⟨x5_1, rfl, HA, HK1, HB⟩ := hrel
  cases gk with
  | zero => exact absurd HA.out (by simp [laws_eqThingS.l0])
  | succ k1 =>
   have H := HA.out
   clear HA
   simp only [laws_eqThingS.l0] at H
   by_cases c4 : x5_1 < (l0.length : Int)
   rotate_left
   ·rw [if_neg c4] at H
    have c4b0 : decide (x5_1 < (l0.length : Int)) = false := decide_eq_false c4
    clear c4
    obtain rfl := Option.some.inj H
    go_wp2
    go_ret
    exact ⟨by first | rfl | (simp [errW_none, errW_some] <;> rfl) | (simp [*, errW_none, errW_some] <;> rfl), by exact qB HB.out⟩
   rw [if_pos c4] at H
   have c4b0 : decide (x5_1 < (l0.length : Int)) = true := decide_eq_true c4
   clear c4
   by_cases c5 : 0 ≤ x5_1
   rotate_left
   ·rw [if_neg c5] at H
    exact absurd H (by simp)
   rw [if_pos c5] at H
   have c5b0 : decide (0 ≤ x5_1) = true := decide_eq_true c5
   clear c5
   by_cases c6 : x5_1 < (l1.length : Int)
   rotate_left
   ·rw [if_neg c6] at H
    exact absurd H (by simp)
   rw [if_pos c6] at H
   have c6b0 : decide (x5_1 < (l1.length : Int)) = true := decide_eq_true c6
   clear c6
   replace H := Option.bind_eq_some_iff.mp H
   obtain ⟨t385, A70, H⟩ := H
   replace H : (if t385 = true then (laws_eqThingS.l0 k1 l0 l1 (wrap64 (x5_1 + 1))) else (some false)) = some r := H
   have A7 := zK A70
   clear A70
   by_cases c8 : t385 = true
   rotate_left
   ·replace c8 := Bool.eq_false_iff.mpr c8
    subst c8
    have H1 : (some false) = some r := by rw [if_neg (show ¬ (false = true) by decide)] at H; exact H
    clear H
    have H := H1
    clear H1
    obtain rfl := Option.some.inj H
    try go_wp2
    have n0_ := zK (b1 HB.out)
    clear HB
    have HB := n0_
    clear n0_
    have p383 : 0 ≤ (x5_1 : Int) := oD (by first | (with_reducible assumption) | assumption)
    have q383 : x5_1 < (l0.length : Int) := oD (by first | (with_reducible assumption) | assumption)
    obtain ⟨ad383, e383, hx383_0, hx383_1, hx383_2, hx383_3, hx383_4⟩ := at_T111 HR0.out x5_1 p383 q383
    have hw383_4 := hx383_4
    have hw383_3 := hx383_3
    have hw383_2 := hx383_2
    have hw383_1 := hx383_1
    have hw383_0 := hx383_0
    cases e383
    replace hx383_0 := (HB.out.cell (bL w hx383_0)).trans hx383_0
    replace hx383_1 := (HB.out.cell (bL w hx383_1)).trans hx383_1
    replace hx383_2 := (HB.out.cell (bL w hx383_2)).trans hx383_2
    replace hx383_3 := (HB.out.cell (bL w hx383_3)).trans hx383_3
    replace hx383_4 := (HB.out.cell (bL w hx383_4)).trans hx383_4
    replace p383 := eq_true p383
    replace q383 := eq_true q383
    have p384 : 0 ≤ (x5_1 : Int) := oD (by first | (with_reducible assumption) | assumption)
    have q384 : x5_1 < (l1.length : Int) := oD (by first | (with_reducible assumption) | assumption)
    obtain ⟨ad384, e384, hx384_0, hx384_1, hx384_2, hx384_3, hx384_4⟩ := at_T111 HR1.out x5_1 p384 q384
    have hw384_4 := hx384_4
    have hw384_3 := hx384_3
    have hw384_2 := hx384_2
    have hw384_1 := hx384_1
    have hw384_0 := hx384_0
    cases e384
    replace hx384_0 := (HB.out.cell (bL w hx384_0)).trans hx384_0
    replace hx384_1 := (HB.out.cell (bL w hx384_1)).trans hx384_1
    replace hx384_2 := (HB.out.cell (bL w hx384_2)).trans hx384_2
    replace hx384_3 := (HB.out.cell (bL w hx384_3)).trans hx384_3
    replace hx384_4 := (HB.out.cell (bL w hx384_4)).trans hx384_4
    replace p384 := eq_true p384
    replace q384 := eq_true q384
    refine start_ (n := 10) (S := fun w' => w'.cell? (ad383.add ((x5_1).toNat * 5)) = some (.int .i64 ((rd_T111 l0 x5_1).f0)) ∧ w'.cell? ⟨(ad383.add ((x5_1).toNat * 5)).block, (ad383.add ((x5_1).toNat * 5)).off + 1, none⟩ = some (.int .i64 ((rd_T111 l0 x5_1).f1)) ∧ w'.cell? ⟨(ad383.add ((x5_1).toNat * 5)).block, (ad383.add ((x5_1).toNat * 5)).off + 2, none⟩ = some (.int .i64 ((rd_T111 l0 x5_1).f2)) ∧ w'.cell? ⟨(ad383.add ((x5_1).toNat * 5)).block, (ad383.add ((x5_1).toNat * 5)).off + 3, none⟩ = some (.int .i64 ((rd_T111 l0 x5_1).f3)) ∧ w'.cell? ⟨(ad383.add ((x5_1).toNat * 5)).block, (ad383.add ((x5_1).toNat * 5)).off + 4, none⟩ = some (.int .i64 ((rd_T111 l0 x5_1).f4)) ∧ w'.cell? (ad384.add ((x5_1).toNat * 5)) = some (.int .i64 ((rd_T111 l1 x5_1).f0)) ∧ w'.cell? ⟨(ad384.add ((x5_1).toNat * 5)).block, (ad384.add ((x5_1).toNat * 5)).off + 1, none⟩ = some (.int .i64 ((rd_T111 l1 x5_1).f1)) ∧ w'.cell? ⟨(ad384.add ((x5_1).toNat * 5)).block, (ad384.add ((x5_1).toNat * 5)).off + 2, none⟩ = some (.int .i64 ((rd_T111 l1 x5_1).f2)) ∧ w'.cell? ⟨(ad384.add ((x5_1).toNat * 5)).block, (ad384.add ((x5_1).toNat * 5)).off + 3, none⟩ = some (.int .i64 ((rd_T111 l1 x5_1).f3)) ∧ w'.cell? ⟨(ad384.add ((x5_1).toNat * 5)).block, (ad384.add ((x5_1).toNat * 5)).off + 4, none⟩ = some (.int .i64 ((rd_T111 l1 x5_1).f4))) (ds := []) b16A0 (by kernel_rfl) rfl rfl ⟨((HB.out.cell (bL w hw383_0)).trans hw383_0), ((HB.out.cell (bL w hw383_1)).trans hw383_1), ((HB.out.cell (bL w hw383_2)).trans hw383_2), ((HB.out.cell (bL w hw383_3)).trans hw383_3), ((HB.out.cell (bL w hw383_4)).trans hw383_4), ((HB.out.cell (bL w hw384_0)).trans hw384_0), ((HB.out.cell (bL w hw384_1)).trans hw384_1), ((HB.out.cell (bL w hw384_2)).trans hw384_2), ((HB.out.cell (bL w hw384_3)).trans hw384_3), ((HB.out.cell (bL w hw384_4)).trans hw384_4)⟩ (fun hHeld => ?_); refine with_tabW laws_eqThingS.tab6 laws_eqThingS.bits6 (fun HT_ HW_ => ?_)
    generalize wr.drew = w11 at HB hx383_0 hx383_1 hx383_2 hx383_3 hx383_4 hx384_0 hx384_1 hx384_2 hx384_3 hx384_4 hHeld ⊢
    refine pI 0 (some 17) b16A1 HT_ ?_
    refine pI 1 (some 18) b16A2 HT_ ?_
    refine pI 2 (some 19) b16A3 HT_ ?_
    refine pI 4 (some 21) b16A4 HT_ ?_
    refine pI 5 (some 22) b16A5 HT_ ?_
    refine pI 6 (some 23) b16A6 HT_ ?_
    refine tI 3 (some 20) b16A7 HT_ HW_ hHeld rfl rfl (Or.inl ⟨by rfl, by rintro w' ⟨s0, s1, s2, s3, s4, s5, s6, s7, s8, s9⟩; go_simp; with_reducible rfl⟩) ?_
    refine tI 7 (some 24) b16A8 HT_ HW_ hHeld rfl rfl (Or.inl ⟨by rfl, by rintro w' ⟨s0, s1, s2, s3, s4, s5, s6, s7, s8, s9⟩; go_simp; with_reducible rfl⟩) ?_
    refine one_ (i := 8) (N := some 25) b16A9 rfl rfl (one_of HT_.out (by kernel_rfl)) (by decide) (fun K hK => ?_)
    refine goes_ Try.func126 (by kernel_rfl) rfl #[.agg #[.int .i64 ((rd_T111 l0 x5_1).f0), .int .i64 ((rd_T111 l0 x5_1).f1), .int .i64 ((rd_T111 l0 x5_1).f2), .int .i64 ((rd_T111 l0 x5_1).f3), .int .i64 ((rd_T111 l0 x5_1).f4)], .agg #[.int .i64 ((rd_T111 l1 x5_1).f0), .int .i64 ((rd_T111 l1 x5_1).f1), .int .i64 ((rd_T111 l1 x5_1).f2), .int .i64 ((rd_T111 l1 x5_1).f3), .int .i64 ((rd_T111 l1 x5_1).f4)]] (by rfl) rfl rfl (by (try simp only [List.map_toArray, List.map_cons, List.map_nil]); first | done | rfl | (simp only [List.length_drop, List.length_take]; rfl)) ?_
    with_reducible refine (laws_eqThing.calls ((rd_T111 l0 x5_1).f0) ((rd_T111 l0 x5_1).f1) ((rd_T111 l0 x5_1).f2) ((rd_T111 l0 x5_1).f3) ((rd_T111 l0 x5_1).f4) ((rd_T111 l1 x5_1).f0) ((rd_T111 l1 x5_1).f1) ((rd_T111 l1 x5_1).f2) ((rd_T111 l1 x5_1).f3) ((rd_T111 l1 x5_1).f4) false _ A7.out).mono ?_
    rintro e w12 ⟨rfl, hb⟩
    refine ⟨_, rfl, ?_⟩
    have n0_ := zK (bT (qB HB.out) hb)
    clear HB
    have HB := n0_
    clear n0_
    (try clear hb)
    (try clear hb2)
    (try clear hk)
    (try clear hi)
    refine hK.out _ _ ⟨((HB.out.cell (bL w hw383_0)).trans hw383_0), ((HB.out.cell (bL w hw383_1)).trans hw383_1), ((HB.out.cell (bL w hw383_2)).trans hw383_2), ((HB.out.cell (bL w hw383_3)).trans hw383_3), ((HB.out.cell (bL w hw383_4)).trans hw383_4), ((HB.out.cell (bL w hw384_0)).trans hw384_0), ((HB.out.cell (bL w hw384_1)).trans hw384_1), ((HB.out.cell (bL w hw384_2)).trans hw384_2), ((HB.out.cell (bL w hw384_3)).trans hw384_3), ((HB.out.cell (bL w hw384_4)).trans hw384_4)⟩ (fun hHeld => ?_)
    clear hK K
    refine norm_ (a' := ?_) ?_ ?_
    rotate_left
    ·show Act.put _ (some 25) _ = _
     simp only [Act.put, sA, sZ, sS, i64_w, i32_w]
     rfl
    refine pI 9 (some 26) b16A10 HT_ ?_
    refine done_ (done_of HT_.out (by kernel_rfl)) ?_
    try go_wp2
    go_ret
    exact ⟨by first | rfl | (simp [errW_none, errW_some] <;> rfl) | (simp [*, errW_none, errW_some] <;> rfl), by exact qB HB.out⟩
   subst c8
   have H1 : (laws_eqThingS.l0 k1 l0 l1 (wrap64 (x5_1 + 1))) = some r := by rw [if_pos rfl] at H; exact H
   clear H
   have H := H1
   clear H1
   have H' := zK H
   clear H
   try go_wp2
   have n0_ := zK (b1 HB.out)
   clear HB
   have HB := n0_
   clear n0_
   have p383 : 0 ≤ (x5_1 : Int) := oD (by first | (with_reducible assumption) | assumption)
   have q383 : x5_1 < (l0.length : Int) := oD (by first | (with_reducible assumption) | assumption)
   obtain ⟨ad383, e383, hx383_0, hx383_1, hx383_2, hx383_3, hx383_4⟩ := at_T111 HR0.out x5_1 p383 q383
   have hw383_4 := hx383_4
   have hw383_3 := hx383_3
   have hw383_2 := hx383_2
   have hw383_1 := hx383_1
   have hw383_0 := hx383_0
   cases e383
   replace hx383_0 := (HB.out.cell (bL w hx383_0)).trans hx383_0
   replace hx383_1 := (HB.out.cell (bL w hx383_1)).trans hx383_1
   replace hx383_2 := (HB.out.cell (bL w hx383_2)).trans hx383_2
   replace hx383_3 := (HB.out.cell (bL w hx383_3)).trans hx383_3
   replace hx383_4 := (HB.out.cell (bL w hx383_4)).trans hx383_4
   replace p383 := eq_true p383
   replace q383 := eq_true q383
   have p384 : 0 ≤ (x5_1 : Int) := oD (by first | (with_reducible assumption) | assumption)
   have q384 : x5_1 < (l1.length : Int) := oD (by first | (with_reducible assumption) | assumption)
   obtain ⟨ad384, e384, hx384_0, hx384_1, hx384_2, hx384_3, hx384_4⟩ := at_T111 HR1.out x5_1 p384 q384
   have hw384_4 := hx384_4
   have hw384_3 := hx384_3
   have hw384_2 := hx384_2
   have hw384_1 := hx384_1
   have hw384_0 := hx384_0
   cases e384
   replace hx384_0 := (HB.out.cell (bL w hx384_0)).trans hx384_0
   replace hx384_1 := (HB.out.cell (bL w hx384_1)).trans hx384_1
   replace hx384_2 := (HB.out.cell (bL w hx384_2)).trans hx384_2
   replace hx384_3 := (HB.out.cell (bL w hx384_3)).trans hx384_3
   replace hx384_4 := (HB.out.cell (bL w hx384_4)).trans hx384_4
   replace p384 := eq_true p384
   replace q384 := eq_true q384
   refine start_ (n := 10) (S := fun w' => w'.cell? (ad383.add ((x5_1).toNat * 5)) = some (.int .i64 ((rd_T111 l0 x5_1).f0)) ∧ w'.cell? ⟨(ad383.add ((x5_1).toNat * 5)).block, (ad383.add ((x5_1).toNat * 5)).off + 1, none⟩ = some (.int .i64 ((rd_T111 l0 x5_1).f1)) ∧ w'.cell? ⟨(ad383.add ((x5_1).toNat * 5)).block, (ad383.add ((x5_1).toNat * 5)).off + 2, none⟩ = some (.int .i64 ((rd_T111 l0 x5_1).f2)) ∧ w'.cell? ⟨(ad383.add ((x5_1).toNat * 5)).block, (ad383.add ((x5_1).toNat * 5)).off + 3, none⟩ = some (.int .i64 ((rd_T111 l0 x5_1).f3)) ∧ w'.cell? ⟨(ad383.add ((x5_1).toNat * 5)).block, (ad383.add ((x5_1).toNat * 5)).off + 4, none⟩ = some (.int .i64 ((rd_T111 l0 x5_1).f4)) ∧ w'.cell? (ad384.add ((x5_1).toNat * 5)) = some (.int .i64 ((rd_T111 l1 x5_1).f0)) ∧ w'.cell? ⟨(ad384.add ((x5_1).toNat * 5)).block, (ad384.add ((x5_1).toNat * 5)).off + 1, none⟩ = some (.int .i64 ((rd_T111 l1 x5_1).f1)) ∧ w'.cell? ⟨(ad384.add ((x5_1).toNat * 5)).block, (ad384.add ((x5_1).toNat * 5)).off + 2, none⟩ = some (.int .i64 ((rd_T111 l1 x5_1).f2)) ∧ w'.cell? ⟨(ad384.add ((x5_1).toNat * 5)).block, (ad384.add ((x5_1).toNat * 5)).off + 3, none⟩ = some (.int .i64 ((rd_T111 l1 x5_1).f3)) ∧ w'.cell? ⟨(ad384.add ((x5_1).toNat * 5)).block, (ad384.add ((x5_1).toNat * 5)).off + 4, none⟩ = some (.int .i64 ((rd_T111 l1 x5_1).f4))) (ds := []) b16A0 (by kernel_rfl) rfl rfl ⟨((HB.out.cell (bL w hw383_0)).trans hw383_0), ((HB.out.cell (bL w hw383_1)).trans hw383_1), ((HB.out.cell (bL w hw383_2)).trans hw383_2), ((HB.out.cell (bL w hw383_3)).trans hw383_3), ((HB.out.cell (bL w hw383_4)).trans hw383_4), ((HB.out.cell (bL w hw384_0)).trans hw384_0), ((HB.out.cell (bL w hw384_1)).trans hw384_1), ((HB.out.cell (bL w hw384_2)).trans hw384_2), ((HB.out.cell (bL w hw384_3)).trans hw384_3), ((HB.out.cell (bL w hw384_4)).trans hw384_4)⟩ (fun hHeld => ?_); refine with_tabW laws_eqThingS.tab6 laws_eqThingS.bits6 (fun HT_ HW_ => ?_)
   generalize wr.drew = w9 at HB hx383_0 hx383_1 hx383_2 hx383_3 hx383_4 hx384_0 hx384_1 hx384_2 hx384_3 hx384_4 hHeld ⊢
   refine pI 0 (some 17) b16A1 HT_ ?_
   refine pI 1 (some 18) b16A2 HT_ ?_
   refine pI 2 (some 19) b16A3 HT_ ?_
   refine pI 4 (some 21) b16A4 HT_ ?_
   refine pI 5 (some 22) b16A5 HT_ ?_
   refine pI 6 (some 23) b16A6 HT_ ?_
   refine tI 3 (some 20) b16A7 HT_ HW_ hHeld rfl rfl (Or.inl ⟨by rfl, by rintro w' ⟨s0, s1, s2, s3, s4, s5, s6, s7, s8, s9⟩; go_simp; with_reducible rfl⟩) ?_
   refine tI 7 (some 24) b16A8 HT_ HW_ hHeld rfl rfl (Or.inl ⟨by rfl, by rintro w' ⟨s0, s1, s2, s3, s4, s5, s6, s7, s8, s9⟩; go_simp; with_reducible rfl⟩) ?_
   refine one_ (i := 8) (N := some 25) b16A9 rfl rfl (one_of HT_.out (by kernel_rfl)) (by decide) (fun K hK => ?_)
   refine goes_ Try.func126 (by kernel_rfl) rfl #[.agg #[.int .i64 ((rd_T111 l0 x5_1).f0), .int .i64 ((rd_T111 l0 x5_1).f1), .int .i64 ((rd_T111 l0 x5_1).f2), .int .i64 ((rd_T111 l0 x5_1).f3), .int .i64 ((rd_T111 l0 x5_1).f4)], .agg #[.int .i64 ((rd_T111 l1 x5_1).f0), .int .i64 ((rd_T111 l1 x5_1).f1), .int .i64 ((rd_T111 l1 x5_1).f2), .int .i64 ((rd_T111 l1 x5_1).f3), .int .i64 ((rd_T111 l1 x5_1).f4)]] (by rfl) rfl rfl (by (try simp only [List.map_toArray, List.map_cons, List.map_nil]); first | done | rfl | (simp only [List.length_drop, List.length_take]; rfl)) ?_
   with_reducible refine (laws_eqThing.calls ((rd_T111 l0 x5_1).f0) ((rd_T111 l0 x5_1).f1) ((rd_T111 l0 x5_1).f2) ((rd_T111 l0 x5_1).f3) ((rd_T111 l0 x5_1).f4) ((rd_T111 l1 x5_1).f0) ((rd_T111 l1 x5_1).f1) ((rd_T111 l1 x5_1).f2) ((rd_T111 l1 x5_1).f3) ((rd_T111 l1 x5_1).f4) true _ A7.out).mono ?_
   rintro e w10 ⟨rfl, hb⟩
   refine ⟨_, rfl, ?_⟩
   have n0_ := zK (bT (qB HB.out) hb)
   clear HB
   have HB := n0_
   clear n0_
   (try clear hb)
   (try clear hb2)
   (try clear hk)
   (try clear hi)
   refine hK.out _ _ ⟨((HB.out.cell (bL w hw383_0)).trans hw383_0), ((HB.out.cell (bL w hw383_1)).trans hw383_1), ((HB.out.cell (bL w hw383_2)).trans hw383_2), ((HB.out.cell (bL w hw383_3)).trans hw383_3), ((HB.out.cell (bL w hw383_4)).trans hw383_4), ((HB.out.cell (bL w hw384_0)).trans hw384_0), ((HB.out.cell (bL w hw384_1)).trans hw384_1), ((HB.out.cell (bL w hw384_2)).trans hw384_2), ((HB.out.cell (bL w hw384_3)).trans hw384_3), ((HB.out.cell (bL w hw384_4)).trans hw384_4)⟩ (fun hHeld => ?_)
   clear hK K
   refine norm_ (a' := ?_) ?_ ?_
   rotate_left
   ·show Act.put _ (some 25) _ = _
    simp only [Act.put, sA, sZ, sS, i64_w, i32_w]
    rfl
   refine pI 9 (some 26) b16A10 HT_ ?_
   refine done_ (done_of HT_.out (by kernel_rfl)) ?_
   try go_wp2
   go_roundg k1
   case measure => have := HK1.out; omega
   case rel => exact ⟨(wrap64 (x5_1 + 1)), (by first | rfl | (simp; done) | (simp [*]; done)), H', ⟨by have := HK1.out; omega⟩, ⟨by exact qB HB.out⟩⟩
end Go.Proofs.Ytejhjenlodclpaa.PFnExactTighten
