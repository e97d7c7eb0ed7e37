/- Walks of functions that FnExactSendAll reaches: written by a tool of the kit for this claim, then shortened by a program of ours. -/
import Derived.Test.YtejhjenlodclpaaPFnExactSendAllx0
import Derived.Test.YtejhjenlodclpaaPFnExactSendAllx14
/- narrow -/
namespace Go.Proofs.Ytejhjenlodclpaa.PFnExactSendAll
open Go.RowKit Go.Proofs.YtejhjenlodclpaaW.PrintWords Go.Proofs.YtejhjenlodclpaaW.PrintLast Go.Proofs.YtejhjenlodclpaaW.PrintMore
attribute [local go_sem] max2_int min2_int max_two min_two max_three min_three max_four min_four   -- for this text's walks alone
set_option linter.unusedVariables false
set_option linter.unusedSimpArgs false

abbrev b15A0 : Array Bool := #[bo, bo, bo, bo, bo, bo, bo, bo, bo, bo]
abbrev b15A1 : Array Bool := #[bi, bo, bo, bo, bo, bo, bo, bo, bo, bo]
abbrev b15A2 : Array Bool := #[bi, bi, bo, bo, bo, bo, bo, bo, bo, bo]
abbrev b15A3 : Array Bool := #[bi, bi, bi, bo, bo, bo, bo, bo, bo, bo]
abbrev b15A4 : Array Bool := #[bi, bi, bi, bo, bi, bo, bo, bo, bo, bo]
abbrev b15A5 : Array Bool := #[bi, bi, bi, bo, bi, bi, bo, bo, bo, bo]
abbrev b15A6 : Array Bool := #[bi, bi, bi, bo, bi, bi, bi, bo, bo, bo]
abbrev b15A7 : Array Bool := #[bi, bi, bi, bi, bi, bi, bi, bo, bo, bo]
abbrev b15A8 : Array Bool := #[bi, bi, bi, bi, bi, bi, bi, bi, bo, bo]
abbrev b15A9 : Array Bool := #[bi, bi, bi, bi, bi, bi, bi, bi, bi, bo]
abbrev b15A10 : Array Bool := #[bi, bi, bi, bi, bi, bi, bi, bi, bi, bi]
/-! ### laws_eqParcelS: function 60 -/
def laws_eqParcelS.l0 : Nat → List (S53) → List (S53) → Int → Option (Bool)
 | 0, _, _, _ => none
 | k + 1, x0, x1, x5 => if x5 < (x0.length : Int) then (if 0 ≤ x5 then (if x5 < (x1.length : Int) then ((laws_eqParcel.f k ((rd_T53 x0 x5).f0) ((rd_T53 x0 x5).f1) ((rd_T53 x0 x5).f2) ((rd_T53 x0 x5).f3) ((rd_T53 x1 x5).f0) ((rd_T53 x1 x5).f1) ((rd_T53 x1 x5).f2) ((rd_T53 x1 x5).f3)).bind fun t411 => (if t411 = true then (laws_eqParcelS.l0 k x0 x1 (wrap64 (x5 + 1))) else (some false))) else (none)) else (none)) else (some true)
def laws_eqParcelS.f (k : Nat) (l0 : List (S53)) (l1 : List (S53)) : Option (Bool) := if (l0.length : Int) = (l1.length : Int) then (laws_eqParcelS.l0 k l0 l1 0) else (some false)
def laws_eqParcelS.T6 : Bool × List (List Nat × List Nat) := (true, [([], []), ([], []), ([0, 1], [0, 1]), ([2], [2]), ([], []), ([], []), ([4, 5], [4, 5]), ([6], [6]), ([3, 7], [3, 7]), ([8], [8])])
def laws_eqParcelS.B6 : List Nat := [0, 0, 3, 7, 0, 0, 48, 112, 255, 511]
theorem laws_eqParcelS.tab6 : rtab .any (opsOf Try.f60 6) = laws_eqParcelS.T6 := by kernel_rfl
theorem laws_eqParcelS.bits6 : waitsOk laws_eqParcelS.T6.2 laws_eqParcelS.B6 = true := by kernel_rfl
set_option maxHeartbeats 8000000 in
set_option maxRecDepth 100000 in
theorem laws_eqParcelS.calls (k : Nat) (A0 : Option Addr) (c0 : Nat) (l0 : List (S53)) (A1 : Option Addr) (c1 : Nat) (l1 : List (S53)) (r : Bool) (w : World) (hr0 : Kd.C k53 w A0 l0.length l0) (hc0 : l0.length ≤ c0) (hr1 : Kd.C k53 w A1 l1.length l1) (hc1 : l1.length ≤ c1) (h : laws_eqParcelS.f k l0 l1 = some r) :
  Calls Try.prog 60 #[.slice A0 l0.length c0, .slice A1 l1.length c1] w fun e w' => e = .returned (.bool r) ∧ Below w.heap.size w w' := by
 have hu53 := Try.underlying53
 have HR0 := zK hr0
 have HC0 := zK hc0
 clear hr0 hc0
 have HR1 := zK hr1
 have HC1 := zK hc1
 clear hr1 hc1
 have HB := zK (Below.refl w.heap.size w)
 have H : (if (l0.length : Int) = (l1.length : Int) then (laws_eqParcelS.l0 k l0 l1 0) else (some false)) = some r := h
 clear h
 by_cases c3 : (l0.length : Int) = (l1.length : Int)
 rotate_left
 ·rw [if_neg c3] at H
  have c3b0 : ((l0.length : Int) == (l1.length : Int)) = false := beq_eq_false_iff_ne.mpr c3
  have c3b1 : ((l0.length : Int) != (l1.length : Int)) = true := bne_iff_ne.mpr c3
  have c3b2 : (l0.length == l1.length) = false := by first | simpa using c3 | (simp at c3 ⊢; omega)
  obtain rfl := Option.some.inj H
  go_enter Try.func60, Try.ntmps60
  go_wp2
  go_ret
  exact ⟨by first | rfl | (simp [errW_none, errW_some] <;> rfl) | (simp [*, errW_none, errW_some] <;> rfl), by exact qB HB.out⟩
 rw [if_pos c3] at H
 have c3b0 : ((l0.length : Int) == (l1.length : Int)) = true := beq_iff_eq.mpr c3
 have c3b1 : ((l0.length : Int) != (l1.length : Int)) = false := bne_eq_false_iff_eq.mpr c3
 have c3b2 : (l0.length == l1.length) = true := by first | simpa using c3 | (simp at c3 ⊢; omega)
 clear c3
 have H' := zK H
 clear H
 go_enter Try.func60, Try.ntmps60
 go_wp2
 go_loopg [5] k (fun kq v5 w' => ∃ (x5_1 : Int), v5 = .int .i64 x5_1 ∧ Aside0 (laws_eqParcelS.l0 kq l0 l1 x5_1 = some r) ∧ Aside0 (kq ≤ k) ∧ Aside0 (Below w.heap.size w w'))
 case atStart => exact ⟨(0), M3, H', ⟨Nat.le_refl _⟩, ⟨by exact qB HB.out⟩⟩
 case round =>
  clear H'
  try clear c1
  try clear p2
  try clear c3
  try clear c3b0
  try clear c3b1
  try clear c3b2
  obtain ⟨x5_1, rfl, HA, HK1, HB⟩ := hrel
  cases gk with
  | zero => exact absurd HA.out (by simp [laws_eqParcelS.l0])
  | succ k1 =>
   have H := HA.out
   clear HA
   simp only [laws_eqParcelS.l0] at H
   by_cases c4 : x5_1 < (l0.length : Int)
   rotate_left
   ·rw [if_neg c4] at H
    have c4b0 : decide (x5_1 < (l0.length : Int)) = false := decide_eq_false c4
    clear c4
    obtain rfl := Option.some.inj H
    go_wp2
    go_ret
    exact ⟨by first | rfl | (simp [errW_none, errW_some] <;> rfl) | (simp [*, errW_none, errW_some] <;> rfl), by exact qB HB.out⟩
   rw [if_pos c4] at H
   have c4b0 : decide (x5_1 < (l0.length : Int)) = true := decide_eq_true c4
   clear c4
   by_cases c5 : 0 ≤ x5_1
   rotate_left
   ·rw [if_neg c5] at H
    exact absurd H (by simp)
   rw [if_pos c5] at H
   have c5b0 : decide (0 ≤ x5_1) = true := decide_eq_true c5
   clear c5
   by_cases c6 : x5_1 < (l1.length : Int)
   rotate_left
   ·rw [if_neg c6] at H
    exact absurd H (by simp)
   rw [if_pos c6] at H
   have c6b0 : decide (x5_1 < (l1.length : Int)) = true := decide_eq_true c6
   clear c6
   replace H := Option.bind_eq_some_iff.mp H
   obtain ⟨t411, A70, H⟩ := H
   replace H : (if t411 = true then (laws_eqParcelS.l0 k1 l0 l1 (wrap64 (x5_1 + 1))) else (some false)) = some r := H
   have A7 := zK A70
   clear A70
   by_cases c8 : t411 = true
   rotate_left
   ·replace c8 := Bool.eq_false_iff.mpr c8
    subst c8
    have H1 : (some false) = some r := by rw [if_neg (show ¬ (false = true) by decide)] at H; exact H
    clear H
    have H := H1
    clear H1
    obtain rfl := Option.some.inj H
    try go_wp2
    have n0_ := zK (b1 HB.out)
    clear HB
    have HB := n0_
    clear n0_
    have p409 : 0 ≤ (x5_1 : Int) := oD M1
    have q409 : x5_1 < (l0.length : Int) := oD M1
    obtain ⟨ad409, A409_2, c409_2, e409, hx409_0, hx409_1, hx409_2, hx409_3, hl409_2, hi409_2⟩ := at_T53 HR0.out x5_1 p409 q409
    have hw409_3 := hx409_3
    have hw409_2 := hx409_2
    have hw409_1 := hx409_1
    have hw409_0 := hx409_0
    cases e409
    replace hx409_0 := (HB.out.cell (bL w hx409_0)).trans hx409_0
    replace hx409_1 := (HB.out.cell (bL w hx409_1)).trans hx409_1
    replace hx409_2 := (HB.out.cell (bL w hx409_2)).trans hx409_2
    replace hx409_3 := (HB.out.cell (bL w hx409_3)).trans hx409_3
    have HR409_2 := zK hi409_2
    have HC409_2 := zK hl409_2
    clear hi409_2 hl409_2
    replace p409 := eq_true p409
    replace q409 := eq_true q409
    have p410 : 0 ≤ (x5_1 : Int) := oD M1
    have q410 : x5_1 < (l1.length : Int) := oD M1
    obtain ⟨ad410, A410_2, c410_2, e410, hx410_0, hx410_1, hx410_2, hx410_3, hl410_2, hi410_2⟩ := at_T53 HR1.out x5_1 p410 q410
    have hw410_3 := hx410_3
    have hw410_2 := hx410_2
    have hw410_1 := hx410_1
    have hw410_0 := hx410_0
    cases e410
    replace hx410_0 := (HB.out.cell (bL w hx410_0)).trans hx410_0
    replace hx410_1 := (HB.out.cell (bL w hx410_1)).trans hx410_1
    replace hx410_2 := (HB.out.cell (bL w hx410_2)).trans hx410_2
    replace hx410_3 := (HB.out.cell (bL w hx410_3)).trans hx410_3
    have HR410_2 := zK hi410_2
    have HC410_2 := zK hl410_2
    clear hi410_2 hl410_2
    replace p410 := eq_true p410
    replace q410 := eq_true q410
    refine start_ (n := 10) (S := fun w' => w'.cell? (ad409.add ((x5_1).toNat * 4)) = some (.int .i64 ((rd_T53 l0 x5_1).f0)) ∧ w'.cell? ⟨(ad409.add ((x5_1).toNat * 4)).block, (ad409.add ((x5_1).toNat * 4)).off + 1, none⟩ = some (.int .i64 ((rd_T53 l0 x5_1).f1)) ∧ w'.cell? ⟨(ad409.add ((x5_1).toNat * 4)).block, (ad409.add ((x5_1).toNat * 4)).off + 2, none⟩ = some (.slice A409_2 ((rd_T53 l0 x5_1).f2).length c409_2) ∧ w'.cell? ⟨(ad409.add ((x5_1).toNat * 4)).block, (ad409.add ((x5_1).toNat * 4)).off + 3, none⟩ = some (.int .i64 ((rd_T53 l0 x5_1).f3)) ∧ w'.cell? (ad410.add ((x5_1).toNat * 4)) = some (.int .i64 ((rd_T53 l1 x5_1).f0)) ∧ w'.cell? ⟨(ad410.add ((x5_1).toNat * 4)).block, (ad410.add ((x5_1).toNat * 4)).off + 1, none⟩ = some (.int .i64 ((rd_T53 l1 x5_1).f1)) ∧ w'.cell? ⟨(ad410.add ((x5_1).toNat * 4)).block, (ad410.add ((x5_1).toNat * 4)).off + 2, none⟩ = some (.slice A410_2 ((rd_T53 l1 x5_1).f2).length c410_2) ∧ w'.cell? ⟨(ad410.add ((x5_1).toNat * 4)).block, (ad410.add ((x5_1).toNat * 4)).off + 3, none⟩ = some (.int .i64 ((rd_T53 l1 x5_1).f3))) (ds := []) b15A0 (by kernel_rfl) rfl rfl ⟨((HB.out.cell (bL w hw409_0)).trans hw409_0), ((HB.out.cell (bL w hw409_1)).trans hw409_1), ((HB.out.cell (bL w hw409_2)).trans hw409_2), ((HB.out.cell (bL w hw409_3)).trans hw409_3), ((HB.out.cell (bL w hw410_0)).trans hw410_0), ((HB.out.cell (bL w hw410_1)).trans hw410_1), ((HB.out.cell (bL w hw410_2)).trans hw410_2), ((HB.out.cell (bL w hw410_3)).trans hw410_3)⟩ (fun hHeld => ?_); refine with_tabW laws_eqParcelS.tab6 laws_eqParcelS.bits6 (fun HT_ HW_ => ?_)
    generalize wr.drew = w11 at HB HR409_2 HR410_2 hx409_0 hx409_1 hx409_2 hx409_3 hx410_0 hx410_1 hx410_2 hx410_3 hHeld ⊢
    refine pI 0 (some 17) b15A1 HT_ ?_
    refine pI 1 (some 18) b15A2 HT_ ?_
    refine pI 2 (some 19) b15A3 HT_ ?_
    refine pI 4 (some 21) b15A4 HT_ ?_
    refine pI 5 (some 22) b15A5 HT_ ?_
    refine pI 6 (some 23) b15A6 HT_ ?_
    refine tI 3 (some 20) b15A7 HT_ HW_ hHeld rfl rfl (Or.inl ⟨by rfl, by rintro w' ⟨s0, s1, s2, s3, s4, s5, s6, s7⟩; go_simp; with_reducible rfl⟩) ?_
    refine tI 7 (some 24) b15A8 HT_ HW_ hHeld rfl rfl (Or.inl ⟨by rfl, by rintro w' ⟨s0, s1, s2, s3, s4, s5, s6, s7⟩; go_simp; with_reducible rfl⟩) ?_
    refine one_ (i := 8) (N := some 25) b15A9 rfl rfl (one_of HT_.out (by kernel_rfl)) (by decide) (fun K hK => ?_)
    refine goes_ Try.func53 (by kernel_rfl) rfl #[.agg #[.int .i64 ((rd_T53 l0 x5_1).f0), .int .i64 ((rd_T53 l0 x5_1).f1), .slice A409_2 ((rd_T53 l0 x5_1).f2).length c409_2, .int .i64 ((rd_T53 l0 x5_1).f3)], .agg #[.int .i64 ((rd_T53 l1 x5_1).f0), .int .i64 ((rd_T53 l1 x5_1).f1), .slice A410_2 ((rd_T53 l1 x5_1).f2).length c410_2, .int .i64 ((rd_T53 l1 x5_1).f3)]] (by rfl) rfl rfl M0 ?_
    with_reducible refine (laws_eqParcel.calls k1 ((rd_T53 l0 x5_1).f0) ((rd_T53 l0 x5_1).f1) _ _ ((rd_T53 l0 x5_1).f2) ((rd_T53 l0 x5_1).f3) ((rd_T53 l1 x5_1).f0) ((rd_T53 l1 x5_1).f1) _ _ ((rd_T53 l1 x5_1).f2) ((rd_T53 l1 x5_1).f3) false _ ?side1 ?side2 ?side3 ?side4 A7.out).mono ?_
    (case side1 => exact Kd.qC (Kd.C_below HR409_2.out HB.out))
    (case side2 => exact HC409_2.out)
    (case side3 => exact Kd.qC (Kd.C_below HR410_2.out HB.out))
    (case side4 => exact HC410_2.out)
    rintro e w12 ⟨rfl, hb⟩
    refine ⟨_, rfl, ?_⟩
    have n0_ := zK (bT (qB HB.out) hb)
    clear HB
    have HB := n0_
    clear n0_
    (try clear hb)
    (try clear hb2)
    (try clear hk)
    (try clear hi)
    refine hK.out _ _ ⟨((HB.out.cell (bL w hw409_0)).trans hw409_0), ((HB.out.cell (bL w hw409_1)).trans hw409_1), ((HB.out.cell (bL w hw409_2)).trans hw409_2), ((HB.out.cell (bL w hw409_3)).trans hw409_3), ((HB.out.cell (bL w hw410_0)).trans hw410_0), ((HB.out.cell (bL w hw410_1)).trans hw410_1), ((HB.out.cell (bL w hw410_2)).trans hw410_2), ((HB.out.cell (bL w hw410_3)).trans hw410_3)⟩ (fun hHeld => ?_)
    clear hK K
    refine norm_ (a' := ?_) ?_ ?_
    rotate_left
    ·show Act.put _ (some 25) _ = _
     simp only [Act.put, sA, sZ, sS, i64_w, i32_w]
     rfl
    refine pI 9 (some 26) b15A10 HT_ ?_
    refine done_ (done_of HT_.out (by kernel_rfl)) ?_
    try go_wp2
    go_ret
    exact ⟨by first | rfl | (simp [errW_none, errW_some] <;> rfl) | (simp [*, errW_none, errW_some] <;> rfl), by exact qB HB.out⟩
   subst c8
   have H1 : (laws_eqParcelS.l0 k1 l0 l1 (wrap64 (x5_1 + 1))) = some r := by rw [if_pos rfl] at H; exact H
   clear H
   have H := H1
   clear H1
   have H' := zK H
   clear H
   try go_wp2
   have n0_ := zK (b1 HB.out)
   clear HB
   have HB := n0_
   clear n0_
   have p409 : 0 ≤ (x5_1 : Int) := oD M1
   have q409 : x5_1 < (l0.length : Int) := oD M1
   obtain ⟨ad409, A409_2, c409_2, e409, hx409_0, hx409_1, hx409_2, hx409_3, hl409_2, hi409_2⟩ := at_T53 HR0.out x5_1 p409 q409
   have hw409_3 := hx409_3
   have hw409_2 := hx409_2
   have hw409_1 := hx409_1
   have hw409_0 := hx409_0
   cases e409
   replace hx409_0 := (HB.out.cell (bL w hx409_0)).trans hx409_0
   replace hx409_1 := (HB.out.cell (bL w hx409_1)).trans hx409_1
   replace hx409_2 := (HB.out.cell (bL w hx409_2)).trans hx409_2
   replace hx409_3 := (HB.out.cell (bL w hx409_3)).trans hx409_3
   have HR409_2 := zK hi409_2
   have HC409_2 := zK hl409_2
   clear hi409_2 hl409_2
   replace p409 := eq_true p409
   replace q409 := eq_true q409
   have p410 : 0 ≤ (x5_1 : Int) := oD M1
   have q410 : x5_1 < (l1.length : Int) := oD M1
   obtain ⟨ad410, A410_2, c410_2, e410, hx410_0, hx410_1, hx410_2, hx410_3, hl410_2, hi410_2⟩ := at_T53 HR1.out x5_1 p410 q410
   have hw410_3 := hx410_3
   have hw410_2 := hx410_2
   have hw410_1 := hx410_1
   have hw410_0 := hx410_0
   cases e410
   replace hx410_0 := (HB.out.cell (bL w hx410_0)).trans hx410_0
   replace hx410_1 := (HB.out.cell (bL w hx410_1)).trans hx410_1
   replace hx410_2 := (HB.out.cell (bL w hx410_2)).trans hx410_2
   replace hx410_3 := (HB.out.cell (bL w hx410_3)).trans hx410_3
   have HR410_2 := zK hi410_2
   have HC410_2 := zK hl410_2
   clear hi410_2 hl410_2
   replace p410 := eq_true p410
   replace q410 := eq_true q410
   refine start_ (n := 10) (S := fun w' => w'.cell? (ad409.add ((x5_1).toNat * 4)) = some (.int .i64 ((rd_T53 l0 x5_1).f0)) ∧ w'.cell? ⟨(ad409.add ((x5_1).toNat * 4)).block, (ad409.add ((x5_1).toNat * 4)).off + 1, none⟩ = some (.int .i64 ((rd_T53 l0 x5_1).f1)) ∧ w'.cell? ⟨(ad409.add ((x5_1).toNat * 4)).block, (ad409.add ((x5_1).toNat * 4)).off + 2, none⟩ = some (.slice A409_2 ((rd_T53 l0 x5_1).f2).length c409_2) ∧ w'.cell? ⟨(ad409.add ((x5_1).toNat * 4)).block, (ad409.add ((x5_1).toNat * 4)).off + 3, none⟩ = some (.int .i64 ((rd_T53 l0 x5_1).f3)) ∧ w'.cell? (ad410.add ((x5_1).toNat * 4)) = some (.int .i64 ((rd_T53 l1 x5_1).f0)) ∧ w'.cell? ⟨(ad410.add ((x5_1).toNat * 4)).block, (ad410.add ((x5_1).toNat * 4)).off + 1, none⟩ = some (.int .i64 ((rd_T53 l1 x5_1).f1)) ∧ w'.cell? ⟨(ad410.add ((x5_1).toNat * 4)).block, (ad410.add ((x5_1).toNat * 4)).off + 2, none⟩ = some (.slice A410_2 ((rd_T53 l1 x5_1).f2).length c410_2) ∧ w'.cell? ⟨(ad410.add ((x5_1).toNat * 4)).block, (ad410.add ((x5_1).toNat * 4)).off + 3, none⟩ = some (.int .i64 ((rd_T53 l1 x5_1).f3))) (ds := []) b15A0 (by kernel_rfl) rfl rfl ⟨((HB.out.cell (bL w hw409_0)).trans hw409_0), ((HB.out.cell (bL w hw409_1)).trans hw409_1), ((HB.out.cell (bL w hw409_2)).trans hw409_2), ((HB.out.cell (bL w hw409_3)).trans hw409_3), ((HB.out.cell (bL w hw410_0)).trans hw410_0), ((HB.out.cell (bL w hw410_1)).trans hw410_1), ((HB.out.cell (bL w hw410_2)).trans hw410_2), ((HB.out.cell (bL w hw410_3)).trans hw410_3)⟩ (fun hHeld => ?_); refine with_tabW laws_eqParcelS.tab6 laws_eqParcelS.bits6 (fun HT_ HW_ => ?_)
   generalize wr.drew = w9 at HB HR409_2 HR410_2 hx409_0 hx409_1 hx409_2 hx409_3 hx410_0 hx410_1 hx410_2 hx410_3 hHeld ⊢
   refine pI 0 (some 17) b15A1 HT_ ?_
   refine pI 1 (some 18) b15A2 HT_ ?_
   refine pI 2 (some 19) b15A3 HT_ ?_
   refine pI 4 (some 21) b15A4 HT_ ?_
   refine pI 5 (some 22) b15A5 HT_ ?_
   refine pI 6 (some 23) b15A6 HT_ ?_
   refine tI 3 (some 20) b15A7 HT_ HW_ hHeld rfl rfl (Or.inl ⟨by rfl, by rintro w' ⟨s0, s1, s2, s3, s4, s5, s6, s7⟩; go_simp; with_reducible rfl⟩) ?_
   refine tI 7 (some 24) b15A8 HT_ HW_ hHeld rfl rfl (Or.inl ⟨by rfl, by rintro w' ⟨s0, s1, s2, s3, s4, s5, s6, s7⟩; go_simp; with_reducible rfl⟩) ?_
   refine one_ (i := 8) (N := some 25) b15A9 rfl rfl (one_of HT_.out (by kernel_rfl)) (by decide) (fun K hK => ?_)
   refine goes_ Try.func53 (by kernel_rfl) rfl #[.agg #[.int .i64 ((rd_T53 l0 x5_1).f0), .int .i64 ((rd_T53 l0 x5_1).f1), .slice A409_2 ((rd_T53 l0 x5_1).f2).length c409_2, .int .i64 ((rd_T53 l0 x5_1).f3)], .agg #[.int .i64 ((rd_T53 l1 x5_1).f0), .int .i64 ((rd_T53 l1 x5_1).f1), .slice A410_2 ((rd_T53 l1 x5_1).f2).length c410_2, .int .i64 ((rd_T53 l1 x5_1).f3)]] (by rfl) rfl rfl M0 ?_
   with_reducible refine (laws_eqParcel.calls k1 ((rd_T53 l0 x5_1).f0) ((rd_T53 l0 x5_1).f1) _ _ ((rd_T53 l0 x5_1).f2) ((rd_T53 l0 x5_1).f3) ((rd_T53 l1 x5_1).f0) ((rd_T53 l1 x5_1).f1) _ _ ((rd_T53 l1 x5_1).f2) ((rd_T53 l1 x5_1).f3) true _ ?side1 ?side2 ?side3 ?side4 A7.out).mono ?_
   (case side1 => exact Kd.qC (Kd.C_below HR409_2.out HB.out))
   (case side2 => exact HC409_2.out)
   (case side3 => exact Kd.qC (Kd.C_below HR410_2.out HB.out))
   (case side4 => exact HC410_2.out)
   rintro e w10 ⟨rfl, hb⟩
   refine ⟨_, rfl, ?_⟩
   have n0_ := zK (bT (qB HB.out) hb)
   clear HB
   have HB := n0_
   clear n0_
   (try clear hb)
   (try clear hb2)
   (try clear hk)
   (try clear hi)
   refine hK.out _ _ ⟨((HB.out.cell (bL w hw409_0)).trans hw409_0), ((HB.out.cell (bL w hw409_1)).trans hw409_1), ((HB.out.cell (bL w hw409_2)).trans hw409_2), ((HB.out.cell (bL w hw409_3)).trans hw409_3), ((HB.out.cell (bL w hw410_0)).trans hw410_0), ((HB.out.cell (bL w hw410_1)).trans hw410_1), ((HB.out.cell (bL w hw410_2)).trans hw410_2), ((HB.out.cell (bL w hw410_3)).trans hw410_3)⟩ (fun hHeld => ?_)
   clear hK K
   refine norm_ (a' := ?_) ?_ ?_
   rotate_left
   ·show Act.put _ (some 25) _ = _
    simp only [Act.put, sA, sZ, sS, i64_w, i32_w]
    rfl
   refine pI 9 (some 26) b15A10 HT_ ?_
   refine done_ (done_of HT_.out (by kernel_rfl)) ?_
   try go_wp2
   go_roundg k1
   case measure => have := HK1.out; omega
   case rel => exact ⟨(wrap64 (x5_1 + 1)), M3, H', ⟨by have := HK1.out; omega⟩, ⟨by exact qB HB.out⟩⟩
/-! ### laws_markIntS: function 19 -/
def laws_markIntS.l0 : Nat → List Int → Int → Int → Option (Int × List Int)
 | 0, _, _, _ => none
 | k + 1, x0, x1, x5 => if x5 < (x0.length : Int) then (if 0 ≤ x5 then (laws_markIntS.l0 k (x0.set (x5 : Int).toNat x1) (wrap64 (x1 + 1)) (wrap64 (x5 + 1))) else (none)) else (some (x1, x0))
def laws_markIntS.f (k : Nat) (l0 : List Int) (a1 : Int) : Option (Int × List Int) := laws_markIntS.l0 k l0 a1 0
set_option maxHeartbeats 8000000 in
set_option maxRecDepth 100000 in
theorem laws_markIntS.calls (k : Nat) (P0_ : Nat → Prop) (u9000_ : Value) (l0 : List Int) (a1 : Int) (r1 : Int) (r2 : List Int) (w0 w : World) (hB : Below w0.heap.size w0 w) (ho0 : Kd.R (Kd.int .i64) 3 w w0.heap.size P0_ u9000_ l0) (h : laws_markIntS.f k l0 a1 = some (r1, r2)) :
  Calls Try.prog 19 #[u9000_, .int .i64 a1] w fun e w' => e = .returned (.int .i64 r1) ∧ Kd.R (Kd.int .i64) 3 w' w0.heap.size (fun k_ => (P0_ k_ ∨ w.heap.size ≤ k_)) u9000_ r2 ∧ Below w0.heap.size w0 w' ∧ Kept w w' (fun k_ => P0_ k_) := by
 have HO0 := zK (show Kd.R (Kd.int .i64) 3 w w0.heap.size (fun k_ => (P0_ k_ ∨ w.heap.size ≤ k_)) u9000_ l0 from Kd.R_mono ho0 (fun k_ hk => (.inl hk)))
 have HK := zK (Kept.refl w (fun k_ => P0_ k_))
 have HW0 := zK hB.size
 have HB := zK hB
 clear hB
 have H : (laws_markIntS.l0 k l0 a1 0) = some (r1, r2) := h
 clear h
 have H' := zK H
 clear H
 go_enter Try.func19, Try.ntmps19
 go_wp2
 go_loopg [1, 5] k (fun kq v1 v5 w' => ∃ (x0_1 : List Int) (x1_1 : Int) (x5_1 : Int), v1 = .int .i64 x1_1 ∧ v5 = .int .i64 x5_1 ∧ Aside0 (laws_markIntS.l0 kq x0_1 x1_1 x5_1 = some (r1, r2)) ∧ Aside0 (kq ≤ k) ∧ Aside0 (Kd.R (Kd.int .i64) 3 w' w0.heap.size (fun k_ => (P0_ k_ ∨ w.heap.size ≤ k_)) u9000_ x0_1) ∧ Aside0 (Kept w w' (fun k_ => P0_ k_)) ∧ Aside0 (Below w0.heap.size w0 w'))
 case atStart => exact ⟨(l0), (a1), (0), M3, M3, H', ⟨Nat.le_refl _⟩, ⟨by exact Kd.qR HO0.out⟩, ⟨by repeat (first | (with_reducible first | exact HK.out | apply Kept.alloc | apply Kept.drewN | apply Kept.drew) | exact HK.out)⟩, ⟨by exact qB HB.out⟩⟩
 case round =>
  clear H'
  try clear c1
  try clear p2
  obtain ⟨x0_1, x1_1, x5_1, rfl, rfl, HA, HK1, HO_0, HK, HB⟩ := hrel
  cases gk with
  | zero => exact absurd HA.out (by simp [laws_markIntS.l0])
  | succ k1 =>
   have H := HA.out
   clear HA
   simp only [laws_markIntS.l0] at H
   by_cases c3 : x5_1 < (x0_1.length : Int)
   rotate_left
   ·rw [if_neg c3] at H
    have c3b0 : decide (x5_1 < (x0_1.length : Int)) = false := decide_eq_false c3
    clear c3
    simp only [Option.some.injEq, Prod.mk.injEq] at H
    obtain ⟨rfl, rfl⟩ := H
    obtain ⟨Ao9, co9, eo9⟩ := Kd.R_slice HO_0.out
    subst eo9
    go_wp2
    go_ret
    exact ⟨by first | rfl | (simp [errW_none, errW_some] <;> rfl) | (simp [*, errW_none, errW_some] <;> rfl), by exact Kd.qR HO_0.out, by exact qB HB.out, by repeat (first | (with_reducible first | exact HK.out | apply Kept.alloc | apply Kept.drewN | apply Kept.drew) | exact HK.out)⟩
   rw [if_pos c3] at H
   have c3b0 : decide (x5_1 < (x0_1.length : Int)) = true := decide_eq_true c3
   clear c3
   by_cases c4 : 0 ≤ x5_1
   rotate_left
   ·rw [if_neg c4] at H
    exact absurd H (by simp)
   rw [if_pos c4] at H
   have c4b0 : decide (0 ≤ x5_1) = true := decide_eq_true c4
   clear c4
   obtain ⟨y412, hy412⟩ : ∃ y_ : List Int, y_ = (x0_1.set (x5_1 : Int).toNat x1_1) := ⟨_, rfl⟩
   replace H : (laws_markIntS.l0 k1 y412 (wrap64 (x1_1 + 1)) (wrap64 (x5_1 + 1))) = some (r1, r2) := by first | (rw [hy412]; with_reducible exact H) | (have H2_ := (Option.bind_some _ _).symm.trans H; rw [hy412]; with_reducible exact H2_) | (have H2_ := (Option.bind_some _ _).symm.trans H; with_reducible exact H2_) | with_reducible exact H | (rw [hy412]; exact H) | exact H
   have Ny412 := zK hy412
   clear hy412
   have H' := zK H
   clear H
   obtain ⟨Ao6, co6, eo6⟩ := Kd.R_slice HO_0.out
   subst eo6
   have p5 : 0 ≤ (x5_1 : Int) := oD M1
   have q5 : (x5_1 : Int) < ((x0_1.length : Int) : Int) := oD M1
   obtain ⟨go5, co5, eo5, gb5, gl5, cl5, HG5⟩ := Kd.R_form HO_0.out (by omega)
   (first | cases eo5 | (injection eo5 with ea_ en_ ec_; (first | subst ea_ | (injection ea_ with ea_; subst ea_)); subst ec_; clear en_))
   have GB5 := zK gb5
   have GG5 := zK HG5
   clear gb5 gl5 HG5
   have HMgo5 := zK (show (P0_ go5 ∨ w.heap.size ≤ go5) from (HO_0.out.1 _ rfl))
   obtain ⟨hx5_0, hf5_0⟩ := Kd.R_celln 0 HO_0.out (x5_1 : Int) p5 q5
   replace p5 := eq_true p5
   replace q5 := eq_true q5
   have HP7 := Kd.R_putg HO_0.out (x5_1 : Int) x1_1
   go_wp2_with (first | ((with_reducible refine gate_store (t := 3) (p := 15) rfl ?_); refine store_event (t := 3) (p := 15) (v := ?vo_w8) (w1 := (wr.setCell ⟨go5, (x5_1 : Int).toNat, none⟩ (.int .i64 x1_1))) ?hg ?ho ?hn ?hr ?_; (case ho => rfl); (case hg => rfl); (case hn => rfl); (case hr => first | (go_simp; done) | (go_simp; rfl)); intro w8 hw; have hg : wr.grownBy w8 (some go5) := (by rw [hw]; exact HP7.2); have hp_ : Kd.R (Kd.int .i64) 3 w8 w0.heap.size (fun k_ => (P0_ k_ ∨ w.heap.size ≤ k_)) (.slice (some ⟨go5, 0, none⟩) x0_1.length co6) y412 := (by rw [hw, Ny412.out]; exact HP7.1); clear HP7; have n0_ := zK (hp_); have n1_ := zK ((by rw [hw]; exact bS (HB.out) GB5.out : Below w0.heap.size w0 w8)); have n2_ := zK (Kept.of_grown (S := (fun k_ => P0_ k_)) hg M14 (fun k_ e_ => (HO_0.out.1 k_ e_))); clear HO_0 HB HK; have HO_0 := n0_; have HB := n1_; have HK := n2_; clear n0_ n1_ n2_; clear hg hw hp_))
   go_roundg k1
   case measure => have := HK1.out; omega
   case rel => exact ⟨(y412), (wrap64 (x1_1 + 1)), (wrap64 (x5_1 + 1)), M3, M3, H', ⟨by have := HK1.out; omega⟩, ⟨by exact Kd.qR HO_0.out⟩, ⟨by repeat (first | (with_reducible first | exact HK.out | apply Kept.alloc | apply Kept.drewN | apply Kept.drew) | exact HK.out)⟩, ⟨by exact qB HB.out⟩⟩
/-! ### laws_markParcelS: function 61 (rows in rows are written) -/
def laws_markParcelS.at_ (l : List (S53)) (i : Int) : S53 := l.getD i.toNat ⟨0, 0, [], 0⟩
def laws_markParcelS.l0 : Nat → List (S53) → Int → Int → Option Int
 | 0, _, _, _ => none
 | k + 1, x0, x1, x5 => if x5 < (x0.length : Int) then (if 0 ≤ x5 then ((laws_markIntS.f k (laws_markParcelS.at_ x0 x5).f2 (wrap64 (wrap64 (x1 + 1) + 1))).bind fun bt => (laws_markParcelS.l0 k (x0.set (x5 : Int).toNat ⟨x1, wrap64 (x1 + 1), bt.2, bt.1⟩) (wrap64 (bt.1 + 1)) (wrap64 (x5 + 1)))) else none) else (some x1)
def laws_markParcelS.f (k : Nat) (l0 : List (S53)) (a1 : Int) : Option Int := laws_markParcelS.l0 k l0 a1 0
theorem hStore {α : Type} {d : Kd α} {e g n cap base : Nat} {ok oki : Nat → Prop} {W : World} {xs : List α} {i : Int} {c : List Value} (h : Kd.H d e W base ok (.slice (some ⟨g, 0, none⟩) n cap) xs i oki c) (h0 : 0 ≤ i) (h1 : i < n) (j : Nat) (hj : j + 1 ≤ d.sz) (u : Value) (hu : u.oneCell' = true) :
  Kd.H d e (W.setCell ⟨g, i.toNat * d.sz + j, none⟩ u) base ok (.slice (some ⟨g, 0, none⟩) n cap) xs i oki (c.take j ++ [u] ++ c.drop (j + 1)) ∧ W.grownBy (W.setCell ⟨g, i.toNat * d.sz + j, none⟩ u) (some g) := Kd.H_seg h h0 h1 (seg := [u]) hj (fun q hq => by rw [List.mem_singleton.1 hq]; exact hu)
theorem hCell {α : Type} {d : Kd α} {e g n cap base : Nat} {ok oki : Nat → Prop} {W : World} {xs : List α} {i : Int} {c : List Value} (h : Kd.H d e W base ok (.slice (some ⟨g, 0, none⟩) n cap) xs i oki c) (h0 : 0 ≤ i) (h1 : i < n) :
  (∀ j u, c[j]? = some u → W.cell? ⟨g, i.toNat * d.sz + j, none⟩ = some u) ∧ ∀ j, W.frozen? ⟨g, i.toNat * d.sz + j, none⟩ = false := by
 obtain ⟨rows, hl, hraw, hcl, hco, hcc, _⟩ := Kd.H_raw h h0 h1
 obtain ⟨_, _, _, _, hfr⟩ := Kd.R_elem hraw [] i h0 h1
 exact ⟨hcc, hfr⟩
set_option maxHeartbeats 8000000 in
set_option maxRecDepth 100000 in
theorem laws_markParcelS.calls (k : Nat) (P0_ : Nat → Prop) (u9000_ : Value) (l0 : List (S53)) (a1 : Int) (r1 : Int) (w0 w : World) (hB : Below w0.heap.size w0 w) (ho0 : Kd.S k53 53 w w0.heap.size P0_ u9000_ l0) (h : laws_markParcelS.f k l0 a1 = some r1) :
  Calls Try.prog 61 #[u9000_, .int .i64 a1] w fun e w' => e = .returned (.int .i64 r1) ∧ Below w0.heap.size w0 w' ∧ Kept w w' (fun k_ => P0_ k_) := by
 have HO0 := zK ho0
 have HK := zK (Kept.refl w (fun k_ => P0_ k_))
 have HB := zK hB
 clear hB ho0
 have H' := zK h
 clear h
 go_enter Try.func61, Try.ntmps61
 go_wp2
 go_loopg [1, 5] k (fun kq v1 v5 w' => ∃ (x0_1 : List (S53)) (x1_1 : Int) (x5_1 : Int), v1 = .int .i64 x1_1 ∧ v5 = .int .i64 x5_1 ∧ Aside0 (laws_markParcelS.l0 kq x0_1 x1_1 x5_1 = some r1) ∧ Aside0 (kq ≤ k) ∧ Aside0 (Kd.S k53 53 w' w0.heap.size P0_ u9000_ x0_1) ∧ Aside0 (Kept w w' (fun k_ => P0_ k_)) ∧ Aside0 (Below w0.heap.size w0 w'))
 case atStart => exact ⟨(l0), (a1), (0), rfl, rfl, H', ⟨Nat.le_refl _⟩, ⟨by (with_reducible repeat (first | apply Kd.S_alloc | apply Kd.S_drewN | apply Kd.S_drew)); exact HO0.out⟩, ⟨by repeat (first | (with_reducible first | exact HK.out | apply Kept.alloc | apply Kept.drewN | apply Kept.drew) | exact HK.out)⟩, ⟨by exact qB HB.out⟩⟩
 case round =>
  clear H'
  obtain ⟨x0_1, x1_1, x5_1, rfl, rfl, HA, HK1, HO_0, HK, HB⟩ := hrel
  cases gk with
  | zero => exact absurd HA.out (by simp [laws_markParcelS.l0])
  | succ k1 =>
   have H := HA.out
   clear HA
   simp only [laws_markParcelS.l0] at H
   by_cases c3 : x5_1 < (x0_1.length : Int)
   rotate_left
   ·rw [if_neg c3] at H
    have c3b0 : decide (x5_1 < (x0_1.length : Int)) = false := decide_eq_false c3
    clear c3
    obtain rfl := Option.some.inj H
    obtain ⟨Ao9, co9, eo9⟩ := Kd.S_slice HO_0.out
    subst eo9
    go_wp2
    go_ret
    exact ⟨rfl, by exact qB HB.out, by repeat (first | (with_reducible first | exact HK.out | apply Kept.alloc | apply Kept.drewN | apply Kept.drew) | exact HK.out)⟩
   rw [if_pos c3] at H
   have c3b0 : decide (x5_1 < (x0_1.length : Int)) = true := decide_eq_true c3
   clear c3
   by_cases c4 : 0 ≤ x5_1
   rotate_left
   ·rw [if_neg c4] at H
    exact absurd H (by simp)
   rw [if_pos c4] at H
   have c4b0 : decide (0 ≤ x5_1) = true := decide_eq_true c4
   clear c4
   obtain ⟨⟨t1, t2⟩, A0, H⟩ := Option.bind_eq_some_iff.mp H
   have A6 := zK A0
   clear A0
   have H' := zK H
   clear H
   obtain ⟨Ao6, co6, eo6⟩ := Kd.S_slice HO_0.out
   subst eo6
   have p5 : 0 ≤ (x5_1 : Int) := oD M1
   have q5 : (x5_1 : Int) < ((x0_1.length : Int) : Int) := oD M1
   have HP5 := zK p5
   have HQ5 := zK q5
   obtain ⟨go5, co5, eo5, gb5, gl5, HG5⟩ := Kd.S_form HO_0.out (by omega)
   (first | cases eo5 | (injection eo5 with ea_ en_ ec_; (first | subst ea_ | (injection ea_ with ea_; subst ea_)); subst ec_; clear en_))
   have GB5 := zK gb5
   clear gb5 gl5 HG5
   have HMgo5 := zK (show P0_ go5 from ((Kd.S_R HO_0.out).1 _ rfl))
   obtain ⟨oki, c, hcl, hM, hcc, hfr, hoki, hH⟩ := Kd.S_elem HO_0.out z53 (x5_1 : Int) p5 q5
   change k53.M wr w0.heap.size oki (laws_markParcelS.at_ x0_1 x5_1) c at hM
   obtain ⟨v6, rfl, hR6⟩ := k53_openM hM
   have hx5_0 : wr.cell? ⟨go5, (x5_1 : Int).toNat * 4, none⟩ = some (.int .i64 (laws_markParcelS.at_ x0_1 x5_1).f0) := hcc 0 _ rfl
   have hf5_0 : wr.frozen? ⟨go5, (x5_1 : Int).toNat * 4, none⟩ = false := hfr 0
   clear hcl hcc hfr hM
   obtain ⟨Av6, cv6, ev6⟩ := Kd.R_slice hR6
   subst ev6
   have HR6 := zK hR6
   have HH := zK hH
   have HI6 := zK hoki
   clear hR6 hH hoki HO_0
   replace p5 := eq_true p5
   replace q5 := eq_true q5
   go_wp2_with (first | ((with_reducible refine gate_store (t := 3) (p := 16) rfl ?_); refine store_event (t := 3) (p := 16) (v := ?vo_w8) (w1 := (wr.setCell ⟨go5, (x5_1 : Int).toNat * 4, none⟩ (.int .i64 x1_1))) ?hg ?ho ?hn ?hr ?_; (case ho => rfl); (case hg => rfl); (case hn => rfl); (case hr => first | (go_simp; done) | (go_simp; rfl)); intro w8 hw; have hs_ := hStore HH.out HP5.out HQ5.out 0 (by decide) (.int .i64 x1_1) rfl; have hg : wr.grownBy w8 (some go5) := (by rw [hw]; exact hs_.2); have HHa := zK (show Kd.H k53 53 w8 w0.heap.size P0_ (.slice (some ⟨go5, 0, none⟩) x0_1.length co6) x0_1 (x5_1 : Int) oki [.int .i64 x1_1, .int .i64 (laws_markParcelS.at_ x0_1 x5_1).f1, .slice Av6 (laws_markParcelS.at_ x0_1 x5_1).f2.length cv6, .int .i64 (laws_markParcelS.at_ x0_1 x5_1).f3] from (by rw [hw]; exact hs_.1)); have n0_ := zK (show (Kd.int .i64).R 3 w8 w0.heap.size oki (.slice Av6 (laws_markParcelS.at_ x0_1 x5_1).f2.length cv6) (laws_markParcelS.at_ x0_1 x5_1).f2 from (by rw [hw]; exact Kd.R_far HR6.out (fun k_ hk_ => (HI6.out k_ hk_).2) _)); have n1_ := zK (show Below w0.heap.size w0 w8 from (by rw [hw]; exact bS (HB.out) GB5.out)); have n2_ := zK (Kept.of_grown (S := (fun k_ => P0_ k_)) hg HK.out (fun k_ e_ => .inl (by injection e_ with e_; subst e_; exact HMgo5.out))); clear HR6 HB HK hs_ hg hw; have HR6 := n0_; have HB := n1_; have HK := n2_; clear n0_ n1_ n2_; obtain ⟨hc_, hf_⟩ := hCell HHa.out HP5.out HQ5.out; have hxHHa_1 : w8.cell? ⟨go5, (x5_1 : Int).toNat * 4 + 1, none⟩ = some (.int .i64 (laws_markParcelS.at_ x0_1 x5_1).f1) := hc_ 1 _ rfl; have hfHHa_1 : w8.frozen? ⟨go5, (x5_1 : Int).toNat * 4 + 1, none⟩ = false := hf_ 1; clear hc_ hf_) | ((with_reducible refine gate_store (t := 3) (p := 23) rfl ?_); refine store_event (t := 3) (p := 23) (v := ?vo_w9) (w1 := (w8.setCell ⟨go5, (x5_1 : Int).toNat * 4 + 1, none⟩ (.int .i64 (wrap64 (x1_1 + 1))))) ?hg ?ho ?hn ?hr ?_; (case ho => rfl); (case hg => rfl); (case hn => rfl); (case hr => first | (go_simp; done) | (go_simp; rfl)); intro w9 hw; have hs_ := hStore HHa.out HP5.out HQ5.out 1 (by decide) (.int .i64 (wrap64 (x1_1 + 1))) rfl; have hg : w8.grownBy w9 (some go5) := (by rw [hw]; exact hs_.2); have HHb := zK (show Kd.H k53 53 w9 w0.heap.size P0_ (.slice (some ⟨go5, 0, none⟩) x0_1.length co6) x0_1 (x5_1 : Int) oki [.int .i64 x1_1, .int .i64 (wrap64 (x1_1 + 1)), .slice Av6 (laws_markParcelS.at_ x0_1 x5_1).f2.length cv6, .int .i64 (laws_markParcelS.at_ x0_1 x5_1).f3] from (by rw [hw]; exact hs_.1)); have n0_ := zK (show (Kd.int .i64).R 3 w9 w0.heap.size oki (.slice Av6 (laws_markParcelS.at_ x0_1 x5_1).f2.length cv6) (laws_markParcelS.at_ x0_1 x5_1).f2 from (by rw [hw]; exact Kd.R_far HR6.out (fun k_ hk_ => (HI6.out k_ hk_).2) _)); have n1_ := zK (show Below w0.heap.size w0 w9 from (by rw [hw]; exact bS (HB.out) GB5.out)); have n2_ := zK (Kept.of_grown (S := (fun k_ => P0_ k_)) hg HK.out (fun k_ e_ => .inl (by injection e_ with e_; subst e_; exact HMgo5.out))); clear HR6 HB HK hs_ hg hw; have HR6 := n0_; have HB := n1_; have HK := n2_; clear n0_ n1_ n2_; obtain ⟨hc_, hf_⟩ := hCell HHb.out HP5.out HQ5.out; have hxHHb_2 : w9.cell? ⟨go5, (x5_1 : Int).toNat * 4 + 2, none⟩ = some (.slice Av6 (laws_markParcelS.at_ x0_1 x5_1).f2.length cv6) := hc_ 2 _ rfl; have hfHHb_2 : w9.frozen? ⟨go5, (x5_1 : Int).toNat * 4 + 2, none⟩ = false := hf_ 2; clear hc_ hf_) | ((with_reducible refine gate_callee (f := 19) rfl ?_); refine goesL_ (some 32) rfl rfl Try.func19 (by kernel_rfl) rfl #[.slice Av6 (laws_markParcelS.at_ x0_1 x5_1).f2.length cv6, .int .i64 (wrap64 (wrap64 (x1_1 + 1) + 1))] rfl M0 ?_; (with_reducible refine (laws_markIntS.calls _ oki _ (laws_markParcelS.at_ x0_1 x5_1).f2 (wrap64 (wrap64 (x1_1 + 1) + 1)) t1 t2 w0 _ ?side1 ?side2 A6.out).mono ?_); (case side1 => exact HB.out); (case side2 => exact HR6.out); rintro e w10 ⟨rfl, ho1, hb, hkp⟩; refine ⟨_, rfl, ?_⟩; have HHc := zK (show Kd.H k53 53 w10 w0.heap.size P0_ (.slice (some ⟨go5, 0, none⟩) x0_1.length co6) x0_1 (x5_1 : Int) oki [.int .i64 x1_1, .int .i64 (wrap64 (x1_1 + 1)), .slice Av6 (laws_markParcelS.at_ x0_1 x5_1).f2.length cv6, .int .i64 (laws_markParcelS.at_ x0_1 x5_1).f3] from Kd.H_step HHb.out (fun k_ _ hn_ hl_ => hkp.2 k_ hl_ hn_)); have n0_ := zK (show (Kd.int .i64).R 3 w10 w0.heap.size oki (.slice Av6 (laws_markParcelS.at_ x0_1 x5_1).f2.length cv6) t2 from Kd.R_reok rfl ho1 (fun k_ e_ => HR6.out.1 k_ e_)); have n1_ := zK hb; have n2_ := zK (Kept.then_ (S := (fun k_ => P0_ k_)) HK.out hkp (fun k_ hk_ => .inl (HI6.out k_ hk_).1)); clear HR6 HB HK ho1 hb hkp; have HR6 := n0_; have HB := n1_; have HK := n2_; clear n0_ n1_ n2_; obtain ⟨hc_, hf_⟩ := hCell HHc.out HP5.out HQ5.out; have hxHHc_3 : w10.cell? ⟨go5, (x5_1 : Int).toNat * 4 + 3, none⟩ = some (.int .i64 (laws_markParcelS.at_ x0_1 x5_1).f3) := hc_ 3 _ rfl; have hfHHc_3 : w10.frozen? ⟨go5, (x5_1 : Int).toNat * 4 + 3, none⟩ = false := hf_ 3; clear hc_ hf_) | ((with_reducible refine gate_store (t := 3) (p := 37) rfl ?_); refine store_event (t := 3) (p := 37) (v := ?vo_w11) (w1 := (w10.setCell ⟨go5, (x5_1 : Int).toNat * 4 + 3, none⟩ (.int .i64 t1))) ?hg ?ho ?hn ?hr ?_; (case ho => rfl); (case hg => rfl); (case hn => rfl); (case hr => first | (go_simp; done) | (go_simp; rfl)); intro w11 hw; have hs_ := hStore HHc.out HP5.out HQ5.out 3 (by decide) (.int .i64 t1) rfl; have hg : w10.grownBy w11 (some go5) := (by rw [hw]; exact hs_.2); have HHd := zK (show Kd.H k53 53 w11 w0.heap.size P0_ (.slice (some ⟨go5, 0, none⟩) x0_1.length co6) x0_1 (x5_1 : Int) oki [.int .i64 x1_1, .int .i64 (wrap64 (x1_1 + 1)), .slice Av6 (laws_markParcelS.at_ x0_1 x5_1).f2.length cv6, .int .i64 t1] from (by rw [hw]; exact hs_.1)); have n0_ := zK (show (Kd.int .i64).R 3 w11 w0.heap.size oki (.slice Av6 (laws_markParcelS.at_ x0_1 x5_1).f2.length cv6) t2 from (by rw [hw]; exact Kd.R_far HR6.out (fun k_ hk_ => (HI6.out k_ hk_).2) _)); have n1_ := zK (show Below w0.heap.size w0 w11 from (by rw [hw]; exact bS (HB.out) GB5.out)); have n2_ := zK (Kept.of_grown (S := (fun k_ => P0_ k_)) hg HK.out (fun k_ e_ => .inl (by injection e_ with e_; subst e_; exact HMgo5.out))); clear HR6 HB HK hs_ hg hw; have HR6 := n0_; have HB := n1_; have HK := n2_; clear n0_ n1_ n2_; obtain ⟨hc_, hf_⟩ := hCell HHd.out HP5.out HQ5.out; clear hc_ hf_))
   have HO_0 : Aside0 (Kd.S k53 53 w11 w0.heap.size P0_ (.slice (some ⟨go5, 0, none⟩) x0_1.length co6) (x0_1.set (x5_1 : Int).toNat ⟨x1_1, wrap64 (x1_1 + 1), t2, t1⟩)) := zK (Kd.H_back HHd.out (k53_mkM w11 w0.heap.size oki (⟨x1_1, wrap64 (x1_1 + 1), t2, t1⟩ : S53) HR6.out) (fun _ hk => hk))
   go_roundg k1
   case measure => have := HK1.out; omega
   case rel => exact ⟨_, (wrap64 (t1 + 1)), (wrap64 (x5_1 + 1)), rfl, rfl, H', ⟨by have := HK1.out; omega⟩, ⟨by (with_reducible repeat (first | apply Kd.S_alloc | apply Kd.S_drewN | apply Kd.S_drew)); exact HO_0.out⟩, ⟨by repeat (first | (with_reducible first | exact HK.out | apply Kept.alloc | apply Kept.drewN | apply Kept.drew) | exact HK.out)⟩, ⟨by exact qB HB.out⟩⟩
theorem rApP {α : Type} {d : Kd α} {e base : Nat} {W W2 : World} {ok P : Nat → Prop} {v : Value} {xs : List α} (_hk : Kept W W2 P) (hE : d.E = []) (h : d.R e W base ok v xs) (hv : ∀ k, P k → some k ≠ v.ownBlock) : d.R e W base (fun k => ok k ∧ ¬ P k) v xs := Kd.R_mono (Kd.R_tight2 hE h) (fun k hk => ⟨hk.2, fun hp => hv k hp hk.1⟩)

end Go.Proofs.Ytejhjenlodclpaa.PFnExactSendAll
