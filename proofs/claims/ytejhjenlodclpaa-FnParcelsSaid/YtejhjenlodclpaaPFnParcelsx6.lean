/- Walks of functions that FnParcels reaches: written by a tool of the kit for this claim, then shortened by a program of ours. -/
import Derived.Test.YtejhjenlodclpaaPFnParcelsx0
import Derived.Test.YtejhjenlodclpaaPFnParcelsx1
import Derived.Test.YtejhjenlodclpaaPFnParcelsx2
import Derived.Test.YtejhjenlodclpaaPFnParcelsx5
/- narrow -/
namespace Go.Proofs.Ytejhjenlodclpaa.PFnParcels
open Go.RowKit Go.Proofs.YtejhjenlodclpaaW.PrintWords Go.Proofs.YtejhjenlodclpaaW.PrintLast Go.Proofs.YtejhjenlodclpaaW.PrintMore
attribute [local go_sem] max2_int min2_int max_two min_two max_three min_three max_four min_four   -- for this text's walks alone
set_option linter.unusedVariables false
set_option linter.unusedSimpArgs false

/-! ### spec_InHouse: function 110 -/
mutual
def spec_InHouse.l0 : Nat → List (S138) → Int → List Int → Int → Option (List Int)
 | 0, _, _, _, _ => none
 | k + 1, x0, x1, x5, x6 => if x6 < (x0.length : Int) then ((spec_IsChain.f k x0).bind fun t280 => (spec_InHouse.j1 k x0 x1 x5 x6 t280)) else (spec_InHouse.j1 k x0 x1 x5 x6 false)
def spec_InHouse.j1 : Nat → List (S138) → Int → List Int → Int → Bool → Option (List Int)
 | 0, _, _, _, _, _ => none
 | k + 1, x0, x1, x5, x6, x16 => if x16 = true then (if 0 ≤ x6 then (if x6 < (x0.length : Int) then ((spec_l16Last.f k x0 ((rd_T138 x0 x6).f0) (x0.length : Int)).bind fun t282 => (if 0 ≤ t282 then (if t282 < (x0.length : Int) then (if ((rd_T138 x0 t282).f1) = 2 then (if ((rd_T138 x0 t282).f2) = x1 then ((spec_l9Put.f k x5 ((rd_T138 x0 x6).f0)).bind fun t286 => (spec_InHouse.l0 k x0 x1 t286 (wrap64 (x6 + 1)))) else (spec_InHouse.l0 k x0 x1 x5 (wrap64 (x6 + 1)))) else (spec_InHouse.l0 k x0 x1 x5 (wrap64 (x6 + 1)))) else (none)) else (none))) else (none)) else (none)) else (some x5)
end
def spec_InHouse.f (k : Nat) (l0 : List (S138)) (a1 : Int) : Option (List Int) := spec_InHouse.l0 k l0 a1 (([] : List Int)) 0
set_option maxHeartbeats 8000000 in
set_option maxRecDepth 100000 in
theorem spec_InHouse.calls (k : Nat) (A0 : Option Addr) (c0 : Nat) (l0 : List (S138)) (a1 : Int) (r : List Int) (w : World) (hr0 : Kd.C k138 w A0 l0.length l0) (hc0 : l0.length ≤ c0) (h : spec_InHouse.f k l0 a1 = some r) :
  Calls Try.prog 110 #[.slice A0 l0.length c0, .int .i64 a1] w fun e w' => ∃ v0_ : Value, e = .returned (v0_) ∧ Kd.R (Kd.int .i64) 3 w' w.heap.size (fun _ => True) v0_ r ∧ Below w.heap.size w w' := by
 have HR0 := zK hr0
 have HC0 := zK hc0
 clear hr0 hc0
 have HB := zK (Below.refl w.heap.size w)
 have H : (spec_InHouse.l0 k l0 a1 (([] : List Int)) 0) = some r := h
 clear h
 obtain ⟨y277, hy277⟩ : ∃ y_ : List Int, y_ = (([] : List Int)) := ⟨_, rfl⟩
 replace H : (spec_InHouse.l0 k l0 a1 y277 0) = some r := by first | (rw [hy277]; with_reducible exact H) | (have H2_ := (Option.bind_some _ _).symm.trans H; rw [hy277]; with_reducible exact H2_) | (have H2_ := (Option.bind_some _ _).symm.trans H; with_reducible exact H2_) | with_reducible exact H | (rw [hy277]; exact H) | exact H
 have Ny277 := zK hy277
 clear hy277
 have H' := zK H
 clear H
 go_enter Try.func110, Try.ntmps110
 go_wp2_with (first | ((with_reducible refine gate_dst (N := 8) rfl ?_); refine Kd.R_lit (Kd.int .i64) _ 3 ?hg (N := 8) ?hd (xs := ([] : List Int)) (inner := []) (ok := fun _ => True) (okp := fun _ => True) ?hr ?hp (fun _ hk => hk) trivial (Below.refl _ _) (Nat.le_refl _) (by simp) ?_; (case hd => rfl); (case hg => rfl); (case hr => first | (go_simp; done) | (go_simp; rfl)); (case hp => exact (Reps.none _ _)); intro v278 w3 ho4 hb hg_ hnew_; clear hg_ hnew_; (first | rw [← Ny277.out] at ho4 | (simp only [Int.reduceToNat] at ho4; rw [← Ny277.out] at ho4)); have n0_ := zK (Kd.R_lower ho4 (bZ (by repeat (first | (with_reducible first | exact HB.out | apply bA | apply bN | apply b1) | exact HB.out)))); have n1_ := zK (bT (by repeat (first | (with_reducible first | exact HB.out | apply bA | apply bN | apply b1) | exact HB.out)) hb); clear HB; have HO279 := n0_; have HB := n1_; clear n0_ n1_; clear hb ho4))
 go_loopg [5, 6] k (fun kq v5 v6 w' => ∃ (x5_1 : List Int) (x6_1 : Int), v6 = .int .i64 x6_1 ∧ Aside0 (spec_InHouse.l0 kq l0 a1 x5_1 x6_1 = some r) ∧ Aside0 (kq ≤ k) ∧ Aside0 (Kd.R (Kd.int .i64) 3 w' w.heap.size (fun _ => True) v5 x5_1) ∧ Aside0 (Below w.heap.size w w'))
 case atStart => exact ⟨(y277), (0), (by first | rfl | (simp; done) | (simp [*]; done)), H', ⟨Nat.le_refl _⟩, ⟨by (with_reducible repeat (first | apply Kd.RA | apply Kd.RN | apply Kd.RD)); exact HO279.out⟩, ⟨by repeat (first | (with_reducible first | exact HB.out | apply bA | apply bN | apply b1) | exact HB.out)⟩⟩
 case round =>
  clear H'
  try clear c1
  try clear p2
  obtain ⟨x5_1, x6_1, rfl, HA, HK1, HO_5, HB⟩ := hrel
  cases gk with
  | zero => exact absurd HA.out (by simp [spec_InHouse.l0])
  | succ k1 =>
   have H := HA.out
   clear HA
   simp only [spec_InHouse.l0] at H
   have HC5 := zK H
   clear H
   go_upto_region 3 with (fail)
   go_cut [16] (fun v16 wc => ∃ (kq : Nat) (x16_4 : Bool), v16 = .bool x16_4 ∧ Aside0 (spec_InHouse.j1 kq l0 a1 x5_1 x6_1 x16_4 = some r) ∧ Aside0 (kq ≤ k1) ∧ Aside0 (Kd.R (Kd.int .i64) 3 wc w.heap.size (fun _ => True) u5 x5_1) ∧ Aside0 (Below w.heap.size w wc))
   case first =>
    have H := HC5.out
    clear HC5
    by_cases c6 : x6_1 < (l0.length : Int)
    rotate_left
    ·rw [if_neg c6] at H
     have c6b0 : decide (x6_1 < (l0.length : Int)) = false := decide_eq_false c6
     clear c6
     (first | rw [c6b0] | rw [c6b1] | (simp only [i64_w, i32_w]; rw [c6b0]) | skip)
     have H' := zK H
     clear H
     go_wp2
     go_meet
     case rel => exact ⟨_, (false), (by first | rfl | (simp; done) | (simp [*]; done)), H', ⟨by have := HK1.out; first | omega | exact Nat.le_refl _⟩, ⟨by (with_reducible repeat (first | apply Kd.RA | apply Kd.RN | apply Kd.RD)); exact HO_5.out⟩, ⟨by repeat (first | (with_reducible first | exact HB.out | apply bA | apply bN | apply b1) | exact HB.out)⟩⟩
    rw [if_pos c6] at H
    have c6b0 : decide (x6_1 < (l0.length : Int)) = true := decide_eq_true c6
    clear c6
    (first | rw [c6b0] | rw [c6b1] | (simp only [i64_w, i32_w]; rw [c6b0]) | skip)
    replace H := Option.bind_eq_some_iff.mp H
    obtain ⟨t280, A70, H⟩ := H
    replace H : (spec_InHouse.j1 k1 l0 a1 x5_1 x6_1 t280) = some r := H
    have A7 := zK A70
    clear A70
    have H' := zK H
    clear H
    go_wp2_with (first | (go_at_call 152; (with_reducible refine (spec_IsChain.calls k1 _ _ l0 t280 _ ?side1 ?side2 A7.out).mono ?_); (case side1 => repeat (first | exact (Kd.C_below HR0.out HB.out) | (with_reducible refine Kd.CA ?_ _) | (with_reducible refine Kd.CN ?_ _) | (with_reducible refine Kd.CD ?_))); (case side2 => exact HC0.out); rintro e w8 ⟨rfl, hb⟩; have n0_ := zK (Kd.R_below (by (with_reducible repeat (first | apply Kd.RA | apply Kd.RN | apply Kd.RD)); exact HO_5.out) hb); have n1_ := zK (bT (by repeat (first | (with_reducible first | exact HB.out | apply bA | apply bN | apply b1) | exact HB.out)) hb); clear HO_5; clear HB; have HO_5 := n0_; have HB := n1_; clear n0_ n1_; (try clear hb); (try clear hb2); (try clear hk); (try clear hi)))
    go_meet
    case rel => exact ⟨_, (t280), (by first | rfl | (simp; done) | (simp [*]; done)), H', ⟨by have := HK1.out; first | omega | exact Nat.le_refl _⟩, ⟨by (with_reducible repeat (first | apply Kd.RA | apply Kd.RN | apply Kd.RD)); exact HO_5.out⟩, ⟨by repeat (first | (with_reducible first | exact HB.out | apply bA | apply bN | apply b1) | exact HB.out)⟩⟩
   case rest =>
    clear HC5
    try clear c1
    try clear p2
    try clear c6
    try clear c6b0
    try clear p2
    obtain ⟨kq, x16_4, rfl, HA, HJ4, HO_5, HB⟩ := hcut
    cases kq with
    | zero => exact absurd HA.out (by simp [spec_InHouse.j1])
    | succ kj4 =>
     have H := HA.out
     clear HA
     simp only [spec_InHouse.j1] at H
     by_cases c9 : x16_4 = true
     rotate_left
     ·replace c9 := Bool.eq_false_iff.mpr c9
      subst c9
      have H1 : (some x5_1) = some r := by rw [if_neg (show ¬ (false = true) by decide)] at H; exact H
      clear H
      have H := H1
      clear H1
      obtain rfl := Option.some.inj H
      go_wp2
      go_ret
      exact ⟨_, by first | rfl | (simp [errW_none, errW_some] <;> rfl) | (simp [*, errW_none, errW_some] <;> rfl), by (with_reducible repeat (first | apply Kd.RA | apply Kd.RN | apply Kd.RD)); exact HO_5.out, by repeat (first | (with_reducible first | exact HB.out | apply bA | apply bN | apply b1) | exact HB.out)⟩
     subst c9
     have H1 : (if 0 ≤ x6_1 then (if x6_1 < (l0.length : Int) then ((spec_l16Last.f kj4 l0 ((rd_T138 l0 x6_1).f0) (l0.length : Int)).bind fun t282 => (if 0 ≤ t282 then (if t282 < (l0.length : Int) then (if ((rd_T138 l0 t282).f1) = 2 then (if ((rd_T138 l0 t282).f2) = a1 then ((spec_l9Put.f kj4 x5_1 ((rd_T138 l0 x6_1).f0)).bind fun t286 => (spec_InHouse.l0 kj4 l0 a1 t286 (wrap64 (x6_1 + 1)))) else (spec_InHouse.l0 kj4 l0 a1 x5_1 (wrap64 (x6_1 + 1)))) else (spec_InHouse.l0 kj4 l0 a1 x5_1 (wrap64 (x6_1 + 1)))) else (none)) else (none))) else (none)) else (none)) = some r := by rw [if_pos rfl] at H; exact H
     clear H
     have H := H1
     clear H1
     by_cases c10 : 0 ≤ x6_1
     rotate_left
     ·rw [if_neg c10] at H
      exact absurd H (by simp)
     rw [if_pos c10] at H
     have c10b0 : decide (0 ≤ x6_1) = true := decide_eq_true c10
     clear c10
     by_cases c11 : x6_1 < (l0.length : Int)
     rotate_left
     ·rw [if_neg c11] at H
      exact absurd H (by simp)
     rw [if_pos c11] at H
     have c11b0 : decide (x6_1 < (l0.length : Int)) = true := decide_eq_true c11
     clear c11
     replace H := Option.bind_eq_some_iff.mp H
     obtain ⟨t282, A120, H⟩ := H
     replace H : (if 0 ≤ t282 then (if t282 < (l0.length : Int) then (if ((rd_T138 l0 t282).f1) = 2 then (if ((rd_T138 l0 t282).f2) = a1 then ((spec_l9Put.f kj4 x5_1 ((rd_T138 l0 x6_1).f0)).bind fun t286 => (spec_InHouse.l0 kj4 l0 a1 t286 (wrap64 (x6_1 + 1)))) else (spec_InHouse.l0 kj4 l0 a1 x5_1 (wrap64 (x6_1 + 1)))) else (spec_InHouse.l0 kj4 l0 a1 x5_1 (wrap64 (x6_1 + 1)))) else (none)) else (none)) = some r := H
     have A12 := zK A120
     clear A120
     by_cases c13 : 0 ≤ t282
     rotate_left
     ·rw [if_neg c13] at H
      exact absurd H (by simp)
     rw [if_pos c13] at H
     have c13b0 : decide (0 ≤ t282) = true := decide_eq_true c13
     clear c13
     by_cases c14 : t282 < (l0.length : Int)
     rotate_left
     ·rw [if_neg c14] at H
      exact absurd H (by simp)
     rw [if_pos c14] at H
     have c14b0 : decide (t282 < (l0.length : Int)) = true := decide_eq_true c14
     clear c14
     by_cases c15 : ((rd_T138 l0 t282).f1) = 2
     rotate_left
     ·rw [if_neg c15] at H
      have c15b0 : (((rd_T138 l0 t282).f1) == 2) = false := beq_eq_false_iff_ne.mpr c15
      have c15b1 : (((rd_T138 l0 t282).f1) != 2) = true := bne_iff_ne.mpr c15
      have H' := zK H
      clear H
      have p281 : 0 ≤ (x6_1 : Int) := oD (by first | (with_reducible assumption) | assumption)
      have q281 : x6_1 < (l0.length : Int) := oD (by first | (with_reducible assumption) | assumption)
      obtain ⟨ad281, e281, hx281_0, hx281_1, hx281_2, hx281_3, hx281_4⟩ := at_T138 HR0.out x6_1 p281 q281
      cases e281
      replace hx281_0 := (HB.out.cell (bL w hx281_0)).trans hx281_0
      replace hx281_1 := (HB.out.cell (bL w hx281_1)).trans hx281_1
      replace hx281_2 := (HB.out.cell (bL w hx281_2)).trans hx281_2
      replace hx281_3 := (HB.out.cell (bL w hx281_3)).trans hx281_3
      replace hx281_4 := (HB.out.cell (bL w hx281_4)).trans hx281_4
      replace p281 := eq_true p281
      replace q281 := eq_true q281
      go_wp2_with (first | ((with_reducible refine gate_callee (f := 153) rfl ?_); refine goesL_ (some 27) rfl rfl Try.func153 (by kernel_rfl) rfl #[.slice (some ad281) l0.length c0, .int .i64 ((rd_T138 l0 x6_1).f0), .int .i64 (l0.length : Int)] rfl (by (try simp only [List.map_toArray, List.map_cons, List.map_nil]); first | done | rfl | (simp only [List.length_drop, List.length_take]; rfl)) ?_; (with_reducible refine (spec_l16Last.calls kj4 _ _ l0 ((rd_T138 l0 x6_1).f0) (l0.length : Int) t282 _ ?side1 ?side2 A12.out).mono ?_); (case side1 => repeat (first | exact (Kd.C_below HR0.out HB.out) | (with_reducible refine Kd.CA ?_ _) | (with_reducible refine Kd.CN ?_ _) | (with_reducible refine Kd.CD ?_))); (case side2 => exact HC0.out); rintro e w' ⟨rfl, ⟨nd, rfl⟩⟩; refine ⟨_, rfl, ?_⟩; have p283 : 0 ≤ (t282 : Int) := oD (by first | (with_reducible assumption) | assumption); have q283 : t282 < (l0.length : Int) := oD (by first | (with_reducible assumption) | assumption); obtain ⟨ad283, e283, hx283_0, hx283_1, hx283_2, hx283_3, hx283_4⟩ := at_T138 HR0.out t282 p283 q283; obtain rfl : ad281 = ad283 := (by injection e283); replace hx283_0 := (HB.out.cell (bL w hx283_0)).trans hx283_0; replace hx283_1 := (HB.out.cell (bL w hx283_1)).trans hx283_1; replace hx283_2 := (HB.out.cell (bL w hx283_2)).trans hx283_2; replace hx283_3 := (HB.out.cell (bL w hx283_3)).trans hx283_3; replace hx283_4 := (HB.out.cell (bL w hx283_4)).trans hx283_4; replace p283 := eq_true p283; replace q283 := eq_true q283))
      go_roundg kj4
      case measure => have := HK1.out; have := HJ4.out; omega
      case rel => exact ⟨(x5_1), (wrap64 (x6_1 + 1)), (by first | rfl | (simp; done) | (simp [*]; done)), H', ⟨by have := HK1.out; have := HJ4.out; omega⟩, ⟨by (with_reducible repeat (first | apply Kd.RA | apply Kd.RN | apply Kd.RD)); exact HO_5.out⟩, ⟨by repeat (first | (with_reducible first | exact HB.out | apply bA | apply bN | apply b1) | exact HB.out)⟩⟩
     rw [if_pos c15] at H
     have c15b0 : (((rd_T138 l0 t282).f1) == 2) = true := beq_iff_eq.mpr c15
     have c15b1 : (((rd_T138 l0 t282).f1) != 2) = false := bne_eq_false_iff_eq.mpr c15
     clear c15
     by_cases c16 : ((rd_T138 l0 t282).f2) = a1
     rotate_left
     ·rw [if_neg c16] at H
      have c16b0 : (((rd_T138 l0 t282).f2) == a1) = false := beq_eq_false_iff_ne.mpr c16
      have c16b1 : (((rd_T138 l0 t282).f2) != a1) = true := bne_iff_ne.mpr c16
      have H' := zK H
      clear H
      have p281 : 0 ≤ (x6_1 : Int) := oD (by first | (with_reducible assumption) | assumption)
      have q281 : x6_1 < (l0.length : Int) := oD (by first | (with_reducible assumption) | assumption)
      obtain ⟨ad281, e281, hx281_0, hx281_1, hx281_2, hx281_3, hx281_4⟩ := at_T138 HR0.out x6_1 p281 q281
      cases e281
      replace hx281_0 := (HB.out.cell (bL w hx281_0)).trans hx281_0
      replace hx281_1 := (HB.out.cell (bL w hx281_1)).trans hx281_1
      replace hx281_2 := (HB.out.cell (bL w hx281_2)).trans hx281_2
      replace hx281_3 := (HB.out.cell (bL w hx281_3)).trans hx281_3
      replace hx281_4 := (HB.out.cell (bL w hx281_4)).trans hx281_4
      replace p281 := eq_true p281
      replace q281 := eq_true q281
      go_wp2_with (first | ((with_reducible refine gate_callee (f := 153) rfl ?_); refine goesL_ (some 27) rfl rfl Try.func153 (by kernel_rfl) rfl #[.slice (some ad281) l0.length c0, .int .i64 ((rd_T138 l0 x6_1).f0), .int .i64 (l0.length : Int)] rfl (by (try simp only [List.map_toArray, List.map_cons, List.map_nil]); first | done | rfl | (simp only [List.length_drop, List.length_take]; rfl)) ?_; (with_reducible refine (spec_l16Last.calls kj4 _ _ l0 ((rd_T138 l0 x6_1).f0) (l0.length : Int) t282 _ ?side1 ?side2 A12.out).mono ?_); (case side1 => repeat (first | exact (Kd.C_below HR0.out HB.out) | (with_reducible refine Kd.CA ?_ _) | (with_reducible refine Kd.CN ?_ _) | (with_reducible refine Kd.CD ?_))); (case side2 => exact HC0.out); rintro e w' ⟨rfl, ⟨nd, rfl⟩⟩; refine ⟨_, rfl, ?_⟩; have p283 : 0 ≤ (t282 : Int) := oD (by first | (with_reducible assumption) | assumption); have q283 : t282 < (l0.length : Int) := oD (by first | (with_reducible assumption) | assumption); obtain ⟨ad283, e283, hx283_0, hx283_1, hx283_2, hx283_3, hx283_4⟩ := at_T138 HR0.out t282 p283 q283; obtain rfl : ad281 = ad283 := (by injection e283); replace hx283_0 := (HB.out.cell (bL w hx283_0)).trans hx283_0; replace hx283_1 := (HB.out.cell (bL w hx283_1)).trans hx283_1; replace hx283_2 := (HB.out.cell (bL w hx283_2)).trans hx283_2; replace hx283_3 := (HB.out.cell (bL w hx283_3)).trans hx283_3; replace hx283_4 := (HB.out.cell (bL w hx283_4)).trans hx283_4; replace p283 := eq_true p283; replace q283 := eq_true q283; have p284 : 0 ≤ (t282 : Int) := oD (by first | (with_reducible assumption) | assumption); have q284 : t282 < (l0.length : Int) := oD (by first | (with_reducible assumption) | assumption); obtain ⟨ad284, e284, hx284_0, hx284_1, hx284_2, hx284_3, hx284_4⟩ := at_T138 HR0.out t282 p284 q284; obtain rfl : ad281 = ad284 := (by injection e284); replace hx284_0 := (HB.out.cell (bL w hx284_0)).trans hx284_0; replace hx284_1 := (HB.out.cell (bL w hx284_1)).trans hx284_1; replace hx284_2 := (HB.out.cell (bL w hx284_2)).trans hx284_2; replace hx284_3 := (HB.out.cell (bL w hx284_3)).trans hx284_3; replace hx284_4 := (HB.out.cell (bL w hx284_4)).trans hx284_4; replace p284 := eq_true p284; replace q284 := eq_true q284))
      go_roundg kj4
      case measure => have := HK1.out; have := HJ4.out; omega
      case rel => exact ⟨(x5_1), (wrap64 (x6_1 + 1)), (by first | rfl | (simp; done) | (simp [*]; done)), H', ⟨by have := HK1.out; have := HJ4.out; omega⟩, ⟨by (with_reducible repeat (first | apply Kd.RA | apply Kd.RN | apply Kd.RD)); exact HO_5.out⟩, ⟨by repeat (first | (with_reducible first | exact HB.out | apply bA | apply bN | apply b1) | exact HB.out)⟩⟩
     rw [if_pos c16] at H
     have c16b0 : (((rd_T138 l0 t282).f2) == a1) = true := beq_iff_eq.mpr c16
     have c16b1 : (((rd_T138 l0 t282).f2) != a1) = false := bne_eq_false_iff_eq.mpr c16
     clear c16
     replace H := Option.bind_eq_some_iff.mp H
     obtain ⟨t286, A170, H⟩ := H
     replace H : (spec_InHouse.l0 kj4 l0 a1 t286 (wrap64 (x6_1 + 1))) = some r := H
     have A17 := zK A170
     clear A170
     have H' := zK H
     clear H
     have p281 : 0 ≤ (x6_1 : Int) := oD (by first | (with_reducible assumption) | assumption)
     have q281 : x6_1 < (l0.length : Int) := oD (by first | (with_reducible assumption) | assumption)
     obtain ⟨ad281, e281, hx281_0, hx281_1, hx281_2, hx281_3, hx281_4⟩ := at_T138 HR0.out x6_1 p281 q281
     cases e281
     replace hx281_0 := (HB.out.cell (bL w hx281_0)).trans hx281_0
     replace hx281_1 := (HB.out.cell (bL w hx281_1)).trans hx281_1
     replace hx281_2 := (HB.out.cell (bL w hx281_2)).trans hx281_2
     replace hx281_3 := (HB.out.cell (bL w hx281_3)).trans hx281_3
     replace hx281_4 := (HB.out.cell (bL w hx281_4)).trans hx281_4
     replace p281 := eq_true p281
     replace q281 := eq_true q281
     go_wp2_with (first | ((with_reducible refine gate_callee (f := 153) rfl ?_); refine goesL_ (some 27) rfl rfl Try.func153 (by kernel_rfl) rfl #[.slice (some ad281) l0.length c0, .int .i64 ((rd_T138 l0 x6_1).f0), .int .i64 (l0.length : Int)] rfl (by (try simp only [List.map_toArray, List.map_cons, List.map_nil]); first | done | rfl | (simp only [List.length_drop, List.length_take]; rfl)) ?_; (with_reducible refine (spec_l16Last.calls kj4 _ _ l0 ((rd_T138 l0 x6_1).f0) (l0.length : Int) t282 _ ?side1 ?side2 A12.out).mono ?_); (case side1 => repeat (first | exact (Kd.C_below HR0.out HB.out) | (with_reducible refine Kd.CA ?_ _) | (with_reducible refine Kd.CN ?_ _) | (with_reducible refine Kd.CD ?_))); (case side2 => exact HC0.out); rintro e w' ⟨rfl, ⟨nd, rfl⟩⟩; refine ⟨_, rfl, ?_⟩; have p283 : 0 ≤ (t282 : Int) := oD (by first | (with_reducible assumption) | assumption); have q283 : t282 < (l0.length : Int) := oD (by first | (with_reducible assumption) | assumption); obtain ⟨ad283, e283, hx283_0, hx283_1, hx283_2, hx283_3, hx283_4⟩ := at_T138 HR0.out t282 p283 q283; obtain rfl : ad281 = ad283 := (by injection e283); replace hx283_0 := (HB.out.cell (bL w hx283_0)).trans hx283_0; replace hx283_1 := (HB.out.cell (bL w hx283_1)).trans hx283_1; replace hx283_2 := (HB.out.cell (bL w hx283_2)).trans hx283_2; replace hx283_3 := (HB.out.cell (bL w hx283_3)).trans hx283_3; replace hx283_4 := (HB.out.cell (bL w hx283_4)).trans hx283_4; replace p283 := eq_true p283; replace q283 := eq_true q283; have p284 : 0 ≤ (t282 : Int) := oD (by first | (with_reducible assumption) | assumption); have q284 : t282 < (l0.length : Int) := oD (by first | (with_reducible assumption) | assumption); obtain ⟨ad284, e284, hx284_0, hx284_1, hx284_2, hx284_3, hx284_4⟩ := at_T138 HR0.out t282 p284 q284; obtain rfl : ad281 = ad284 := (by injection e284); replace hx284_0 := (HB.out.cell (bL w hx284_0)).trans hx284_0; replace hx284_1 := (HB.out.cell (bL w hx284_1)).trans hx284_1; replace hx284_2 := (HB.out.cell (bL w hx284_2)).trans hx284_2; replace hx284_3 := (HB.out.cell (bL w hx284_3)).trans hx284_3; replace hx284_4 := (HB.out.cell (bL w hx284_4)).trans hx284_4; replace p284 := eq_true p284; replace q284 := eq_true q284; have p285 : 0 ≤ (x6_1 : Int) := oD (by first | (with_reducible assumption) | assumption); have q285 : x6_1 < (l0.length : Int) := oD (by first | (with_reducible assumption) | assumption); obtain ⟨ad285, e285, hx285_0, hx285_1, hx285_2, hx285_3, hx285_4⟩ := at_T138 HR0.out x6_1 p285 q285; obtain rfl : ad281 = ad285 := (by injection e285); replace hx285_0 := (HB.out.cell (bL w hx285_0)).trans hx285_0; replace hx285_1 := (HB.out.cell (bL w hx285_1)).trans hx285_1; replace hx285_2 := (HB.out.cell (bL w hx285_2)).trans hx285_2; replace hx285_3 := (HB.out.cell (bL w hx285_3)).trans hx285_3; replace hx285_4 := (HB.out.cell (bL w hx285_4)).trans hx285_4; replace p285 := eq_true p285; replace q285 := eq_true q285; obtain ⟨Ao18, co18, eo18⟩ := Kd.R_slice HO_5.out; subst eo18) | ((with_reducible refine gate_callee (f := 83) rfl ?_); refine goesL_ (some 49) rfl rfl Try.func83 (by kernel_rfl) rfl #[.slice Ao18 x5_1.length co18, .int .i64 ((rd_T138 l0 x6_1).f0)] rfl (by (try simp only [List.map_toArray, List.map_cons, List.map_nil]); first | done | rfl | (simp only [List.length_drop, List.length_take]; rfl)) ?_; (with_reducible refine (spec_l9Put.calls kj4 _ _ x5_1 ((rd_T138 l0 x6_1).f0) t286 _ ?side1 ?side2 A17.out).mono ?_); (case side1 => repeat (first | exact (Kd.R_reads' HO_5.out).2.2 | (with_reducible refine Kd.CA ?_ _) | (with_reducible refine Kd.CN ?_ _) | (with_reducible refine Kd.CD ?_))); (case side2 => exact (Kd.R_reads' HO_5.out).2.1); rintro e w19 ⟨v287, rfl, ho0, hb⟩; refine ⟨_, rfl, ?_⟩; have n0_ := zK (Kd.R_elder' (by (with_reducible repeat (first | apply Kd.RA | apply Kd.RN | apply Kd.RD)); exact HO_5.out) (Kd.R_base ho0) hb); have n1_ := zK (Kd.R_lower (Kd.R_new' ho0 (Kd.R_lt (by (with_reducible repeat (first | apply Kd.RA | apply Kd.RN | apply Kd.RD)); exact HO_5.out))) (bZ (by repeat (first | (with_reducible first | exact HB.out | apply bA | apply bN | apply b1) | exact HB.out)))); have n2_ := zK (bT (by repeat (first | (with_reducible first | exact HB.out | apply bA | apply bN | apply b1) | exact HB.out)) hb); clear HO_5; clear HB; have HO_5 := n0_; have HO288 := n1_; have HB := n2_; clear n0_ n1_ n2_; (try clear hb); (try clear hb2); (try clear hk); (try clear hi); (try clear ho0)))
     go_roundg kj4
     case measure => have := HK1.out; have := HJ4.out; omega
     case rel => exact ⟨(t286), (wrap64 (x6_1 + 1)), (by first | rfl | (simp; done) | (simp [*]; done)), H', ⟨by have := HK1.out; have := HJ4.out; omega⟩, ⟨by (with_reducible repeat (first | apply Kd.RA | apply Kd.RN | apply Kd.RD)); exact Kd.R_mono HO288.out (fun _ hk => trivial)⟩, ⟨by repeat (first | (with_reducible first | exact HB.out | apply bA | apply bN | apply b1) | exact HB.out)⟩⟩
/-! ### spec_l1Once: function 147 -/
def spec_l1Once.f (s0_0 : List Int) (s0_1 : Int) (s0_2 : Int) (a1 : Int) : Option (Bool × Int × Int) := (spec_l1Below.f s0_0 s0_1 s0_2 a1).bind fun bt289 => (some ((bt289.1 == 0), bt289.2.1, bt289.2.2))
set_option maxHeartbeats 8000000 in
set_option maxRecDepth 100000 in
theorem spec_l1Once.calls (g : Nat) (s0_0 : List Int) (s0_1 : Int) (s0_2 : Int) (a1 : Int) (r1 : Bool) (r2 : Int) (r3 : Int) (w0 w : World) (hI : IsS173 w0 w g s0_0 s0_1 s0_2) (hB : Below w0.heap.size w0 w) (h : spec_l1Once.f s0_0 s0_1 s0_2 a1 = some (r1, r2, r3)) :
  Calls Try.prog 147 #[.pointer (some ⟨g, 0, none⟩), .int .i64 a1] w fun e w' => e = .returned (.bool r1) ∧ IsS173 w0 w' g s0_0 r2 r3 ∧ Below w0.heap.size w0 w' ∧ KeepBut w w' g none := by
 have HI0 := zK hI
 have HK := zK (KeepBut.refl w g none)
 have HL := zK hB.size
 clear hI
 have HW0 := zK hB.size
 have HB := zK hB
 clear hB
 have H : ((spec_l1Below.f s0_0 s0_1 s0_2 a1).bind fun bt289 => (some ((bt289.1 == 0), bt289.2.1, bt289.2.2))) = some (r1, r2, r3) := h
 clear h
 replace H := Option.bind_eq_some_iff.mp H
 obtain ⟨⟨t289, t290, t291⟩, A30, H⟩ := H
 replace H : (some ((t289 == 0), t290, t291)) = some (r1, r2, r3) := H
 have A3 := zK A30
 clear A30
 simp only [Option.some.injEq, Prod.mk.injEq] at H
 obtain ⟨rfl, rfl, rfl⟩ := H
 go_enter Try.func147, Try.ntmps147
 go_wp2_with (first | ((with_reducible refine gate_callee (f := 108) rfl ?_); refine goesL_ (some 7) rfl rfl Try.func108 (by kernel_rfl) rfl #[.pointer (some ⟨g, 0, none⟩), .int .i64 a1] rfl (by (try simp only [List.map_toArray, List.map_cons, List.map_nil]); first | done | rfl | (simp only [List.length_drop, List.length_take]; rfl)) ?_; (with_reducible refine (spec_l1Below.calls g s0_0 s0_1 s0_2 a1 t289 t290 t291 w0 _ ?side1 ?side2 A3.out).mono ?_); (case side1 => repeat (first | (with_reducible first | exact HI0.out | apply IsS173.alloc | apply IsS173.drewN | apply IsS173.drew | apply IsS173.set_1 | apply IsS173.set_2) | exact HI0.out)); (case side2 => repeat (first | (with_reducible first | exact HB.out | apply bA | apply bN | apply b1 | refine bS ?_ (IsS173.ge HI0.out)) | exact HB.out)); rintro e w4 ⟨rfl, hi, hb, hk⟩; refine ⟨_, rfl, ?_⟩; have n0_ := zK (KeepBut.trans (by repeat (first | (with_reducible first | exact HK.out | apply KeepBut.set_ | apply keep_drewN | apply keep_drew | apply keep_alloc) | exact HK.out)) hk (.inl rfl)); have n1_ := zK (hb); have n2_ := zK (hi); clear HK; clear HB; clear HI0; have HK := n0_; have HB := n1_; have HI0 := n2_; clear n0_ n1_ n2_; (try clear hb); (try clear hb2); (try clear hk); (try clear hi)))
 go_ret
 exact ⟨by first | rfl | (simp [errW_none, errW_some] <;> rfl) | (simp [*, errW_none, errW_some] <;> rfl), by repeat (first | (with_reducible first | exact HI0.out | apply IsS173.alloc | apply IsS173.drewN | apply IsS173.drew | apply IsS173.set_1 | apply IsS173.set_2) | exact HI0.out), by repeat (first | (with_reducible first | exact HB.out | apply bA | apply bN | apply b1 | refine bS ?_ (IsS173.ge HI0.out)) | exact HB.out), by repeat (first | (with_reducible first | exact HK.out | apply KeepBut.set_ | apply keep_drewN | apply keep_drew | apply keep_alloc) | exact HK.out)⟩

end Go.Proofs.Ytejhjenlodclpaa.PFnParcels
