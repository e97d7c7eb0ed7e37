/- Walks of functions that FnExactSendAll reaches: written by a tool of the kit for this claim, then shortened by a program of ours. -/
import Derived.Test.YtejhjenlodclpaaPFnExactSendAllx0
import Derived.Test.YtejhjenlodclpaaPFnExactSendAllx8
import Derived.Test.YtejhjenlodclpaaPFnExactSendAllx9
import Derived.Test.YtejhjenlodclpaaPFnExactSendAllx10
/- narrow -/
namespace Go.Proofs.Ytejhjenlodclpaa.PFnExactSendAll
open Go.RowKit Go.Proofs.YtejhjenlodclpaaW.PrintWords Go.Proofs.YtejhjenlodclpaaW.PrintLast Go.Proofs.YtejhjenlodclpaaW.PrintMore
attribute [local go_sem] max2_int min2_int max_two min_two max_three min_three max_four min_four   -- for this text's walks alone
set_option linter.unusedVariables false
set_option linter.unusedSimpArgs false

/-! ### spec_InHouse: function 110 -/
mutual
def spec_InHouse.l0 : Nat → List (S138) → Int → List Int → Int → Option (List Int)
 | 0, _, _, _, _ => none
 | k + 1, x0, x1, x5, x6 => if x6 < (x0.length : Int) then ((spec_IsChain.f k x0).bind fun t310 => (spec_InHouse.j1 k x0 x1 x5 x6 t310)) else (spec_InHouse.j1 k x0 x1 x5 x6 false)
def spec_InHouse.j1 : Nat → List (S138) → Int → List Int → Int → Bool → Option (List Int)
 | 0, _, _, _, _, _ => none
 | k + 1, x0, x1, x5, x6, x16 => if x16 = true then (if 0 ≤ x6 then (if x6 < (x0.length : Int) then ((spec_l16Last.f k x0 ((rd_T138 x0 x6).f0) (x0.length : Int)).bind fun t312 => (if 0 ≤ t312 then (if t312 < (x0.length : Int) then (if ((rd_T138 x0 t312).f1) = 2 then (if ((rd_T138 x0 t312).f2) = x1 then ((spec_l9Put.f k x5 ((rd_T138 x0 x6).f0)).bind fun t316 => (spec_InHouse.l0 k x0 x1 t316 (wrap64 (x6 + 1)))) else (spec_InHouse.l0 k x0 x1 x5 (wrap64 (x6 + 1)))) else (spec_InHouse.l0 k x0 x1 x5 (wrap64 (x6 + 1)))) else (none)) else (none))) else (none)) else (none)) else (some x5)
end
def spec_InHouse.f (k : Nat) (l0 : List (S138)) (a1 : Int) : Option (List Int) := spec_InHouse.l0 k l0 a1 (([] : List Int)) 0
set_option maxHeartbeats 8000000 in
set_option maxRecDepth 100000 in
theorem spec_InHouse.calls (k : Nat) (A0 : Option Addr) (c0 : Nat) (l0 : List (S138)) (a1 : Int) (r : List Int) (w : World) (hr0 : Kd.C k138 w A0 l0.length l0) (hc0 : l0.length ≤ c0) (h : spec_InHouse.f k l0 a1 = some r) :
  Calls Try.prog 110 #[.slice A0 l0.length c0, .int .i64 a1] w fun e w' => ∃ v0_ : Value, e = .returned (v0_) ∧ Kd.R (Kd.int .i64) 3 w' w.heap.size (fun _ => True) v0_ r ∧ Below w.heap.size w w' := by
 have HR0 := zK hr0
 have HC0 := zK hc0
 clear hr0 hc0
 have HB := zK (Below.refl w.heap.size w)
 have H : (spec_InHouse.l0 k l0 a1 (([] : List Int)) 0) = some r := h
 clear h
 obtain ⟨y307, hy307⟩ : ∃ y_ : List Int, y_ = (([] : List Int)) := ⟨_, rfl⟩
 replace H : (spec_InHouse.l0 k l0 a1 y307 0) = some r := by first | (rw [hy307]; with_reducible exact H) | (have H2_ := (Option.bind_some _ _).symm.trans H; rw [hy307]; with_reducible exact H2_) | (have H2_ := (Option.bind_some _ _).symm.trans H; with_reducible exact H2_) | with_reducible exact H | (rw [hy307]; exact H) | exact H
 have Ny307 := zK hy307
 clear hy307
 have H' := zK H
 clear H
 go_enter Try.func110, Try.ntmps110
 go_wp2_with (first | ((with_reducible refine gate_dst (N := 8) rfl ?_); refine Kd.R_lit (Kd.int .i64) _ 3 ?hg (N := 8) ?hd (xs := ([] : List Int)) (inner := []) (ok := fun _ => True) (okp := fun _ => True) ?hr ?hp (fun _ hk => hk) trivial (Below.refl _ _) (Nat.le_refl _) (by simp) ?_; (case hd => rfl); (case hg => rfl); (case hr => first | (go_simp; done) | (go_simp; rfl)); (case hp => exact (Reps.none _ _)); intro v308 w3 ho4 hb hg_ hnew_; clear hg_ hnew_; (first | rw [← Ny307.out] at ho4 | (simp only [Int.reduceToNat] at ho4; rw [← Ny307.out] at ho4)); have n0_ := zK (Kd.R_lower ho4 (bZ (qB HB.out))); have n1_ := zK (bT (qB HB.out) hb); clear HB; have HO309 := n0_; have HB := n1_; clear n0_ n1_; clear hb ho4))
 go_loopg [5, 6] k (fun kq v5 v6 w' => ∃ (x5_1 : List Int) (x6_1 : Int), v6 = .int .i64 x6_1 ∧ Aside0 (spec_InHouse.l0 kq l0 a1 x5_1 x6_1 = some r) ∧ Aside0 (kq ≤ k) ∧ Aside0 (Kd.R (Kd.int .i64) 3 w' w.heap.size (fun _ => True) v5 x5_1) ∧ Aside0 (Below w.heap.size w w'))
 case atStart => exact ⟨(y307), (0), M3, H', ⟨Nat.le_refl _⟩, ⟨by exact Kd.qR HO309.out⟩, ⟨by exact qB HB.out⟩⟩
 case round =>
  clear H'
  try clear c1
  try clear p2
  obtain ⟨x5_1, x6_1, rfl, HA, HK1, HO_5, HB⟩ := hrel
  cases gk with
  | zero => exact absurd HA.out (by simp [spec_InHouse.l0])
  | succ k1 =>
   have H := HA.out
   clear HA
   simp only [spec_InHouse.l0] at H
   have HC5 := zK H
   clear H
   go_upto_region 3 with (fail)
   go_cut [16] (fun v16 wc => ∃ (kq : Nat) (x16_4 : Bool), v16 = .bool x16_4 ∧ Aside0 (spec_InHouse.j1 kq l0 a1 x5_1 x6_1 x16_4 = some r) ∧ Aside0 (kq ≤ k1) ∧ Aside0 (Kd.R (Kd.int .i64) 3 wc w.heap.size (fun _ => True) u5 x5_1) ∧ Aside0 (Below w.heap.size w wc))
   case first =>
    have H := HC5.out
    clear HC5
    by_cases c6 : x6_1 < (l0.length : Int)
    rotate_left
    ·rw [if_neg c6] at H
     have c6b0 : decide (x6_1 < (l0.length : Int)) = false := decide_eq_false c6
     clear c6
     (first | rw [c6b0] | rw [c6b1] | (simp only [i64_w, i32_w]; rw [c6b0]) | skip)
     have H' := zK H
     clear H
     go_wp2
     go_meet
     case rel => exact ⟨_, (false), M3, H', ⟨by have := HK1.out; first | omega | exact Nat.le_refl _⟩, ⟨by exact Kd.qR HO_5.out⟩, ⟨by exact qB HB.out⟩⟩
    rw [if_pos c6] at H
    have c6b0 : decide (x6_1 < (l0.length : Int)) = true := decide_eq_true c6
    clear c6
    (first | rw [c6b0] | rw [c6b1] | (simp only [i64_w, i32_w]; rw [c6b0]) | skip)
    replace H := Option.bind_eq_some_iff.mp H
    obtain ⟨t310, A70, H⟩ := H
    replace H : (spec_InHouse.j1 k1 l0 a1 x5_1 x6_1 t310) = some r := H
    have A7 := zK A70
    clear A70
    have H' := zK H
    clear H
    go_wp2_with (first | (go_at_call 152; (with_reducible refine (spec_IsChain.calls k1 _ _ l0 t310 _ ?side1 ?side2 A7.out).mono ?_); (case side1 => exact Kd.qC (Kd.C_below HR0.out HB.out)); (case side2 => exact HC0.out); rintro e w8 ⟨rfl, hb⟩; have n0_ := zK (Kd.R_below (Kd.qR HO_5.out) hb); have n1_ := zK (bT (qB HB.out) hb); clear HO_5 HB; have HO_5 := n0_; have HB := n1_; clear n0_ n1_; (try clear hb); (try clear hb2); (try clear hk); (try clear hi)))
    go_meet
    case rel => exact ⟨_, (t310), M3, H', ⟨by have := HK1.out; first | omega | exact Nat.le_refl _⟩, ⟨by exact Kd.qR HO_5.out⟩, ⟨by exact qB HB.out⟩⟩
   case rest =>
    clear HC5
    try clear c1
    try clear p2
    try clear c6
    try clear c6b0
    try clear p2
    obtain ⟨kq, x16_4, rfl, HA, HJ4, HO_5, HB⟩ := hcut
    cases kq with
    | zero => exact absurd HA.out (by simp [spec_InHouse.j1])
    | succ kj4 =>
     have H := HA.out
     clear HA
     simp only [spec_InHouse.j1] at H
     by_cases c9 : x16_4 = true
     rotate_left
     ·replace c9 := Bool.eq_false_iff.mpr c9
      subst c9
      have H1 : (some x5_1) = some r := by rw [if_neg (show ¬ (false = true) by decide)] at H; exact H
      clear H
      have H := H1
      clear H1
      obtain rfl := Option.some.inj H
      go_wp2
      go_ret
      exact ⟨_, by first | rfl | (simp [errW_none, errW_some] <;> rfl) | (simp [*, errW_none, errW_some] <;> rfl), by exact Kd.qR HO_5.out, by exact qB HB.out⟩

     subst c9
     have H1 : (if 0 ≤ x6_1 then (if x6_1 < (l0.length : Int) then ((spec_l16Last.f kj4 l0 ((rd_T138 l0 x6_1).f0) (l0.length : Int)).bind fun t312 => (if 0 ≤ t312 then (if t312 < (l0.length : Int) then (if ((rd_T138 l0 t312).f1) = 2 then (if ((rd_T138 l0 t312).f2) = a1 then ((spec_l9Put.f kj4 x5_1 ((rd_T138 l0 x6_1).f0)).bind fun t316 => (spec_InHouse.l0 kj4 l0 a1 t316 (wrap64 (x6_1 + 1)))) else (spec_InHouse.l0 kj4 l0 a1 x5_1 (wrap64 (x6_1 + 1)))) else (spec_InHouse.l0 kj4 l0 a1 x5_1 (wrap64 (x6_1 + 1)))) else (none)) else (none))) else (none)) else (none)) = some r := by rw [if_pos rfl] at H; exact H
     clear H
     have H := H1
     clear H1
     by_cases c10 : 0 ≤ x6_1
     rotate_left
     ·rw [if_neg c10] at H
      exact absurd H (by simp)
     rw [if_pos c10] at H
     have c10b0 : decide (0 ≤ x6_1) = true := decide_eq_true c10
     clear c10
     by_cases c11 : x6_1 < (l0.length : Int)
     rotate_left
     ·rw [if_neg c11] at H
      exact absurd H (by simp)
     rw [if_pos c11] at H
     have c11b0 : decide (x6_1 < (l0.length : Int)) = true := decide_eq_true c11
     clear c11
     replace H := Option.bind_eq_some_iff.mp H
     obtain ⟨t312, A120, H⟩ := H
     replace H : (if 0 ≤ t312 then (if t312 < (l0.length : Int) then (if ((rd_T138 l0 t312).f1) = 2 then (if ((rd_T138 l0 t312).f2) = a1 then ((spec_l9Put.f kj4 x5_1 ((rd_T138 l0 x6_1).f0)).bind fun t316 => (spec_InHouse.l0 kj4 l0 a1 t316 (wrap64 (x6_1 + 1)))) else (spec_InHouse.l0 kj4 l0 a1 x5_1 (wrap64 (x6_1 + 1)))) else (spec_InHouse.l0 kj4 l0 a1 x5_1 (wrap64 (x6_1 + 1)))) else (none)) else (none)) = some r := H
     have A12 := zK A120
     clear A120
     by_cases c13 : 0 ≤ t312
     rotate_left
     ·rw [if_neg c13] at H
      exact absurd H (by simp)
     rw [if_pos c13] at H
     have c13b0 : decide (0 ≤ t312) = true := decide_eq_true c13
     clear c13
     by_cases c14 : t312 < (l0.length : Int)
     rotate_left
     ·rw [if_neg c14] at H
      exact absurd H (by simp)
     rw [if_pos c14] at H
     have c14b0 : decide (t312 < (l0.length : Int)) = true := decide_eq_true c14
     clear c14
     by_cases c15 : ((rd_T138 l0 t312).f1) = 2
     rotate_left
     ·rw [if_neg c15] at H
      have c15b0 : (((rd_T138 l0 t312).f1) == 2) = false := beq_eq_false_iff_ne.mpr c15
      have c15b1 : (((rd_T138 l0 t312).f1) != 2) = true := bne_iff_ne.mpr c15
      have H' := zK H
      clear H
      have p311 : 0 ≤ (x6_1 : Int) := oD M1
      have q311 : x6_1 < (l0.length : Int) := oD M1
      obtain ⟨ad311, e311, hx311_0, hx311_1, hx311_2, hx311_3, hx311_4⟩ := at_T138 HR0.out x6_1 p311 q311
      cases e311
      replace hx311_0 := (HB.out.cell (bL w hx311_0)).trans hx311_0
      replace hx311_1 := (HB.out.cell (bL w hx311_1)).trans hx311_1
      replace hx311_2 := (HB.out.cell (bL w hx311_2)).trans hx311_2
      replace hx311_3 := (HB.out.cell (bL w hx311_3)).trans hx311_3
      replace hx311_4 := (HB.out.cell (bL w hx311_4)).trans hx311_4
      replace p311 := eq_true p311
      replace q311 := eq_true q311
      go_wp2_with (first | ((with_reducible refine gate_callee (f := 153) rfl ?_); refine goesL_ (some 27) rfl rfl Try.func153 (by kernel_rfl) rfl #[.slice (some ad311) l0.length c0, .int .i64 ((rd_T138 l0 x6_1).f0), .int .i64 (l0.length : Int)] rfl M0 ?_; (with_reducible refine (spec_l16Last.calls kj4 _ _ l0 ((rd_T138 l0 x6_1).f0) (l0.length : Int) t312 _ ?side1 ?side2 A12.out).mono ?_); (case side1 => exact Kd.qC (Kd.C_below HR0.out HB.out)); (case side2 => exact HC0.out); rintro e w' ⟨rfl, ⟨nd, rfl⟩⟩; refine ⟨_, rfl, ?_⟩; have p313 : 0 ≤ (t312 : Int) := oD M1; have q313 : t312 < (l0.length : Int) := oD M1; obtain ⟨ad313, e313, hx313_0, hx313_1, hx313_2, hx313_3, hx313_4⟩ := at_T138 HR0.out t312 p313 q313; obtain rfl : ad311 = ad313 := (by injection e313); replace hx313_0 := (HB.out.cell (bL w hx313_0)).trans hx313_0; replace hx313_1 := (HB.out.cell (bL w hx313_1)).trans hx313_1; replace hx313_2 := (HB.out.cell (bL w hx313_2)).trans hx313_2; replace hx313_3 := (HB.out.cell (bL w hx313_3)).trans hx313_3; replace hx313_4 := (HB.out.cell (bL w hx313_4)).trans hx313_4; replace p313 := eq_true p313; replace q313 := eq_true q313))
      go_roundg kj4
      case measure => have := HK1.out; have := HJ4.out; omega
      case rel => exact ⟨(x5_1), (wrap64 (x6_1 + 1)), M3, H', ⟨by have := HK1.out; have := HJ4.out; omega⟩, ⟨by exact Kd.qR HO_5.out⟩, ⟨by exact qB HB.out⟩⟩
     rw [if_pos c15] at H
     have c15b0 : (((rd_T138 l0 t312).f1) == 2) = true := beq_iff_eq.mpr c15
     have c15b1 : (((rd_T138 l0 t312).f1) != 2) = false := bne_eq_false_iff_eq.mpr c15
     clear c15
     by_cases c16 : ((rd_T138 l0 t312).f2) = a1
     rotate_left
     ·rw [if_neg c16] at H
      have c16b0 : (((rd_T138 l0 t312).f2) == a1) = false := beq_eq_false_iff_ne.mpr c16
      have c16b1 : (((rd_T138 l0 t312).f2) != a1) = true := bne_iff_ne.mpr c16
      have H' := zK H
      clear H
      have p311 : 0 ≤ (x6_1 : Int) := oD M1
      have q311 : x6_1 < (l0.length : Int) := oD M1
      obtain ⟨ad311, e311, hx311_0, hx311_1, hx311_2, hx311_3, hx311_4⟩ := at_T138 HR0.out x6_1 p311 q311
      cases e311
      replace hx311_0 := (HB.out.cell (bL w hx311_0)).trans hx311_0
      replace hx311_1 := (HB.out.cell (bL w hx311_1)).trans hx311_1
      replace hx311_2 := (HB.out.cell (bL w hx311_2)).trans hx311_2
      replace hx311_3 := (HB.out.cell (bL w hx311_3)).trans hx311_3
      replace hx311_4 := (HB.out.cell (bL w hx311_4)).trans hx311_4
      replace p311 := eq_true p311
      replace q311 := eq_true q311
      go_wp2_with (first | ((with_reducible refine gate_callee (f := 153) rfl ?_); refine goesL_ (some 27) rfl rfl Try.func153 (by kernel_rfl) rfl #[.slice (some ad311) l0.length c0, .int .i64 ((rd_T138 l0 x6_1).f0), .int .i64 (l0.length : Int)] rfl M0 ?_; (with_reducible refine (spec_l16Last.calls kj4 _ _ l0 ((rd_T138 l0 x6_1).f0) (l0.length : Int) t312 _ ?side1 ?side2 A12.out).mono ?_); (case side1 => exact Kd.qC (Kd.C_below HR0.out HB.out)); (case side2 => exact HC0.out); rintro e w' ⟨rfl, ⟨nd, rfl⟩⟩; refine ⟨_, rfl, ?_⟩; have p313 : 0 ≤ (t312 : Int) := oD M1; have q313 : t312 < (l0.length : Int) := oD M1; obtain ⟨ad313, e313, hx313_0, hx313_1, hx313_2, hx313_3, hx313_4⟩ := at_T138 HR0.out t312 p313 q313; obtain rfl : ad311 = ad313 := (by injection e313); replace hx313_0 := (HB.out.cell (bL w hx313_0)).trans hx313_0; replace hx313_1 := (HB.out.cell (bL w hx313_1)).trans hx313_1; replace hx313_2 := (HB.out.cell (bL w hx313_2)).trans hx313_2; replace hx313_3 := (HB.out.cell (bL w hx313_3)).trans hx313_3; replace hx313_4 := (HB.out.cell (bL w hx313_4)).trans hx313_4; replace p313 := eq_true p313; replace q313 := eq_true q313; have p314 : 0 ≤ (t312 : Int) := oD M1; have q314 : t312 < (l0.length : Int) := oD M1; obtain ⟨ad314, e314, hx314_0, hx314_1, hx314_2, hx314_3, hx314_4⟩ := at_T138 HR0.out t312 p314 q314; obtain rfl : ad311 = ad314 := (by injection e314); replace hx314_0 := (HB.out.cell (bL w hx314_0)).trans hx314_0; replace hx314_1 := (HB.out.cell (bL w hx314_1)).trans hx314_1; replace hx314_2 := (HB.out.cell (bL w hx314_2)).trans hx314_2; replace hx314_3 := (HB.out.cell (bL w hx314_3)).trans hx314_3; replace hx314_4 := (HB.out.cell (bL w hx314_4)).trans hx314_4; replace p314 := eq_true p314; replace q314 := eq_true q314))
      go_roundg kj4
      case measure => have := HK1.out; have := HJ4.out; omega
      case rel => exact ⟨(x5_1), (wrap64 (x6_1 + 1)), M3, H', ⟨by have := HK1.out; have := HJ4.out; omega⟩, ⟨by exact Kd.qR HO_5.out⟩, ⟨by exact qB HB.out⟩⟩
     rw [if_pos c16] at H
     have c16b0 : (((rd_T138 l0 t312).f2) == a1) = true := beq_iff_eq.mpr c16
     have c16b1 : (((rd_T138 l0 t312).f2) != a1) = false := bne_eq_false_iff_eq.mpr c16
     clear c16
     replace H := Option.bind_eq_some_iff.mp H
     obtain ⟨t316, A170, H⟩ := H
     replace H : (spec_InHouse.l0 kj4 l0 a1 t316 (wrap64 (x6_1 + 1))) = some r := H
     have A17 := zK A170
     clear A170
     have H' := zK H
     clear H
     have p311 : 0 ≤ (x6_1 : Int) := oD M1
     have q311 : x6_1 < (l0.length : Int) := oD M1
     obtain ⟨ad311, e311, hx311_0, hx311_1, hx311_2, hx311_3, hx311_4⟩ := at_T138 HR0.out x6_1 p311 q311
     cases e311
     replace hx311_0 := (HB.out.cell (bL w hx311_0)).trans hx311_0
     replace hx311_1 := (HB.out.cell (bL w hx311_1)).trans hx311_1
     replace hx311_2 := (HB.out.cell (bL w hx311_2)).trans hx311_2
     replace hx311_3 := (HB.out.cell (bL w hx311_3)).trans hx311_3
     replace hx311_4 := (HB.out.cell (bL w hx311_4)).trans hx311_4
     replace p311 := eq_true p311
     replace q311 := eq_true q311
     go_wp2_with (first | ((with_reducible refine gate_callee (f := 153) rfl ?_); refine goesL_ (some 27) rfl rfl Try.func153 (by kernel_rfl) rfl #[.slice (some ad311) l0.length c0, .int .i64 ((rd_T138 l0 x6_1).f0), .int .i64 (l0.length : Int)] rfl M0 ?_; (with_reducible refine (spec_l16Last.calls kj4 _ _ l0 ((rd_T138 l0 x6_1).f0) (l0.length : Int) t312 _ ?side1 ?side2 A12.out).mono ?_); (case side1 => exact Kd.qC (Kd.C_below HR0.out HB.out)); (case side2 => exact HC0.out); rintro e w' ⟨rfl, ⟨nd, rfl⟩⟩; refine ⟨_, rfl, ?_⟩; have p313 : 0 ≤ (t312 : Int) := oD M1; have q313 : t312 < (l0.length : Int) := oD M1; obtain ⟨ad313, e313, hx313_0, hx313_1, hx313_2, hx313_3, hx313_4⟩ := at_T138 HR0.out t312 p313 q313; obtain rfl : ad311 = ad313 := (by injection e313); replace hx313_0 := (HB.out.cell (bL w hx313_0)).trans hx313_0; replace hx313_1 := (HB.out.cell (bL w hx313_1)).trans hx313_1; replace hx313_2 := (HB.out.cell (bL w hx313_2)).trans hx313_2; replace hx313_3 := (HB.out.cell (bL w hx313_3)).trans hx313_3; replace hx313_4 := (HB.out.cell (bL w hx313_4)).trans hx313_4; replace p313 := eq_true p313; replace q313 := eq_true q313; have p314 : 0 ≤ (t312 : Int) := oD M1; have q314 : t312 < (l0.length : Int) := oD M1; obtain ⟨ad314, e314, hx314_0, hx314_1, hx314_2, hx314_3, hx314_4⟩ := at_T138 HR0.out t312 p314 q314; obtain rfl : ad311 = ad314 := (by injection e314); replace hx314_0 := (HB.out.cell (bL w hx314_0)).trans hx314_0; replace hx314_1 := (HB.out.cell (bL w hx314_1)).trans hx314_1; replace hx314_2 := (HB.out.cell (bL w hx314_2)).trans hx314_2; replace hx314_3 := (HB.out.cell (bL w hx314_3)).trans hx314_3; replace hx314_4 := (HB.out.cell (bL w hx314_4)).trans hx314_4; replace p314 := eq_true p314; replace q314 := eq_true q314; have p315 : 0 ≤ (x6_1 : Int) := oD M1; have q315 : x6_1 < (l0.length : Int) := oD M1; obtain ⟨ad315, e315, hx315_0, hx315_1, hx315_2, hx315_3, hx315_4⟩ := at_T138 HR0.out x6_1 p315 q315; obtain rfl : ad311 = ad315 := (by injection e315); replace hx315_0 := (HB.out.cell (bL w hx315_0)).trans hx315_0; replace hx315_1 := (HB.out.cell (bL w hx315_1)).trans hx315_1; replace hx315_2 := (HB.out.cell (bL w hx315_2)).trans hx315_2; replace hx315_3 := (HB.out.cell (bL w hx315_3)).trans hx315_3; replace hx315_4 := (HB.out.cell (bL w hx315_4)).trans hx315_4; replace p315 := eq_true p315; replace q315 := eq_true q315; obtain ⟨Ao18, co18, eo18⟩ := Kd.R_slice HO_5.out; subst eo18) | ((with_reducible refine gate_callee (f := 83) rfl ?_); refine goesL_ (some 49) rfl rfl Try.func83 (by kernel_rfl) rfl #[.slice Ao18 x5_1.length co18, .int .i64 ((rd_T138 l0 x6_1).f0)] rfl M0 ?_; (with_reducible refine (spec_l9Put.calls kj4 _ _ x5_1 ((rd_T138 l0 x6_1).f0) t316 _ ?side1 ?side2 A17.out).mono ?_); (case side1 => exact Kd.qC (Kd.R_reads' HO_5.out).2.2); (case side2 => exact (Kd.R_reads' HO_5.out).2.1); rintro e w19 ⟨v317, rfl, ho0, hb⟩; refine ⟨_, rfl, ?_⟩; have n0_ := zK (Kd.R_elder' (Kd.qR HO_5.out) (Kd.R_base ho0) hb); have n1_ := zK (Kd.R_lower (Kd.R_new' ho0 (Kd.R_lt (Kd.qR HO_5.out))) (bZ (qB HB.out))); have n2_ := zK (bT (qB HB.out) hb); clear HO_5 HB; have HO_5 := n0_; have HO318 := n1_; have HB := n2_; clear n0_ n1_ n2_; (try clear hb); (try clear hb2); (try clear hk); (try clear hi); (try clear ho0)))
     go_roundg kj4
     case measure => have := HK1.out; have := HJ4.out; omega
     case rel => exact ⟨(t316), (wrap64 (x6_1 + 1)), M3, H', ⟨by have := HK1.out; have := HJ4.out; omega⟩, ⟨by (with_reducible repeat (first | apply Kd.RA | apply Kd.RN | apply Kd.RD)); exact Kd.R_mono HO318.out (fun _ hk => trivial)⟩, ⟨by exact qB HB.out⟩⟩
end Go.Proofs.Ytejhjenlodclpaa.PFnExactSendAll
