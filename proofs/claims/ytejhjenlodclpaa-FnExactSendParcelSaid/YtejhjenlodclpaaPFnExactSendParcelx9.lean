/- Walks of functions that FnExactSendParcel reaches: written by a tool of the kit for this claim, then shortened by a program of ours. -/
import Derived.Test.YtejhjenlodclpaaPFnExactSendParcelx0
import Derived.Test.YtejhjenlodclpaaPFnExactSendParcelx6
import Derived.Test.YtejhjenlodclpaaPFnExactSendParcelx7
import Derived.Test.YtejhjenlodclpaaPFnExactSendParcelx8
namespace Go.Proofs.Ytejhjenlodclpaa.PFnExactSendParcel
open Go.RowKit Go.Proofs.YtejhjenlodclpaaW.PrintWords Go.Proofs.YtejhjenlodclpaaW.PrintLast Go.Proofs.YtejhjenlodclpaaW.PrintMore
attribute [local go_sem] max2_int min2_int max_two min_two max_three min_three max_four min_four   -- for this text's walks alone
set_option linter.unusedVariables false
set_option linter.unusedSimpArgs false

/-! ### spec_InHouse: function 110 -/
mutual
def spec_InHouse.l0 : Nat → List (S138) → Int → List Int → Int → Option (List Int)
  | 0, _, _, _, _ => none
  | k + 1, x0, x1, x5, x6 => if x6 < (x0.length : Int) then ((spec_IsChain.f k x0).bind fun t271 => (spec_InHouse.j1 k x0 x1 x5 x6 t271)) else (spec_InHouse.j1 k x0 x1 x5 x6 false)
def spec_InHouse.j1 : Nat → List (S138) → Int → List Int → Int → Bool → Option (List Int)
  | 0, _, _, _, _, _ => none
  | k + 1, x0, x1, x5, x6, x16 => if x16 = true then (if 0 ≤ x6 then (if x6 < (x0.length : Int) then ((spec_l16Last.f k x0 ((rd_T138 x0 x6).f0) (x0.length : Int)).bind fun t273 => (if 0 ≤ t273 then (if t273 < (x0.length : Int) then (if ((rd_T138 x0 t273).f1) = 2 then (if ((rd_T138 x0 t273).f2) = x1 then ((spec_l9Put.f k x5 ((rd_T138 x0 x6).f0)).bind fun t277 => (spec_InHouse.l0 k x0 x1 t277 (wrap64 (x6 + 1)))) else (spec_InHouse.l0 k x0 x1 x5 (wrap64 (x6 + 1)))) else (spec_InHouse.l0 k x0 x1 x5 (wrap64 (x6 + 1)))) else (none)) else (none))) else (none)) else (none)) else (some x5)
end
def spec_InHouse.f (k : Nat) (l0 : List (S138)) (a1 : Int) : Option (List Int) := spec_InHouse.l0 k l0 a1 (([] : List Int)) 0
set_option maxHeartbeats 8000000 in
set_option maxRecDepth 100000 in
theorem spec_InHouse.calls (k : Nat) (A0 : Option Addr) (c0 : Nat) (l0 : List (S138)) (a1 : Int) (r : List Int) (w : World) (hr0 : Kd.C k138 w A0 l0.length l0) (hc0 : l0.length ≤ c0) (h : spec_InHouse.f k l0 a1 = some r) :
    Calls Try.prog 110 #[.slice A0 l0.length c0, .int .i64 a1] w fun e w' => ∃ v0_ : Value, e = .returned (v0_) ∧ Kd.R (Kd.int .i64) 3 w' w.heap.size (fun _ => True) v0_ r ∧ Below w.heap.size w w' := by
  have HR0 := zK hr0
  have HC0 := zK hc0
  clear hr0 hc0
  have HB := zK (Below.refl w.heap.size w)
  have H : (spec_InHouse.l0 k l0 a1 (([] : List Int)) 0) = some r := h
  clear h
  obtain ⟨y268, hy268⟩ : ∃ y_ : List Int, y_ = (([] : List Int)) := ⟨_, rfl⟩
  replace H : (spec_InHouse.l0 k l0 a1 y268 0) = some r := by first | (rw [hy268]; with_reducible exact H) | (have H2_ := (Option.bind_some _ _).symm.trans H; rw [hy268]; with_reducible exact H2_) | (have H2_ := (Option.bind_some _ _).symm.trans H; with_reducible exact H2_) | with_reducible exact H | (rw [hy268]; exact H) | exact H
  have Ny268 := zK hy268
  clear hy268
  have H' := zK H
  clear H
  go_enter Try.func110, Try.ntmps110
  go_wp2_with (first | ((with_reducible refine gate_dst (N := 8) rfl ?_); refine Kd.R_lit (Kd.int .i64) _ 3 ?hg (N := 8) ?hd (xs := ([] : List Int)) (inner := []) (ok := fun _ => True) (okp := fun _ => True) ?hr ?hp (fun _ hk => hk) trivial (Below.refl _ _) (Nat.le_refl _) (by simp) ?_; (case hd => rfl); (case hg => rfl); (case hr => first | (go_simp; done) | (go_simp; rfl)); (case hp => exact (Reps.none _ _)); intro v269 w3 ho4 hb hg_ hnew_; clear hg_ hnew_; (first | rw [← Ny268.out] at ho4 | (simp only [Int.reduceToNat] at ho4; rw [← Ny268.out] at ho4)); have n0_ := zK (Kd.R_lower ho4 (bZ (by repeat (first | (with_reducible first | exact HB.out | apply bA | apply bN | apply b1) | exact HB.out)))); have n1_ := zK (bT (by repeat (first | (with_reducible first | exact HB.out | apply bA | apply bN | apply b1) | exact HB.out)) hb); clear HB; have HO270 := n0_; have HB := n1_; clear n0_ n1_; clear hb ho4))
  go_loopg [5, 6] k (fun kq v5 v6 w' => ∃ (x5_1 : List Int) (x6_1 : Int), v6 = .int .i64 x6_1 ∧ Aside0 (spec_InHouse.l0 kq l0 a1 x5_1 x6_1 = some r) ∧ Aside0 (kq ≤ k) ∧ Aside0 (Kd.R (Kd.int .i64) 3 w' w.heap.size (fun _ => True) v5 x5_1) ∧ Aside0 (Below w.heap.size w w'))
  case atStart => exact ⟨(y268), (0), (by first | rfl | (simp; done) | (simp [*]; done)), H', ⟨Nat.le_refl _⟩, ⟨by (with_reducible repeat (first | apply Kd.RA | apply Kd.RN | apply Kd.RD)); exact HO270.out⟩, ⟨by repeat (first | (with_reducible first | exact HB.out | apply bA | apply bN | apply b1) | exact HB.out)⟩⟩
  case round =>
    clear H'
    try clear c1
    try clear p2
    obtain ⟨x5_1, x6_1, rfl, HA, HK1, HO_5, HB⟩ := hrel
    cases gk with
    | zero => exact absurd HA.out (by simp [spec_InHouse.l0])
    | succ k1 =>
      have H := HA.out
      clear HA
      simp only [spec_InHouse.l0] at H
      have HC5 := zK H
      clear H
      go_upto_region 3 with (fail)
      go_cut [16] (fun v16 wc => ∃ (kq : Nat) (x16_4 : Bool), v16 = .bool x16_4 ∧ Aside0 (spec_InHouse.j1 kq l0 a1 x5_1 x6_1 x16_4 = some r) ∧ Aside0 (kq ≤ k1) ∧ Aside0 (Kd.R (Kd.int .i64) 3 wc w.heap.size (fun _ => True) u5 x5_1) ∧ Aside0 (Below w.heap.size w wc))
      case first =>
        have H := HC5.out
        clear HC5
        by_cases c6 : x6_1 < (l0.length : Int)
        rotate_left
        · rw [if_neg c6] at H
          have c6b0 : decide (x6_1 < (l0.length : Int)) = false := decide_eq_false c6
          clear c6
          (first | rw [c6b0] | rw [c6b1] | (simp only [i64_w, i32_w]; rw [c6b0]) | skip)
          have H' := zK H
          clear H
          go_wp2
          go_meet
          case rel => exact ⟨_, (false), (by first | rfl | (simp; done) | (simp [*]; done)), H', ⟨by have := HK1.out; first | omega | exact Nat.le_refl _⟩, ⟨by (with_reducible repeat (first | apply Kd.RA | apply Kd.RN | apply Kd.RD)); exact HO_5.out⟩, ⟨by repeat (first | (with_reducible first | exact HB.out | apply bA | apply bN | apply b1) | exact HB.out)⟩⟩
        rw [if_pos c6] at H
        have c6b0 : decide (x6_1 < (l0.length : Int)) = true := decide_eq_true c6
        clear c6
        (first | rw [c6b0] | rw [c6b1] | (simp only [i64_w, i32_w]; rw [c6b0]) | skip)
        replace H := Option.bind_eq_some_iff.mp H
        obtain ⟨t271, A70, H⟩ := H
        replace H : (spec_InHouse.j1 k1 l0 a1 x5_1 x6_1 t271) = some r := H
        have A7 := zK A70
        clear A70
        have H' := zK H
        clear H
        go_wp2_with (first | (go_at_call 152; (with_reducible refine (spec_IsChain.calls k1 _ _ l0 t271 _ ?side1 ?side2 A7.out).mono ?_); (case side1 => repeat (first | exact (Kd.C_below HR0.out HB.out) | (with_reducible refine Kd.CA ?_ _) | (with_reducible refine Kd.CN ?_ _) | (with_reducible refine Kd.CD ?_))); (case side2 => exact HC0.out); rintro e w8 ⟨rfl, hb⟩; have n0_ := zK (Kd.R_below (by (with_reducible repeat (first | apply Kd.RA | apply Kd.RN | apply Kd.RD)); exact HO_5.out) hb); have n1_ := zK (bT (by repeat (first | (with_reducible first | exact HB.out | apply bA | apply bN | apply b1) | exact HB.out)) hb); clear HO_5; clear HB; have HO_5 := n0_; have HB := n1_; clear n0_ n1_; (try clear hb); (try clear hb2); (try clear hk); (try clear hi)))
        go_meet
        case rel => exact ⟨_, (t271), (by first | rfl | (simp; done) | (simp [*]; done)), H', ⟨by have := HK1.out; first | omega | exact Nat.le_refl _⟩, ⟨by (with_reducible repeat (first | apply Kd.RA | apply Kd.RN | apply Kd.RD)); exact HO_5.out⟩, ⟨by repeat (first | (with_reducible first | exact HB.out | apply bA | apply bN | apply b1) | exact HB.out)⟩⟩
      case rest =>
        clear HC5
        try clear c1
        try clear p2
        try clear c6
        try clear c6b0
        try clear p2
        obtain ⟨kq, x16_4, rfl, HA, HJ4, HO_5, HB⟩ := hcut
        cases kq with
        | zero => exact absurd HA.out (by simp [spec_InHouse.j1])
        | succ kj4 =>
          have H := HA.out
          clear HA
          simp only [spec_InHouse.j1] at H
          by_cases c9 : x16_4 = true
          rotate_left
          · replace c9 := Bool.eq_false_iff.mpr c9
            subst c9
            have H1 : (some x5_1) = some r := by rw [if_neg (show ¬ (false = true) by decide)] at H; exact H
            clear H
            have H := H1
            clear H1
            obtain rfl := Option.some.inj H
            go_wp2
            go_ret
            exact ⟨_, by first | rfl | (simp [errW_none, errW_some] <;> rfl) | (simp [*, errW_none, errW_some] <;> rfl), by (with_reducible repeat (first | apply Kd.RA | apply Kd.RN | apply Kd.RD)); exact HO_5.out, by repeat (first | (with_reducible first | exact HB.out | apply bA | apply bN | apply b1) | exact HB.out)⟩

          subst c9
          have H1 : (if 0 ≤ x6_1 then (if x6_1 < (l0.length : Int) then ((spec_l16Last.f kj4 l0 ((rd_T138 l0 x6_1).f0) (l0.length : Int)).bind fun t273 => (if 0 ≤ t273 then (if t273 < (l0.length : Int) then (if ((rd_T138 l0 t273).f1) = 2 then (if ((rd_T138 l0 t273).f2) = a1 then ((spec_l9Put.f kj4 x5_1 ((rd_T138 l0 x6_1).f0)).bind fun t277 => (spec_InHouse.l0 kj4 l0 a1 t277 (wrap64 (x6_1 + 1)))) else (spec_InHouse.l0 kj4 l0 a1 x5_1 (wrap64 (x6_1 + 1)))) else (spec_InHouse.l0 kj4 l0 a1 x5_1 (wrap64 (x6_1 + 1)))) else (none)) else (none))) else (none)) else (none)) = some r := by rw [if_pos rfl] at H; exact H
          clear H
          have H := H1
          clear H1
          by_cases c10 : 0 ≤ x6_1
          rotate_left
          · rw [if_neg c10] at H
            exact absurd H (by simp)
          rw [if_pos c10] at H
          have c10b0 : decide (0 ≤ x6_1) = true := decide_eq_true c10
          clear c10
          by_cases c11 : x6_1 < (l0.length : Int)
          rotate_left
          · rw [if_neg c11] at H
            exact absurd H (by simp)
          rw [if_pos c11] at H
          have c11b0 : decide (x6_1 < (l0.length : Int)) = true := decide_eq_true c11
          clear c11
          replace H := Option.bind_eq_some_iff.mp H
          obtain ⟨t273, A120, H⟩ := H
          replace H : (if 0 ≤ t273 then (if t273 < (l0.length : Int) then (if ((rd_T138 l0 t273).f1) = 2 then (if ((rd_T138 l0 t273).f2) = a1 then ((spec_l9Put.f kj4 x5_1 ((rd_T138 l0 x6_1).f0)).bind fun t277 => (spec_InHouse.l0 kj4 l0 a1 t277 (wrap64 (x6_1 + 1)))) else (spec_InHouse.l0 kj4 l0 a1 x5_1 (wrap64 (x6_1 + 1)))) else (spec_InHouse.l0 kj4 l0 a1 x5_1 (wrap64 (x6_1 + 1)))) else (none)) else (none)) = some r := H
          have A12 := zK A120
          clear A120
          by_cases c13 : 0 ≤ t273
          rotate_left
          · rw [if_neg c13] at H
            exact absurd H (by simp)
          rw [if_pos c13] at H
          have c13b0 : decide (0 ≤ t273) = true := decide_eq_true c13
          clear c13
          by_cases c14 : t273 < (l0.length : Int)
          rotate_left
          · rw [if_neg c14] at H
            exact absurd H (by simp)
          rw [if_pos c14] at H
          have c14b0 : decide (t273 < (l0.length : Int)) = true := decide_eq_true c14
          clear c14
          by_cases c15 : ((rd_T138 l0 t273).f1) = 2
          rotate_left
          · rw [if_neg c15] at H
            have c15b0 : (((rd_T138 l0 t273).f1) == 2) = false := beq_eq_false_iff_ne.mpr c15
            have c15b1 : (((rd_T138 l0 t273).f1) != 2) = true := bne_iff_ne.mpr c15
            have H' := zK H
            clear H
            have p272 : 0 ≤ (x6_1 : Int) := oD (by first | (with_reducible assumption) | assumption)
            have q272 : x6_1 < (l0.length : Int) := oD (by first | (with_reducible assumption) | assumption)
            obtain ⟨ad272, e272, hx272_0, hx272_1, hx272_2, hx272_3, hx272_4⟩ := at_T138 HR0.out x6_1 p272 q272
            cases e272
            replace hx272_0 := (HB.out.cell (bL w hx272_0)).trans hx272_0
            replace hx272_1 := (HB.out.cell (bL w hx272_1)).trans hx272_1
            replace hx272_2 := (HB.out.cell (bL w hx272_2)).trans hx272_2
            replace hx272_3 := (HB.out.cell (bL w hx272_3)).trans hx272_3
            replace hx272_4 := (HB.out.cell (bL w hx272_4)).trans hx272_4
            replace p272 := eq_true p272
            replace q272 := eq_true q272
            go_wp2_with (first | ((with_reducible refine gate_callee (f := 153) rfl ?_); refine goesL_ (some 27) rfl rfl Try.func153 (by kernel_rfl) rfl #[.slice (some ad272) l0.length c0, .int .i64 ((rd_T138 l0 x6_1).f0), .int .i64 (l0.length : Int)] rfl (by (try simp only [List.map_toArray, List.map_cons, List.map_nil]); first | done | rfl | (simp only [List.length_drop, List.length_take]; rfl)) ?_; (with_reducible refine (spec_l16Last.calls kj4 _ _ l0 ((rd_T138 l0 x6_1).f0) (l0.length : Int) t273 _ ?side1 ?side2 A12.out).mono ?_); (case side1 => repeat (first | exact (Kd.C_below HR0.out HB.out) | (with_reducible refine Kd.CA ?_ _) | (with_reducible refine Kd.CN ?_ _) | (with_reducible refine Kd.CD ?_))); (case side2 => exact HC0.out); rintro e w' ⟨rfl, ⟨nd, rfl⟩⟩; refine ⟨_, rfl, ?_⟩; have p274 : 0 ≤ (t273 : Int) := oD (by first | (with_reducible assumption) | assumption); have q274 : t273 < (l0.length : Int) := oD (by first | (with_reducible assumption) | assumption); obtain ⟨ad274, e274, hx274_0, hx274_1, hx274_2, hx274_3, hx274_4⟩ := at_T138 HR0.out t273 p274 q274; obtain rfl : ad272 = ad274 := (by injection e274); replace hx274_0 := (HB.out.cell (bL w hx274_0)).trans hx274_0; replace hx274_1 := (HB.out.cell (bL w hx274_1)).trans hx274_1; replace hx274_2 := (HB.out.cell (bL w hx274_2)).trans hx274_2; replace hx274_3 := (HB.out.cell (bL w hx274_3)).trans hx274_3; replace hx274_4 := (HB.out.cell (bL w hx274_4)).trans hx274_4; replace p274 := eq_true p274; replace q274 := eq_true q274))
            go_roundg kj4
            case measure => have := HK1.out; have := HJ4.out; omega
            case rel => exact ⟨(x5_1), (wrap64 (x6_1 + 1)), (by first | rfl | (simp; done) | (simp [*]; done)), H', ⟨by have := HK1.out; have := HJ4.out; omega⟩, ⟨by (with_reducible repeat (first | apply Kd.RA | apply Kd.RN | apply Kd.RD)); exact HO_5.out⟩, ⟨by repeat (first | (with_reducible first | exact HB.out | apply bA | apply bN | apply b1) | exact HB.out)⟩⟩
          rw [if_pos c15] at H
          have c15b0 : (((rd_T138 l0 t273).f1) == 2) = true := beq_iff_eq.mpr c15
          have c15b1 : (((rd_T138 l0 t273).f1) != 2) = false := bne_eq_false_iff_eq.mpr c15
          clear c15
          by_cases c16 : ((rd_T138 l0 t273).f2) = a1
          rotate_left
          · rw [if_neg c16] at H
            have c16b0 : (((rd_T138 l0 t273).f2) == a1) = false := beq_eq_false_iff_ne.mpr c16
            have c16b1 : (((rd_T138 l0 t273).f2) != a1) = true := bne_iff_ne.mpr c16
            have H' := zK H
            clear H
            have p272 : 0 ≤ (x6_1 : Int) := oD (by first | (with_reducible assumption) | assumption)
            have q272 : x6_1 < (l0.length : Int) := oD (by first | (with_reducible assumption) | assumption)
            obtain ⟨ad272, e272, hx272_0, hx272_1, hx272_2, hx272_3, hx272_4⟩ := at_T138 HR0.out x6_1 p272 q272
            cases e272
            replace hx272_0 := (HB.out.cell (bL w hx272_0)).trans hx272_0
            replace hx272_1 := (HB.out.cell (bL w hx272_1)).trans hx272_1
            replace hx272_2 := (HB.out.cell (bL w hx272_2)).trans hx272_2
            replace hx272_3 := (HB.out.cell (bL w hx272_3)).trans hx272_3
            replace hx272_4 := (HB.out.cell (bL w hx272_4)).trans hx272_4
            replace p272 := eq_true p272
            replace q272 := eq_true q272
            go_wp2_with (first | ((with_reducible refine gate_callee (f := 153) rfl ?_); refine goesL_ (some 27) rfl rfl Try.func153 (by kernel_rfl) rfl #[.slice (some ad272) l0.length c0, .int .i64 ((rd_T138 l0 x6_1).f0), .int .i64 (l0.length : Int)] rfl (by (try simp only [List.map_toArray, List.map_cons, List.map_nil]); first | done | rfl | (simp only [List.length_drop, List.length_take]; rfl)) ?_; (with_reducible refine (spec_l16Last.calls kj4 _ _ l0 ((rd_T138 l0 x6_1).f0) (l0.length : Int) t273 _ ?side1 ?side2 A12.out).mono ?_); (case side1 => repeat (first | exact (Kd.C_below HR0.out HB.out) | (with_reducible refine Kd.CA ?_ _) | (with_reducible refine Kd.CN ?_ _) | (with_reducible refine Kd.CD ?_))); (case side2 => exact HC0.out); rintro e w' ⟨rfl, ⟨nd, rfl⟩⟩; refine ⟨_, rfl, ?_⟩; have p274 : 0 ≤ (t273 : Int) := oD (by first | (with_reducible assumption) | assumption); have q274 : t273 < (l0.length : Int) := oD (by first | (with_reducible assumption) | assumption); obtain ⟨ad274, e274, hx274_0, hx274_1, hx274_2, hx274_3, hx274_4⟩ := at_T138 HR0.out t273 p274 q274; obtain rfl : ad272 = ad274 := (by injection e274); replace hx274_0 := (HB.out.cell (bL w hx274_0)).trans hx274_0; replace hx274_1 := (HB.out.cell (bL w hx274_1)).trans hx274_1; replace hx274_2 := (HB.out.cell (bL w hx274_2)).trans hx274_2; replace hx274_3 := (HB.out.cell (bL w hx274_3)).trans hx274_3; replace hx274_4 := (HB.out.cell (bL w hx274_4)).trans hx274_4; replace p274 := eq_true p274; replace q274 := eq_true q274; have p275 : 0 ≤ (t273 : Int) := oD (by first | (with_reducible assumption) | assumption); have q275 : t273 < (l0.length : Int) := oD (by first | (with_reducible assumption) | assumption); obtain ⟨ad275, e275, hx275_0, hx275_1, hx275_2, hx275_3, hx275_4⟩ := at_T138 HR0.out t273 p275 q275; obtain rfl : ad272 = ad275 := (by injection e275); replace hx275_0 := (HB.out.cell (bL w hx275_0)).trans hx275_0; replace hx275_1 := (HB.out.cell (bL w hx275_1)).trans hx275_1; replace hx275_2 := (HB.out.cell (bL w hx275_2)).trans hx275_2; replace hx275_3 := (HB.out.cell (bL w hx275_3)).trans hx275_3; replace hx275_4 := (HB.out.cell (bL w hx275_4)).trans hx275_4; replace p275 := eq_true p275; replace q275 := eq_true q275))
            go_roundg kj4
            case measure => have := HK1.out; have := HJ4.out; omega
            case rel => exact ⟨(x5_1), (wrap64 (x6_1 + 1)), (by first | rfl | (simp; done) | (simp [*]; done)), H', ⟨by have := HK1.out; have := HJ4.out; omega⟩, ⟨by (with_reducible repeat (first | apply Kd.RA | apply Kd.RN | apply Kd.RD)); exact HO_5.out⟩, ⟨by repeat (first | (with_reducible first | exact HB.out | apply bA | apply bN | apply b1) | exact HB.out)⟩⟩
          rw [if_pos c16] at H
          have c16b0 : (((rd_T138 l0 t273).f2) == a1) = true := beq_iff_eq.mpr c16
          have c16b1 : (((rd_T138 l0 t273).f2) != a1) = false := bne_eq_false_iff_eq.mpr c16
          clear c16
          replace H := Option.bind_eq_some_iff.mp H
          obtain ⟨t277, A170, H⟩ := H
          replace H : (spec_InHouse.l0 kj4 l0 a1 t277 (wrap64 (x6_1 + 1))) = some r := H
          have A17 := zK A170
          clear A170
          have H' := zK H
          clear H
          have p272 : 0 ≤ (x6_1 : Int) := oD (by first | (with_reducible assumption) | assumption)
          have q272 : x6_1 < (l0.length : Int) := oD (by first | (with_reducible assumption) | assumption)
          obtain ⟨ad272, e272, hx272_0, hx272_1, hx272_2, hx272_3, hx272_4⟩ := at_T138 HR0.out x6_1 p272 q272
          cases e272
          replace hx272_0 := (HB.out.cell (bL w hx272_0)).trans hx272_0
          replace hx272_1 := (HB.out.cell (bL w hx272_1)).trans hx272_1
          replace hx272_2 := (HB.out.cell (bL w hx272_2)).trans hx272_2
          replace hx272_3 := (HB.out.cell (bL w hx272_3)).trans hx272_3
          replace hx272_4 := (HB.out.cell (bL w hx272_4)).trans hx272_4
          replace p272 := eq_true p272
          replace q272 := eq_true q272
          go_wp2_with (first | ((with_reducible refine gate_callee (f := 153) rfl ?_); refine goesL_ (some 27) rfl rfl Try.func153 (by kernel_rfl) rfl #[.slice (some ad272) l0.length c0, .int .i64 ((rd_T138 l0 x6_1).f0), .int .i64 (l0.length : Int)] rfl (by (try simp only [List.map_toArray, List.map_cons, List.map_nil]); first | done | rfl | (simp only [List.length_drop, List.length_take]; rfl)) ?_; (with_reducible refine (spec_l16Last.calls kj4 _ _ l0 ((rd_T138 l0 x6_1).f0) (l0.length : Int) t273 _ ?side1 ?side2 A12.out).mono ?_); (case side1 => repeat (first | exact (Kd.C_below HR0.out HB.out) | (with_reducible refine Kd.CA ?_ _) | (with_reducible refine Kd.CN ?_ _) | (with_reducible refine Kd.CD ?_))); (case side2 => exact HC0.out); rintro e w' ⟨rfl, ⟨nd, rfl⟩⟩; refine ⟨_, rfl, ?_⟩; have p274 : 0 ≤ (t273 : Int) := oD (by first | (with_reducible assumption) | assumption); have q274 : t273 < (l0.length : Int) := oD (by first | (with_reducible assumption) | assumption); obtain ⟨ad274, e274, hx274_0, hx274_1, hx274_2, hx274_3, hx274_4⟩ := at_T138 HR0.out t273 p274 q274; obtain rfl : ad272 = ad274 := (by injection e274); replace hx274_0 := (HB.out.cell (bL w hx274_0)).trans hx274_0; replace hx274_1 := (HB.out.cell (bL w hx274_1)).trans hx274_1; replace hx274_2 := (HB.out.cell (bL w hx274_2)).trans hx274_2; replace hx274_3 := (HB.out.cell (bL w hx274_3)).trans hx274_3; replace hx274_4 := (HB.out.cell (bL w hx274_4)).trans hx274_4; replace p274 := eq_true p274; replace q274 := eq_true q274; have p275 : 0 ≤ (t273 : Int) := oD (by first | (with_reducible assumption) | assumption); have q275 : t273 < (l0.length : Int) := oD (by first | (with_reducible assumption) | assumption); obtain ⟨ad275, e275, hx275_0, hx275_1, hx275_2, hx275_3, hx275_4⟩ := at_T138 HR0.out t273 p275 q275; obtain rfl : ad272 = ad275 := (by injection e275); replace hx275_0 := (HB.out.cell (bL w hx275_0)).trans hx275_0; replace hx275_1 := (HB.out.cell (bL w hx275_1)).trans hx275_1; replace hx275_2 := (HB.out.cell (bL w hx275_2)).trans hx275_2; replace hx275_3 := (HB.out.cell (bL w hx275_3)).trans hx275_3; replace hx275_4 := (HB.out.cell (bL w hx275_4)).trans hx275_4; replace p275 := eq_true p275; replace q275 := eq_true q275; have p276 : 0 ≤ (x6_1 : Int) := oD (by first | (with_reducible assumption) | assumption); have q276 : x6_1 < (l0.length : Int) := oD (by first | (with_reducible assumption) | assumption); obtain ⟨ad276, e276, hx276_0, hx276_1, hx276_2, hx276_3, hx276_4⟩ := at_T138 HR0.out x6_1 p276 q276; obtain rfl : ad272 = ad276 := (by injection e276); replace hx276_0 := (HB.out.cell (bL w hx276_0)).trans hx276_0; replace hx276_1 := (HB.out.cell (bL w hx276_1)).trans hx276_1; replace hx276_2 := (HB.out.cell (bL w hx276_2)).trans hx276_2; replace hx276_3 := (HB.out.cell (bL w hx276_3)).trans hx276_3; replace hx276_4 := (HB.out.cell (bL w hx276_4)).trans hx276_4; replace p276 := eq_true p276; replace q276 := eq_true q276; obtain ⟨Ao18, co18, eo18⟩ := Kd.R_slice HO_5.out; subst eo18) | ((with_reducible refine gate_callee (f := 83) rfl ?_); refine goesL_ (some 49) rfl rfl Try.func83 (by kernel_rfl) rfl #[.slice Ao18 x5_1.length co18, .int .i64 ((rd_T138 l0 x6_1).f0)] rfl (by (try simp only [List.map_toArray, List.map_cons, List.map_nil]); first | done | rfl | (simp only [List.length_drop, List.length_take]; rfl)) ?_; (with_reducible refine (spec_l9Put.calls kj4 _ _ x5_1 ((rd_T138 l0 x6_1).f0) t277 _ ?side1 ?side2 A17.out).mono ?_); (case side1 => repeat (first | exact (Kd.R_reads' HO_5.out).2.2 | (with_reducible refine Kd.CA ?_ _) | (with_reducible refine Kd.CN ?_ _) | (with_reducible refine Kd.CD ?_))); (case side2 => exact (Kd.R_reads' HO_5.out).2.1); rintro e w19 ⟨v278, rfl, ho0, hb⟩; refine ⟨_, rfl, ?_⟩; have n0_ := zK (Kd.R_elder' (by (with_reducible repeat (first | apply Kd.RA | apply Kd.RN | apply Kd.RD)); exact HO_5.out) (Kd.R_base ho0) hb); have n1_ := zK (Kd.R_lower (Kd.R_new' ho0 (Kd.R_lt (by (with_reducible repeat (first | apply Kd.RA | apply Kd.RN | apply Kd.RD)); exact HO_5.out))) (bZ (by repeat (first | (with_reducible first | exact HB.out | apply bA | apply bN | apply b1) | exact HB.out)))); have n2_ := zK (bT (by repeat (first | (with_reducible first | exact HB.out | apply bA | apply bN | apply b1) | exact HB.out)) hb); clear HO_5; clear HB; have HO_5 := n0_; have HO279 := n1_; have HB := n2_; clear n0_ n1_ n2_; (try clear hb); (try clear hb2); (try clear hk); (try clear hi); (try clear ho0)))
          go_roundg kj4
          case measure => have := HK1.out; have := HJ4.out; omega
          case rel => exact ⟨(t277), (wrap64 (x6_1 + 1)), (by first | rfl | (simp; done) | (simp [*]; done)), H', ⟨by have := HK1.out; have := HJ4.out; omega⟩, ⟨by (with_reducible repeat (first | apply Kd.RA | apply Kd.RN | apply Kd.RD)); exact Kd.R_mono HO279.out (fun _ hk => trivial)⟩, ⟨by repeat (first | (with_reducible first | exact HB.out | apply bA | apply bN | apply b1) | exact HB.out)⟩⟩
end Go.Proofs.Ytejhjenlodclpaa.PFnExactSendParcel
