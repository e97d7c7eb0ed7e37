/- Walks of functions that FnExactAskHouses reaches: written by a tool of the kit for this claim, then shortened by a program of ours. -/
import Derived.Test.YtejhjenlodclpaaPFnExactAskHousesx0
import Derived.Test.YtejhjenlodclpaaPFnExactAskHousesx3
import Derived.Test.YtejhjenlodclpaaPFnExactAskHousesx4
/- narrow -/
namespace Go.Proofs.Ytejhjenlodclpaa.PFnExactAskHouses
open Go.RowKit Go.Proofs.YtejhjenlodclpaaW.PrintWords Go.Proofs.YtejhjenlodclpaaW.PrintLast Go.Proofs.YtejhjenlodclpaaW.PrintMore
attribute [local go_sem] max2_int min2_int max_two min_two max_three min_three max_four min_four   -- for this text's walks alone
set_option linter.unusedVariables false
set_option linter.unusedSimpArgs false

/-! ### spec_HintsFor: function 22 -/
mutual
def spec_HintsFor.l0 : Nat → Int → List Int → Int → Int → Int → List Int → Int → Int → List Int → Int → Int → Option (List Int)
 | 0, _, _, _, _, _, _, _, _, _, _, _ => none
 | k + 1, x1, x5, x6, x206000, x206001, x206002, x206003, x206004, x206005, x206006, x206007 => if x6 ≤ 7 then ((spec_IsReport.f k x206000 x206001 x206002 x206003 x206004 x206005 x206006 x206007).bind fun t209 => (spec_HintsFor.j1 k x1 x5 x6 t209 x206000 x206001 x206002 x206003 x206004 x206005 x206006 x206007)) else (spec_HintsFor.j1 k x1 x5 x6 false x206000 x206001 x206002 x206003 x206004 x206005 x206006 x206007)
def spec_HintsFor.j1 : Nat → Int → List Int → Int → Bool → Int → Int → List Int → Int → Int → List Int → Int → Int → Option (List Int)
 | 0, _, _, _, _, _, _, _, _, _, _, _, _ => none
 | k + 1, x1, x5, x6, x14, x206000, x206001, x206002, x206003, x206004, x206005, x206006, x206007 => if x14 = true then (if (x206002.length : Int) > 0 then ((spec_l8Has.f k x206002 x6).bind fun t210 => (spec_HintsFor.j2 k x1 x5 x6 (!t210) x206000 x206001 x206002 x206003 x206004 x206005 x206006 x206007)) else (spec_HintsFor.j2 k x1 x5 x6 false x206000 x206001 x206002 x206003 x206004 x206005 x206006 x206007)) else (some x5)
def spec_HintsFor.j2 : Nat → Int → List Int → Int → Bool → Int → Int → List Int → Int → Int → List Int → Int → Int → Option (List Int)
 | 0, _, _, _, _, _, _, _, _, _, _, _, _ => none
 | k + 1, x1, x5, x6, x27, x206000, x206001, x206002, x206003, x206004, x206005, x206006, x206007 => if x27 = true then (spec_HintsFor.l0 k x1 x5 (wrap64 (x6 + 1)) x206000 x206001 x206002 x206003 x206004 x206005 x206006 x206007) else (spec_HintsFor.l1 k x1 x5 x6 (wrap64 (Int.tdiv x206003 10)) x206000 x206001 x206002 x206003 x206004 x206005 x206006 x206007)
def spec_HintsFor.l1 : Nat → Int → List Int → Int → Int → Int → Int → List Int → Int → Int → List Int → Int → Int → Option (List Int)
 | 0, _, _, _, _, _, _, _, _, _, _, _, _ => none
 | k + 1, x1, x5, x6, x7, x206000, x206001, x206002, x206003, x206004, x206005, x206006, x206007 => if x7 ≤ (wrap64 (Int.tdiv x206004 10)) then ((spec_HintOf.f k 0 x206001 x6 (wrap64 (10 * x7)) 0 x1).bind fun t211 => ((spec_l9Put.f k x5 t211).bind fun t212 => (spec_HintsFor.l1 k x1 t212 x6 (wrap64 (x7 + 1)) x206000 x206001 x206002 x206003 x206004 x206005 x206006 x206007))) else (spec_HintsFor.l0 k x1 x5 (wrap64 (x6 + 1)) x206000 x206001 x206002 x206003 x206004 x206005 x206006 x206007)
end
def spec_HintsFor.f (k : Nat) (a0_0 : Int) (a0_1 : Int) (l0_2 : List Int) (a0_3 : Int) (a0_4 : Int) (l0_5 : List Int) (a0_6 : Int) (a0_7 : Int) (a1 : Int) : Option (List Int) := spec_HintsFor.l0 k a1 (([] : List Int)) 0 a0_0 a0_1 l0_2 a0_3 a0_4 l0_5 a0_6 a0_7
set_option maxHeartbeats 8000000 in
set_option maxRecDepth 100000 in
theorem spec_HintsFor.calls (k : Nat) (a0_0 : Int) (a0_1 : Int) (A0_2 : Option Addr) (c0_2 : Nat) (l0_2 : List Int) (a0_3 : Int) (a0_4 : Int) (A0_5 : Option Addr) (c0_5 : Nat) (l0_5 : List Int) (a0_6 : Int) (a0_7 : Int) (a1 : Int) (r : List Int) (w : World) (hr0_2 : Kd.C (Kd.int .i64) w A0_2 l0_2.length l0_2) (hc0_2 : l0_2.length ≤ c0_2) (hr0_5 : Kd.C (Kd.int .i64) w A0_5 l0_5.length l0_5) (hc0_5 : l0_5.length ≤ c0_5) (h : spec_HintsFor.f k a0_0 a0_1 l0_2 a0_3 a0_4 l0_5 a0_6 a0_7 a1 = some r) :
  Calls Try.prog 22 #[.agg #[.int .i64 a0_0, .int .i64 a0_1, .slice A0_2 l0_2.length c0_2, .int .i64 a0_3, .int .i64 a0_4, .slice A0_5 l0_5.length c0_5, .int .i64 a0_6, .int .i64 a0_7], .int .i64 a1] w fun e w' => ∃ v0_ : Value, e = .returned (v0_) ∧ Kd.R (Kd.int .i64) 3 w' w.heap.size (fun _ => True) v0_ r ∧ Below w.heap.size w w' := by
 have hu41 := Try.underlying41
 have hu111 := Try.underlying111
 have HR0_2 := zK hr0_2
 have HC0_2 := zK hc0_2
 clear hr0_2 hc0_2
 have HR0_5 := zK hr0_5
 have HC0_5 := zK hc0_5
 clear hr0_5 hc0_5
 have HB := zK (Below.refl w.heap.size w)
 have H : (spec_HintsFor.l0 k a1 (([] : List Int)) 0 a0_0 a0_1 l0_2 a0_3 a0_4 l0_5 a0_6 a0_7) = some r := h
 clear h
 obtain ⟨y206, hy206⟩ : ∃ y_ : List Int, y_ = (([] : List Int)) := ⟨_, rfl⟩
 replace H : (spec_HintsFor.l0 k a1 y206 0 a0_0 a0_1 l0_2 a0_3 a0_4 l0_5 a0_6 a0_7) = some r := by first | (rw [hy206]; with_reducible exact H) | (have H2_ := (Option.bind_some _ _).symm.trans H; rw [hy206]; with_reducible exact H2_) | (have H2_ := (Option.bind_some _ _).symm.trans H; with_reducible exact H2_) | with_reducible exact H | (rw [hy206]; exact H) | exact H
 have Ny206 := zK hy206
 clear hy206
 have H' := zK H
 clear H
 go_enter Try.func22, Try.ntmps22
 go_wp2_with (first | ((with_reducible refine gate_dst (N := 2) rfl ?_); refine box_event ?hg (N := 2) ?hd (cs := #[.int .i64 a0_0, .int .i64 a0_1, .slice A0_2 l0_2.length c0_2, .int .i64 a0_3, .int .i64 a0_4, .slice A0_5 l0_5.length c0_5, .int .i64 a0_6, .int .i64 a0_7]) (t := 41) ?hr ?_; (case hd => rfl); (case hg => rfl); (case hr => first | (go_simp; done) | (go_simp; rfl)); intro gb205 hg w3 hbox hb; have n0_ := zK (bT (qB HB.out) hb); have n1_ := zK (hbox); have n2_ := zK ((by rw [hg]; exact (bZ (qB HB.out)) : w.heap.size ≤ gb205)); have n3_ := zK ((by rw [hg]; exact (bZ (qB HB.out)) : w.heap.size ≤ gb205)); clear HB; have HB := n0_; have BK205 := n1_; have GW205 := n2_; have GE205 := n3_; clear n0_ n1_ n2_ n3_; clear hb hbox hg) | ((with_reducible refine gate_dst (N := 8) rfl ?_); refine Kd.R_lit (Kd.int .i64) _ 3 ?hg (N := 8) ?hd (xs := ([] : List Int)) (inner := []) (ok := fun _ => True) (okp := fun _ => True) ?hr ?hp (fun _ hk => hk) trivial (Below.refl _ _) (Nat.le_refl _) (by simp) ?_; (case hd => rfl); (case hg => rfl); (case hr => first | (go_simp; done) | (go_simp; rfl)); (case hp => exact (Reps.none _ _)); intro v207 w4 ho5 hb hg_ hnew_; clear hg_ hnew_; (first | rw [← Ny206.out] at ho5 | (simp only [Int.reduceToNat] at ho5; rw [← Ny206.out] at ho5)); have n0_ := zK (Kd.R_lower ho5 (bZ m41)); have n1_ := zK (bB (g := gb205) (o := .cells #[.int .i64 a0_0, .int .i64 a0_1, .slice A0_2 l0_2.length c0_2, .int .i64 a0_3, .int .i64 a0_4, .slice A0_5 l0_5.length c0_5, .int .i64 a0_6, .int .i64 a0_7] 41 (0, 0)) (qK BK205.out) hb); have n2_ := zK (bT m41 hb); clear BK205 HB; have HO208 := n0_; have BK205 := n1_; have HB := n2_; clear n0_ n1_ n2_; clear hb ho5))
 go_loopg [5, 6] k (fun kq v5 v6 w' => ∃ (x5_1 : List Int) (x6_1 : Int), v6 = .int .i64 x6_1 ∧ Aside0 (spec_HintsFor.l0 kq a1 x5_1 x6_1 a0_0 a0_1 l0_2 a0_3 a0_4 l0_5 a0_6 a0_7 = some r) ∧ Aside0 (kq ≤ k) ∧ Aside0 (Kd.R (Kd.int .i64) 3 w' w.heap.size (fun _ => True) v5 x5_1) ∧ Aside0 (w'.heap[gb205]? = some (.cells #[.int .i64 a0_0, .int .i64 a0_1, (.slice A0_2 l0_2.length c0_2), .int .i64 a0_3, .int .i64 a0_4, (.slice A0_5 l0_5.length c0_5), .int .i64 a0_6, .int .i64 a0_7] 41 (0, 0))) ∧ Aside0 (Below w.heap.size w w'))
 case atStart => exact ⟨(y206), (0), m5, H', ⟨Nat.le_refl _⟩, ⟨by exact Kd.qR HO208.out⟩, ⟨by exact qK BK205.out⟩, ⟨by repeat (first | (with_reducible first | exact HB.out | apply bA | apply bN | apply b1 | refine bS ?_ GE205.out) | exact HB.out)⟩⟩
 case round =>
  clear H'
  try clear c2
  try clear p2
  obtain ⟨x5_1, x6_1, rfl, HA, HK1, HO_5, BK205, HB⟩ := hrel
  cases gk with
  | zero => exact absurd HA.out (by simp [spec_HintsFor.l0])
  | succ k1 =>
   have H := HA.out
   clear HA
   simp only [spec_HintsFor.l0] at H
   have HC6 := zK H
   clear H
   go_upto_region 3 with (fail)
   go_cut [14] (fun v14 wc => ∃ (kq : Nat) (x14_5 : Bool), v14 = .bool x14_5 ∧ Aside0 (spec_HintsFor.j1 kq a1 x5_1 x6_1 x14_5 a0_0 a0_1 l0_2 a0_3 a0_4 l0_5 a0_6 a0_7 = some r) ∧ Aside0 (kq ≤ k1) ∧ Aside0 (Kd.R (Kd.int .i64) 3 wc w.heap.size (fun _ => True) u5 x5_1) ∧ Aside0 (wc.heap[gb205]? = some (.cells #[.int .i64 a0_0, .int .i64 a0_1, (.slice A0_2 l0_2.length c0_2), .int .i64 a0_3, .int .i64 a0_4, (.slice A0_5 l0_5.length c0_5), .int .i64 a0_6, .int .i64 a0_7] 41 (0, 0))) ∧ Aside0 (Below w.heap.size w wc))
   case first =>
    have H := HC6.out
    clear HC6
    by_cases c7 : x6_1 ≤ 7
    rotate_left
    ·rw [if_neg c7] at H
     have c7b0 : decide (x6_1 ≤ 7) = false := decide_eq_false c7
     clear c7
     (first | rw [c7b0] | rw [c7b1] | (simp only [i64_w, i32_w]; rw [c7b0]) | skip)
     have H' := zK H
     clear H
     go_wp2
     go_meet
     case rel => exact ⟨_, (false), m5, H', ⟨by have := HK1.out; first | omega | exact Nat.le_refl _⟩, ⟨by exact Kd.qR HO_5.out⟩, ⟨by exact qK BK205.out⟩, ⟨by repeat (first | (with_reducible first | exact HB.out | apply bA | apply bN | apply b1 | refine bS ?_ GE205.out) | exact HB.out)⟩⟩
    rw [if_pos c7] at H
    have c7b0 : decide (x6_1 ≤ 7) = true := decide_eq_true c7
    clear c7
    (first | rw [c7b0] | rw [c7b1] | (simp only [i64_w, i32_w]; rw [c7b0]) | skip)
    replace H := Option.bind_eq_some_iff.mp H
    obtain ⟨t209, A80, H⟩ := H
    replace H : (spec_HintsFor.j1 k1 a1 x5_1 x6_1 t209 a0_0 a0_1 l0_2 a0_3 a0_4 l0_5 a0_6 a0_7) = some r := H
    have A8 := zK A80
    clear A80
    have H' := zK H
    clear H
    have hcz9_0 : wr.cell? ⟨gb205, 0, none⟩ = some (.int .i64 a0_0) := (bc BK205.out 0).trans rfl
    have hcz9_1 : wr.cell? ⟨gb205, 1, none⟩ = some (.int .i64 a0_1) := (bc BK205.out 1).trans rfl
    have hcz9_2 : wr.cell? ⟨gb205, 2, none⟩ = some (.slice A0_2 l0_2.length c0_2) := (bc BK205.out 2).trans rfl
    have hcz9_3 : wr.cell? ⟨gb205, 3, none⟩ = some (.int .i64 a0_3) := (bc BK205.out 3).trans rfl
    have hcz9_4 : wr.cell? ⟨gb205, 4, none⟩ = some (.int .i64 a0_4) := (bc BK205.out 4).trans rfl
    have hcz9_5 : wr.cell? ⟨gb205, 5, none⟩ = some (.slice A0_5 l0_5.length c0_5) := (bc BK205.out 5).trans rfl
    have hcz9_6 : wr.cell? ⟨gb205, 6, none⟩ = some (.int .i64 a0_6) := (bc BK205.out 6).trans rfl
    have hcz9_7 : wr.cell? ⟨gb205, 7, none⟩ = some (.int .i64 a0_7) := (bc BK205.out 7).trans rfl
    have hfz9_0 := bf BK205.out 0
    have hfz9_1 := bf BK205.out 1
    have hfz9_2 := bf BK205.out 2
    have hfz9_3 := bf BK205.out 3
    have hfz9_4 := bf BK205.out 4
    have hfz9_5 := bf BK205.out 5
    have hfz9_6 := bf BK205.out 6
    have hfz9_7 := bf BK205.out 7
    go_wp2_with (first | (go_at_call 89; (with_reducible refine (spec_IsReport.calls k1 a0_0 a0_1 _ _ l0_2 a0_3 a0_4 _ _ l0_5 a0_6 a0_7 t209 _ ?side1 ?side2 ?side3 ?side4 A8.out).mono ?_); (case side1 => exact Kd.qC (Kd.C_below HR0_2.out HB.out)); (case side2 => exact HC0_2.out); (case side3 => exact Kd.qC (Kd.C_below HR0_5.out HB.out)); (case side4 => exact HC0_5.out); rintro e w10 ⟨rfl, hb⟩; have n0_ := zK (Kd.R_below (Kd.qR HO_5.out) hb); have n1_ := zK (bB (g := gb205) (o := .cells #[.int .i64 a0_0, .int .i64 a0_1, .slice A0_2 l0_2.length c0_2, .int .i64 a0_3, .int .i64 a0_4, .slice A0_5 l0_5.length c0_5, .int .i64 a0_6, .int .i64 a0_7] 41 (0, 0)) (qK BK205.out) hb); have n2_ := zK (bT m41 hb); clear HO_5 BK205 HB; have HO_5 := n0_; have BK205 := n1_; have HB := n2_; clear n0_ n1_ n2_; (try clear hb); (try clear hb2); (try clear hk); (try clear hi)))
    go_meet
    case rel => exact ⟨_, (t209), m5, H', ⟨by have := HK1.out; first | omega | exact Nat.le_refl _⟩, ⟨by exact Kd.qR HO_5.out⟩, ⟨by exact qK BK205.out⟩, ⟨by repeat (first | (with_reducible first | exact HB.out | apply bA | apply bN | apply b1 | refine bS ?_ GE205.out) | exact HB.out)⟩⟩
   case rest =>
    clear HC6
    try clear c2
    try clear p2
    try clear c7
    try clear c7b0
    try clear hcz9_0
    try clear hcz9_1
    try clear hcz9_2
    try clear hcz9_3
    try clear hcz9_4
    try clear hcz9_5
    try clear hcz9_6
    try clear hcz9_7
    try clear hfz9_0
    try clear hfz9_1
    try clear hfz9_2
    try clear hfz9_3
    try clear hfz9_4
    try clear hfz9_5
    try clear hfz9_6
    try clear hfz9_7
    try clear p2
    obtain ⟨kq, x14_5, rfl, HA, HJ5, HO_5, BK205, HB⟩ := hcut
    cases kq with
    | zero => exact absurd HA.out (by simp [spec_HintsFor.j1])
    | succ kj5 =>
     have H := HA.out
     clear HA
     simp only [spec_HintsFor.j1] at H
     by_cases c11 : x14_5 = true
     rotate_left
     ·replace c11 := Bool.eq_false_iff.mpr c11
      subst c11
      have H1 : (some x5_1) = some r := by rw [if_neg (show ¬ (false = true) by decide)] at H; exact H
      clear H
      have H := H1
      clear H1
      obtain rfl := Option.some.inj H
      go_wp2
      go_ret
      exact ⟨_, by first | rfl | (simp [errW_none, errW_some] <;> rfl) | (simp [*, errW_none, errW_some] <;> rfl), by exact Kd.qR HO_5.out, by repeat (first | (with_reducible first | exact HB.out | apply bA | apply bN | apply b1 | refine bS ?_ GE205.out) | exact HB.out)⟩
     subst c11
     have H1 : (if (l0_2.length : Int) > 0 then ((spec_l8Has.f kj5 l0_2 x6_1).bind fun t210 => (spec_HintsFor.j2 kj5 a1 x5_1 x6_1 (!t210) a0_0 a0_1 l0_2 a0_3 a0_4 l0_5 a0_6 a0_7)) else (spec_HintsFor.j2 kj5 a1 x5_1 x6_1 false a0_0 a0_1 l0_2 a0_3 a0_4 l0_5 a0_6 a0_7)) = some r := by rw [if_pos rfl] at H; exact H
     clear H
     have H := H1
     clear H1
     have HC12 := zK H
     clear H
     go_upto_region 5 with (fail)
     go_cut [27] (fun v27 wc => ∃ (kq : Nat) (x27_11 : Bool), v27 = .bool x27_11 ∧ Aside0 (spec_HintsFor.j2 kq a1 x5_1 x6_1 x27_11 a0_0 a0_1 l0_2 a0_3 a0_4 l0_5 a0_6 a0_7 = some r) ∧ Aside0 (kq ≤ kj5) ∧ Aside0 (Kd.R (Kd.int .i64) 3 wc w.heap.size (fun _ => True) u5 x5_1) ∧ Aside0 (wc.heap[gb205]? = some (.cells #[.int .i64 a0_0, .int .i64 a0_1, (.slice A0_2 l0_2.length c0_2), .int .i64 a0_3, .int .i64 a0_4, (.slice A0_5 l0_5.length c0_5), .int .i64 a0_6, .int .i64 a0_7] 41 (0, 0))) ∧ Aside0 (Below w.heap.size w wc))
     case first =>
      have H := HC12.out
      clear HC12
      by_cases c13 : (l0_2.length : Int) > 0
      rotate_left
      ·rw [if_neg c13] at H
       have c13b0 : decide (0 < (l0_2.length : Int)) = false := decide_eq_false c13
       have c13b1 : decide (0 < l0_2.length) = false := decide_eq_false (by omega)
       clear c13
       (first | rw [c13b0] | rw [c13b1] | (simp only [i64_w, i32_w]; rw [c13b0]) | skip)
       have H' := zK H
       clear H
       have hcz16_0 : wc.cell? ⟨gb205, 0, none⟩ = some (.int .i64 a0_0) := (bc BK205.out 0).trans rfl
       have hcz16_1 : wc.cell? ⟨gb205, 1, none⟩ = some (.int .i64 a0_1) := (bc BK205.out 1).trans rfl
       have hcz16_2 : wc.cell? ⟨gb205, 2, none⟩ = some (.slice A0_2 l0_2.length c0_2) := (bc BK205.out 2).trans rfl
       have hcz16_3 : wc.cell? ⟨gb205, 3, none⟩ = some (.int .i64 a0_3) := (bc BK205.out 3).trans rfl
       have hcz16_4 : wc.cell? ⟨gb205, 4, none⟩ = some (.int .i64 a0_4) := (bc BK205.out 4).trans rfl
       have hcz16_5 : wc.cell? ⟨gb205, 5, none⟩ = some (.slice A0_5 l0_5.length c0_5) := (bc BK205.out 5).trans rfl
       have hcz16_6 : wc.cell? ⟨gb205, 6, none⟩ = some (.int .i64 a0_6) := (bc BK205.out 6).trans rfl
       have hcz16_7 : wc.cell? ⟨gb205, 7, none⟩ = some (.int .i64 a0_7) := (bc BK205.out 7).trans rfl
       have hfz16_0 := bf BK205.out 0
       have hfz16_1 := bf BK205.out 1
       have hfz16_2 := bf BK205.out 2
       have hfz16_3 := bf BK205.out 3
       have hfz16_4 := bf BK205.out 4
       have hfz16_5 := bf BK205.out 5
       have hfz16_6 := bf BK205.out 6
       have hfz16_7 := bf BK205.out 7
       go_wp2
       go_meet
       case rel => exact ⟨_, (false), m5, H', ⟨by have := HK1.out; have := HJ5.out; first | omega | exact Nat.le_refl _⟩, ⟨by exact Kd.qR HO_5.out⟩, ⟨by exact qK BK205.out⟩, ⟨by repeat (first | (with_reducible first | exact HB.out | apply bA | apply bN | apply b1 | refine bS ?_ GE205.out) | exact HB.out)⟩⟩
      rw [if_pos c13] at H
      have c13b0 : decide (0 < (l0_2.length : Int)) = true := decide_eq_true c13
      have c13b1 : decide (0 < l0_2.length) = true := decide_eq_true (by omega)
      clear c13
      (first | rw [c13b0] | rw [c13b1] | (simp only [i64_w, i32_w]; rw [c13b0]) | skip)
      replace H := Option.bind_eq_some_iff.mp H
      obtain ⟨t210, A140, H⟩ := H
      replace H : (spec_HintsFor.j2 kj5 a1 x5_1 x6_1 (!t210) a0_0 a0_1 l0_2 a0_3 a0_4 l0_5 a0_6 a0_7) = some r := H
      have A14 := zK A140
      clear A140
      have H' := zK H
      clear H
      have hcz15_0 : wc.cell? ⟨gb205, 0, none⟩ = some (.int .i64 a0_0) := (bc BK205.out 0).trans rfl
      have hcz15_1 : wc.cell? ⟨gb205, 1, none⟩ = some (.int .i64 a0_1) := (bc BK205.out 1).trans rfl
      have hcz15_2 : wc.cell? ⟨gb205, 2, none⟩ = some (.slice A0_2 l0_2.length c0_2) := (bc BK205.out 2).trans rfl
      have hcz15_3 : wc.cell? ⟨gb205, 3, none⟩ = some (.int .i64 a0_3) := (bc BK205.out 3).trans rfl
      have hcz15_4 : wc.cell? ⟨gb205, 4, none⟩ = some (.int .i64 a0_4) := (bc BK205.out 4).trans rfl
      have hcz15_5 : wc.cell? ⟨gb205, 5, none⟩ = some (.slice A0_5 l0_5.length c0_5) := (bc BK205.out 5).trans rfl
      have hcz15_6 : wc.cell? ⟨gb205, 6, none⟩ = some (.int .i64 a0_6) := (bc BK205.out 6).trans rfl
      have hcz15_7 : wc.cell? ⟨gb205, 7, none⟩ = some (.int .i64 a0_7) := (bc BK205.out 7).trans rfl
      have hfz15_0 := bf BK205.out 0
      have hfz15_1 := bf BK205.out 1
      have hfz15_2 := bf BK205.out 2
      have hfz15_3 := bf BK205.out 3
      have hfz15_4 := bf BK205.out 4
      have hfz15_5 := bf BK205.out 5
      have hfz15_6 := bf BK205.out 6
      have hfz15_7 := bf BK205.out 7
      go_wp2_with (first | (go_at_call 90; (with_reducible refine (spec_l8Has.calls kj5 _ _ l0_2 x6_1 t210 _ ?side1 ?side2 A14.out).mono ?_); (case side1 => exact Kd.qC (Kd.C_below HR0_2.out HB.out)); (case side2 => exact HC0_2.out); rintro e w' ⟨rfl, ⟨nd, rfl⟩⟩))
      go_meet
      case rel => exact ⟨_, (!t210), m5, H', ⟨by have := HK1.out; have := HJ5.out; first | omega | exact Nat.le_refl _⟩, ⟨by exact Kd.qR HO_5.out⟩, ⟨by exact qK BK205.out⟩, ⟨by repeat (first | (with_reducible first | exact HB.out | apply bA | apply bN | apply b1 | refine bS ?_ GE205.out) | exact HB.out)⟩⟩
     case rest =>
      clear HC12
      try clear c1
      try clear c2
      try clear p2
      try clear c7
      try clear c7b0
      try clear c11
      try clear c13
      try clear c13b0
      try clear c13b1
      try clear hcz15_0
      try clear hcz15_1
      try clear hcz15_2
      try clear hcz15_3
      try clear hcz15_4
      try clear hcz15_5
      try clear hcz15_6
      try clear hcz15_7
      try clear hcz16_0
      try clear hcz16_1
      try clear hcz16_2
      try clear hcz16_3
      try clear hcz16_4
      try clear hcz16_5
      try clear hcz16_6
      try clear hcz16_7
      try clear hcz9_0
      try clear hcz9_1
      try clear hcz9_2
      try clear hcz9_3
      try clear hcz9_4
      try clear hcz9_5
      try clear hcz9_6
      try clear hcz9_7
      try clear hfz15_0
      try clear hfz15_1
      try clear hfz15_2
      try clear hfz15_3
      try clear hfz15_4
      try clear hfz15_5
      try clear hfz15_6
      try clear hfz15_7
      try clear hfz16_0
      try clear hfz16_1
      try clear hfz16_2
      try clear hfz16_3
      try clear hfz16_4
      try clear hfz16_5
      try clear hfz16_6
      try clear hfz16_7
      try clear hfz9_0
      try clear hfz9_1
      try clear hfz9_2
      try clear hfz9_3
      try clear hfz9_4
      try clear hfz9_5
      try clear hfz9_6
      try clear hfz9_7
      try clear p2
      obtain ⟨kq, x27_11, rfl, HA, HJ11, HO_5, BK205, HB⟩ := hcut
      cases kq with
      | zero => exact absurd HA.out (by simp [spec_HintsFor.j2])
      | succ kj11 =>
       have H := HA.out
       clear HA
       simp only [spec_HintsFor.j2] at H
       by_cases c17 : x27_11 = true
       ·subst c17
        have H1 : (spec_HintsFor.l0 kj11 a1 x5_1 (wrap64 (x6_1 + 1)) a0_0 a0_1 l0_2 a0_3 a0_4 l0_5 a0_6 a0_7) = some r := by rw [if_pos rfl] at H; exact H
        clear H
        have H := H1
        clear H1
        have H' := zK H
        clear H
        go_wp2
        go_roundg kj11
        case measure => have := HK1.out; have := HJ5.out; have := HJ11.out; omega
        case rel => exact ⟨(x5_1), (wrap64 (x6_1 + 1)), m5, H', ⟨by have := HK1.out; have := HJ5.out; have := HJ11.out; omega⟩, ⟨by exact Kd.qR HO_5.out⟩, ⟨by exact qK BK205.out⟩, ⟨by repeat (first | (with_reducible first | exact HB.out | apply bA | apply bN | apply b1 | refine bS ?_ GE205.out) | exact HB.out)⟩⟩
       replace c17 := Bool.eq_false_iff.mpr c17
       subst c17
       have H1 : (spec_HintsFor.l1 kj11 a1 x5_1 x6_1 (wrap64 (Int.tdiv a0_3 10)) a0_0 a0_1 l0_2 a0_3 a0_4 l0_5 a0_6 a0_7) = some r := by rw [if_neg (show ¬ (false = true) by decide)] at H; exact H
       clear H
       have H := H1
       clear H1
       have H' := zK H
       clear H
       have hcz18_0 : wc.cell? ⟨gb205, 0, none⟩ = some (.int .i64 a0_0) := (bc BK205.out 0).trans rfl
       have hcz18_1 : wc.cell? ⟨gb205, 1, none⟩ = some (.int .i64 a0_1) := (bc BK205.out 1).trans rfl
       have hcz18_2 : wc.cell? ⟨gb205, 2, none⟩ = some (.slice A0_2 l0_2.length c0_2) := (bc BK205.out 2).trans rfl
       have hcz18_3 : wc.cell? ⟨gb205, 3, none⟩ = some (.int .i64 a0_3) := (bc BK205.out 3).trans rfl
       have hcz18_4 : wc.cell? ⟨gb205, 4, none⟩ = some (.int .i64 a0_4) := (bc BK205.out 4).trans rfl
       have hcz18_5 : wc.cell? ⟨gb205, 5, none⟩ = some (.slice A0_5 l0_5.length c0_5) := (bc BK205.out 5).trans rfl
       have hcz18_6 : wc.cell? ⟨gb205, 6, none⟩ = some (.int .i64 a0_6) := (bc BK205.out 6).trans rfl
       have hcz18_7 : wc.cell? ⟨gb205, 7, none⟩ = some (.int .i64 a0_7) := (bc BK205.out 7).trans rfl
       have hfz18_0 := bf BK205.out 0
       have hfz18_1 := bf BK205.out 1
       have hfz18_2 := bf BK205.out 2
       have hfz18_3 := bf BK205.out 3
       have hfz18_4 := bf BK205.out 4
       have hfz18_5 := bf BK205.out 5
       have hfz18_6 := bf BK205.out 6
       have hfz18_7 := bf BK205.out 7
       go_wp2
       go_loopg [5, 7] kj11 (fun kq v5 v7 w' => ∃ (x5_4 : List Int) (x7_4 : Int), v7 = .int .i64 x7_4 ∧ Aside0 (spec_HintsFor.l1 kq a1 x5_4 x6_1 x7_4 a0_0 a0_1 l0_2 a0_3 a0_4 l0_5 a0_6 a0_7 = some r) ∧ Aside0 (kq ≤ kj11) ∧ Aside0 (Kd.R (Kd.int .i64) 3 w' w.heap.size (fun _ => True) v5 x5_4) ∧ Aside0 (w'.heap[gb205]? = some (.cells #[.int .i64 a0_0, .int .i64 a0_1, (.slice A0_2 l0_2.length c0_2), .int .i64 a0_3, .int .i64 a0_4, (.slice A0_5 l0_5.length c0_5), .int .i64 a0_6, .int .i64 a0_7] 41 (0, 0))) ∧ Aside0 (Below w.heap.size w w'))
       case atStart => exact ⟨(x5_1), (wrap64 (Int.tdiv a0_3 10)), m5, H', ⟨Nat.le_refl _⟩, ⟨by exact Kd.qR HO_5.out⟩, ⟨by exact qK BK205.out⟩, ⟨by repeat (first | (with_reducible first | exact HB.out | apply bA | apply bN | apply b1 | refine bS ?_ GE205.out) | exact HB.out)⟩⟩
       case round =>
        clear H'
        try clear c1
        try clear c2
        try clear p2
        try clear p6
        try clear c7
        try clear c7b0
        try clear c11
        try clear c13
        try clear c13b0
        try clear c13b1
        try clear c17
        try clear hcz15_0
        try clear hcz15_1
        try clear hcz15_2
        try clear hcz15_3
        try clear hcz15_4
        try clear hcz15_5
        try clear hcz15_6
        try clear hcz15_7
        try clear hcz16_0
        try clear hcz16_1
        try clear hcz16_2
        try clear hcz16_3
        try clear hcz16_4
        try clear hcz16_5
        try clear hcz16_6
        try clear hcz16_7
        try clear hcz18_0
        try clear hcz18_1
        try clear hcz18_2
        try clear hcz18_3
        try clear hcz18_4
        try clear hcz18_5
        try clear hcz18_6
        try clear hcz18_7
        try clear hcz9_0
        try clear hcz9_1
        try clear hcz9_2
        try clear hcz9_3
        try clear hcz9_4
        try clear hcz9_5
        try clear hcz9_6
        try clear hcz9_7
        try clear hfz15_0
        try clear hfz15_1
        try clear hfz15_2
        try clear hfz15_3
        try clear hfz15_4
        try clear hfz15_5
        try clear hfz15_6
        try clear hfz15_7
        try clear hfz16_0
        try clear hfz16_1
        try clear hfz16_2
        try clear hfz16_3
        try clear hfz16_4
        try clear hfz16_5
        try clear hfz16_6
        try clear hfz16_7
        try clear hfz18_0
        try clear hfz18_1
        try clear hfz18_2
        try clear hfz18_3
        try clear hfz18_4
        try clear hfz18_5
        try clear hfz18_6
        try clear hfz18_7
        try clear hfz9_0
        try clear hfz9_1
        try clear hfz9_2
        try clear hfz9_3
        try clear hfz9_4
        try clear hfz9_5
        try clear hfz9_6
        try clear hfz9_7
        try clear p2
        obtain ⟨x5_4, x7_4, rfl, HA, HK4, HO_5, BK205, HB⟩ := hrel
        cases gk with
        | zero => exact absurd HA.out (by simp [spec_HintsFor.l1])
        | succ k4 =>
         have H := HA.out
         clear HA
         simp only [spec_HintsFor.l1] at H
         by_cases c19 : x7_4 ≤ (wrap64 (Int.tdiv a0_4 10))
         rotate_left
         ·rw [if_neg c19] at H
          have c19b0 : decide (x7_4 ≤ (wrap64 (Int.tdiv a0_4 10))) = false := decide_eq_false c19
          clear c19
          have H' := zK H
          clear H
          have hcz26_0 : wr.cell? ⟨gb205, 0, none⟩ = some (.int .i64 a0_0) := (bc BK205.out 0).trans rfl
          have hcz26_1 : wr.cell? ⟨gb205, 1, none⟩ = some (.int .i64 a0_1) := (bc BK205.out 1).trans rfl
          have hcz26_2 : wr.cell? ⟨gb205, 2, none⟩ = some (.slice A0_2 l0_2.length c0_2) := (bc BK205.out 2).trans rfl
          have hcz26_3 : wr.cell? ⟨gb205, 3, none⟩ = some (.int .i64 a0_3) := (bc BK205.out 3).trans rfl
          have hcz26_4 : wr.cell? ⟨gb205, 4, none⟩ = some (.int .i64 a0_4) := (bc BK205.out 4).trans rfl
          have hcz26_5 : wr.cell? ⟨gb205, 5, none⟩ = some (.slice A0_5 l0_5.length c0_5) := (bc BK205.out 5).trans rfl
          have hcz26_6 : wr.cell? ⟨gb205, 6, none⟩ = some (.int .i64 a0_6) := (bc BK205.out 6).trans rfl
          have hcz26_7 : wr.cell? ⟨gb205, 7, none⟩ = some (.int .i64 a0_7) := (bc BK205.out 7).trans rfl
          have hfz26_0 := bf BK205.out 0
          have hfz26_1 := bf BK205.out 1
          have hfz26_2 := bf BK205.out 2
          have hfz26_3 := bf BK205.out 3
          have hfz26_4 := bf BK205.out 4
          have hfz26_5 := bf BK205.out 5
          have hfz26_6 := bf BK205.out 6
          have hfz26_7 := bf BK205.out 7
          go_wp2
          go_roundg k4
          case measure => have := HK1.out; have := HJ5.out; have := HJ11.out; have := HK4.out; omega
          case rel => exact ⟨(x5_4), (wrap64 (x6_1 + 1)), m5, H', ⟨by have := HK1.out; have := HJ5.out; have := HJ11.out; have := HK4.out; omega⟩, ⟨by exact Kd.qR HO_5.out⟩, ⟨by exact qK BK205.out⟩, ⟨by repeat (first | (with_reducible first | exact HB.out | apply bA | apply bN | apply b1 | refine bS ?_ GE205.out) | exact HB.out)⟩⟩
         rw [if_pos c19] at H
         have c19b0 : decide (x7_4 ≤ (wrap64 (Int.tdiv a0_4 10))) = true := decide_eq_true c19
         clear c19
         replace H := Option.bind_eq_some_iff.mp H
         obtain ⟨t211, A200, H⟩ := H
         replace H : ((spec_l9Put.f k4 x5_4 t211).bind fun t212 => (spec_HintsFor.l1 k4 a1 t212 x6_1 (wrap64 (x7_4 + 1)) a0_0 a0_1 l0_2 a0_3 a0_4 l0_5 a0_6 a0_7)) = some r := H
         have A20 := zK A200
         clear A200
         replace H := Option.bind_eq_some_iff.mp H
         obtain ⟨t212, A210, H⟩ := H
         replace H : (spec_HintsFor.l1 k4 a1 t212 x6_1 (wrap64 (x7_4 + 1)) a0_0 a0_1 l0_2 a0_3 a0_4 l0_5 a0_6 a0_7) = some r := H
         have A21 := zK A210
         clear A210
         have H' := zK H
         clear H
         have hcz22_0 : wr.cell? ⟨gb205, 0, none⟩ = some (.int .i64 a0_0) := (bc BK205.out 0).trans rfl
         have hcz22_1 : wr.cell? ⟨gb205, 1, none⟩ = some (.int .i64 a0_1) := (bc BK205.out 1).trans rfl
         have hcz22_2 : wr.cell? ⟨gb205, 2, none⟩ = some (.slice A0_2 l0_2.length c0_2) := (bc BK205.out 2).trans rfl
         have hcz22_3 : wr.cell? ⟨gb205, 3, none⟩ = some (.int .i64 a0_3) := (bc BK205.out 3).trans rfl
         have hcz22_4 : wr.cell? ⟨gb205, 4, none⟩ = some (.int .i64 a0_4) := (bc BK205.out 4).trans rfl
         have hcz22_5 : wr.cell? ⟨gb205, 5, none⟩ = some (.slice A0_5 l0_5.length c0_5) := (bc BK205.out 5).trans rfl
         have hcz22_6 : wr.cell? ⟨gb205, 6, none⟩ = some (.int .i64 a0_6) := (bc BK205.out 6).trans rfl
         have hcz22_7 : wr.cell? ⟨gb205, 7, none⟩ = some (.int .i64 a0_7) := (bc BK205.out 7).trans rfl
         have hfz22_0 := bf BK205.out 0
         have hfz22_1 := bf BK205.out 1
         have hfz22_2 := bf BK205.out 2
         have hfz22_3 := bf BK205.out 3
         have hfz22_4 := bf BK205.out 4
         have hfz22_5 := bf BK205.out 5
         have hfz22_6 := bf BK205.out 6
         have hfz22_7 := bf BK205.out 7
         go_wp2_with (first | ((with_reducible refine gate_callee (f := 84) rfl ?_); refine goesL_ (some 46) rfl rfl Try.func84 (by kernel_rfl) rfl #[.agg #[.int .i64 0, .int .i64 a0_1, .int .i64 x6_1, .int .i64 (wrap64 (10 * x7_4)), .int .i64 0], .int .i64 a1] rfl m0 ?_; (with_reducible refine (spec_HintOf.calls k4 0 a0_1 x6_1 (wrap64 (10 * x7_4)) 0 a1 t211 _ A20.out).mono ?_); rintro e w23 ⟨rfl, hb⟩; refine ⟨_, rfl, ?_⟩; have n0_ := zK (Kd.R_below (Kd.qR HO_5.out) hb); have n1_ := zK (bB (g := gb205) (o := .cells #[.int .i64 a0_0, .int .i64 a0_1, .slice A0_2 l0_2.length c0_2, .int .i64 a0_3, .int .i64 a0_4, .slice A0_5 l0_5.length c0_5, .int .i64 a0_6, .int .i64 a0_7] 41 (0, 0)) (qK BK205.out) hb); have n2_ := zK (bT m41 hb); clear HO_5 BK205 HB; have HO_5 := n0_; have BK205 := n1_; have HB := n2_; clear n0_ n1_ n2_; (try clear hb); (try clear hb2); (try clear hk); (try clear hi); obtain ⟨Ao24, co24, eo24⟩ := Kd.R_slice HO_5.out; subst eo24) | ((with_reducible refine gate_callee (f := 83) rfl ?_); refine goesL_ (some 47) rfl rfl Try.func83 (by kernel_rfl) rfl #[.slice Ao24 x5_4.length co24, .int .i64 t211] rfl m0 ?_; (with_reducible refine (spec_l9Put.calls k4 _ _ x5_4 t211 t212 _ ?side1 ?side2 A21.out).mono ?_); (case side1 => exact Kd.qC (Kd.R_reads' HO_5.out).2.2); (case side2 => exact (Kd.R_reads' HO_5.out).2.1); rintro e w25 ⟨v213, rfl, ho0, hb⟩; refine ⟨_, rfl, ?_⟩; have n0_ := zK (Kd.R_elder' (Kd.qR HO_5.out) (Kd.R_base ho0) hb); have n1_ := zK (Kd.R_lower (Kd.R_new' ho0 (Kd.R_lt (Kd.qR HO_5.out))) (bZ m41)); have n2_ := zK (bB (g := gb205) (o := .cells #[.int .i64 a0_0, .int .i64 a0_1, .slice A0_2 l0_2.length c0_2, .int .i64 a0_3, .int .i64 a0_4, .slice A0_5 l0_5.length c0_5, .int .i64 a0_6, .int .i64 a0_7] 41 (0, 0)) (qK BK205.out) hb); have n3_ := zK (bT m41 hb); clear HO_5 BK205 HB; have HO_5 := n0_; have HO214 := n1_; have BK205 := n2_; have HB := n3_; clear n0_ n1_ n2_ n3_; (try clear hb); (try clear hb2); (try clear hk); (try clear hi); (try clear ho0)))
         go_roundg k4
         case measure => have := HK1.out; have := HJ5.out; have := HJ11.out; have := HK4.out; omega
         case rel => exact ⟨(t212), (wrap64 (x7_4 + 1)), m5, H', ⟨by have := HK1.out; have := HJ5.out; have := HJ11.out; have := HK4.out; omega⟩, ⟨by (with_reducible repeat (first | apply Kd.RA | apply Kd.RN | apply Kd.RD)); exact Kd.R_mono HO214.out (fun _ hk => trivial)⟩, ⟨by exact qK BK205.out⟩, ⟨by repeat (first | (with_reducible first | exact HB.out | apply bA | apply bN | apply b1 | refine bS ?_ GE205.out) | exact HB.out)⟩⟩
/-! ### spec_SharedHints: function 96 -/
def spec_SharedHints.l0 : Nat → List Int → List Int → List Int → Int → Option (Int)
 | 0, _, _, _, _ => none
 | k + 1, x0, x1, x5, x6 => if x6 < (x0.length : Int) then (if 0 ≤ x6 then ((spec_l8Has.f k x1 (rd x0 x6)).bind fun t219 => (if t219 = true then ((spec_l9Put.f k x5 (rd x0 x6)).bind fun t221 => (spec_SharedHints.l0 k x0 x1 t221 (wrap64 (x6 + 1)))) else (spec_SharedHints.l0 k x0 x1 x5 (wrap64 (x6 + 1))))) else (none)) else (some (x5.length : Int))
def spec_SharedHints.f (k : Nat) (l0 : List Int) (l1 : List Int) : Option (Int) := spec_SharedHints.l0 k l0 l1 (([] : List Int)) 0
set_option maxHeartbeats 8000000 in
set_option maxRecDepth 100000 in
theorem spec_SharedHints.calls (k : Nat) (A0 : Option Addr) (c0 : Nat) (l0 : List Int) (A1 : Option Addr) (c1 : Nat) (l1 : List Int) (r : Int) (w : World) (hr0 : Kd.C (Kd.int .i64) w A0 l0.length l0) (hc0 : l0.length ≤ c0) (hr1 : Kd.C (Kd.int .i64) w A1 l1.length l1) (hc1 : l1.length ≤ c1) (h : spec_SharedHints.f k l0 l1 = some r) :
  Calls Try.prog 96 #[.slice A0 l0.length c0, .slice A1 l1.length c1] w fun e w' => e = .returned (.int .i64 r) ∧ Below w.heap.size w w' := by
 have HR0 := zK hr0
 have HC0 := zK hc0
 clear hr0 hc0
 have HR1 := zK hr1
 have HC1 := zK hc1
 clear hr1 hc1
 have HB := zK (Below.refl w.heap.size w)
 have H : (spec_SharedHints.l0 k l0 l1 (([] : List Int)) 0) = some r := h
 clear h
 obtain ⟨y215, hy215⟩ : ∃ y_ : List Int, y_ = (([] : List Int)) := ⟨_, rfl⟩
 replace H : (spec_SharedHints.l0 k l0 l1 y215 0) = some r := by first | (rw [hy215]; with_reducible exact H) | (have H2_ := (Option.bind_some _ _).symm.trans H; rw [hy215]; with_reducible exact H2_) | (have H2_ := (Option.bind_some _ _).symm.trans H; with_reducible exact H2_) | with_reducible exact H | (rw [hy215]; exact H) | exact H
 have Ny215 := zK hy215
 clear hy215
 have H' := zK H
 clear H
 go_enter Try.func96, Try.ntmps96
 go_wp2_with (first | ((with_reducible refine gate_dst (N := 7) rfl ?_); refine Kd.R_lit (Kd.int .i64) _ 3 ?hg (N := 7) ?hd (xs := ([] : List Int)) (inner := []) (ok := fun _ => True) (okp := fun _ => True) ?hr ?hp (fun _ hk => hk) trivial (Below.refl _ _) (Nat.le_refl _) (by simp) ?_; (case hd => rfl); (case hg => rfl); (case hr => first | (go_simp; done) | (go_simp; rfl)); (case hp => exact (Reps.none _ _)); intro v216 w3 ho4 hb hg_ hnew_; clear hg_ hnew_; (first | rw [← Ny215.out] at ho4 | (simp only [Int.reduceToNat] at ho4; rw [← Ny215.out] at ho4)); have n0_ := zK (Kd.R_lower ho4 (bZ (qB HB.out))); have n1_ := zK (bT (qB HB.out) hb); clear HB; have HO217 := n0_; have HB := n1_; clear n0_ n1_; clear hb ho4))
 go_loopg [5, 6] k (fun kq v5 v6 w' => ∃ (x5_1 : List Int) (x6_1 : Int), v6 = .int .i64 x6_1 ∧ Aside0 (spec_SharedHints.l0 kq l0 l1 x5_1 x6_1 = some r) ∧ Aside0 (kq ≤ k) ∧ Aside0 (Kd.R (Kd.int .i64) 3 w' w.heap.size (fun _ => True) v5 x5_1) ∧ Aside0 (Below w.heap.size w w'))
 case atStart => exact ⟨(y215), (0), m5, H', ⟨Nat.le_refl _⟩, ⟨by exact Kd.qR HO217.out⟩, ⟨by exact qB HB.out⟩⟩
 case round =>
  clear H'
  try clear c1
  try clear p2
  obtain ⟨x5_1, x6_1, rfl, HA, HK1, HO_5, HB⟩ := hrel
  cases gk with
  | zero => exact absurd HA.out (by simp [spec_SharedHints.l0])
  | succ k1 =>
   have H := HA.out
   clear HA
   simp only [spec_SharedHints.l0] at H
   by_cases c5 : x6_1 < (l0.length : Int)
   rotate_left
   ·rw [if_neg c5] at H
    have c5b0 : decide (x6_1 < (l0.length : Int)) = false := decide_eq_false c5
    clear c5
    obtain rfl := Option.some.inj H
    obtain ⟨Ao12, co12, eo12⟩ := Kd.R_slice HO_5.out
    subst eo12
    go_wp2
    go_ret
    exact ⟨by first | rfl | (simp [errW_none, errW_some] <;> rfl) | (simp [*, errW_none, errW_some] <;> rfl), by exact qB HB.out⟩
   rw [if_pos c5] at H
   have c5b0 : decide (x6_1 < (l0.length : Int)) = true := decide_eq_true c5
   clear c5
   by_cases c6 : 0 ≤ x6_1
   rotate_left
   ·rw [if_neg c6] at H
    exact absurd H (by simp)
   rw [if_pos c6] at H
   have c6b0 : decide (0 ≤ x6_1) = true := decide_eq_true c6
   clear c6
   replace H := Option.bind_eq_some_iff.mp H
   obtain ⟨t219, A70, H⟩ := H
   replace H : (if t219 = true then ((spec_l9Put.f k1 x5_1 (rd l0 x6_1)).bind fun t221 => (spec_SharedHints.l0 k1 l0 l1 t221 (wrap64 (x6_1 + 1)))) else (spec_SharedHints.l0 k1 l0 l1 x5_1 (wrap64 (x6_1 + 1)))) = some r := H
   have A7 := zK A70
   clear A70
   by_cases c8 : t219 = true
   rotate_left
   ·replace c8 := Bool.eq_false_iff.mpr c8
    subst c8
    have H1 : (spec_SharedHints.l0 k1 l0 l1 x5_1 (wrap64 (x6_1 + 1))) = some r := by rw [if_neg (show ¬ (false = true) by decide)] at H; exact H
    clear H
    have H := H1
    clear H1
    have H' := zK H
    clear H
    have p218 : 0 ≤ (x6_1 : Int) := oD m3
    have q218 : x6_1 < (l0.length : Int) := oD m3
    obtain ⟨ad218, e218, hx218_0⟩ := Kd.at_int HR0.out x6_1 p218 q218
    cases e218
    replace hx218_0 := (HB.out.cell (bL w hx218_0)).trans hx218_0
    replace p218 := eq_true p218
    replace q218 := eq_true q218
    go_wp2_with (first | ((with_reducible refine gate_callee (f := 90) rfl ?_); refine goesL_ (some 19) rfl rfl Try.func90 (by kernel_rfl) rfl #[.slice A1 l1.length c1, .int .i64 (rd l0 x6_1)] rfl m0 ?_; (with_reducible refine (spec_l8Has.calls k1 _ _ l1 (rd l0 x6_1) false _ ?side1 ?side2 A7.out).mono ?_); (case side1 => exact Kd.qC (Kd.C_below HR1.out HB.out)); (case side2 => exact HC1.out); rintro e w' ⟨rfl, ⟨nd, rfl⟩⟩; refine ⟨_, rfl, ?_⟩))
    go_roundg k1
    case measure => have := HK1.out; omega
    case rel => exact ⟨(x5_1), (wrap64 (x6_1 + 1)), m5, H', ⟨by have := HK1.out; omega⟩, ⟨by exact Kd.qR HO_5.out⟩, ⟨by exact qB HB.out⟩⟩
   subst c8
   have H1 : ((spec_l9Put.f k1 x5_1 (rd l0 x6_1)).bind fun t221 => (spec_SharedHints.l0 k1 l0 l1 t221 (wrap64 (x6_1 + 1)))) = some r := by rw [if_pos rfl] at H; exact H
   clear H
   have H := H1
   clear H1
   replace H := Option.bind_eq_some_iff.mp H
   obtain ⟨t221, A90, H⟩ := H
   replace H : (spec_SharedHints.l0 k1 l0 l1 t221 (wrap64 (x6_1 + 1))) = some r := H
   have A9 := zK A90
   clear A90
   have H' := zK H
   clear H
   have p218 : 0 ≤ (x6_1 : Int) := oD m3
   have q218 : x6_1 < (l0.length : Int) := oD m3
   obtain ⟨ad218, e218, hx218_0⟩ := Kd.at_int HR0.out x6_1 p218 q218
   cases e218
   replace hx218_0 := (HB.out.cell (bL w hx218_0)).trans hx218_0
   replace p218 := eq_true p218
   replace q218 := eq_true q218
   go_wp2_with (first | ((with_reducible refine gate_callee (f := 90) rfl ?_); refine goesL_ (some 19) rfl rfl Try.func90 (by kernel_rfl) rfl #[.slice A1 l1.length c1, .int .i64 (rd l0 x6_1)] rfl m0 ?_; (with_reducible refine (spec_l8Has.calls k1 _ _ l1 (rd l0 x6_1) true _ ?side1 ?side2 A7.out).mono ?_); (case side1 => exact Kd.qC (Kd.C_below HR1.out HB.out)); (case side2 => exact HC1.out); rintro e w' ⟨rfl, ⟨nd, rfl⟩⟩; refine ⟨_, rfl, ?_⟩; have p220 : 0 ≤ (x6_1 : Int) := oD m3; have q220 : x6_1 < (l0.length : Int) := oD m3; obtain ⟨ad220, e220, hx220_0⟩ := Kd.at_int HR0.out x6_1 p220 q220; obtain rfl : ad218 = ad220 := (by injection e220); replace hx220_0 := (HB.out.cell (bL w hx220_0)).trans hx220_0; replace p220 := eq_true p220; replace q220 := eq_true q220; obtain ⟨Ao10, co10, eo10⟩ := Kd.R_slice HO_5.out; subst eo10) | ((with_reducible refine gate_callee (f := 83) rfl ?_); refine goesL_ (some 25) rfl rfl Try.func83 (by kernel_rfl) rfl #[.slice Ao10 x5_1.length co10, .int .i64 (rd l0 x6_1)] rfl m0 ?_; (with_reducible refine (spec_l9Put.calls k1 _ _ x5_1 (rd l0 x6_1) t221 _ ?side1 ?side2 A9.out).mono ?_); (case side1 => exact Kd.qC (Kd.R_reads' HO_5.out).2.2); (case side2 => exact (Kd.R_reads' HO_5.out).2.1); rintro e w11 ⟨v222, rfl, ho0, hb⟩; refine ⟨_, rfl, ?_⟩; have n0_ := zK (Kd.R_elder' (Kd.qR HO_5.out) (Kd.R_base ho0) hb); have n1_ := zK (Kd.R_lower (Kd.R_new' ho0 (Kd.R_lt (Kd.qR HO_5.out))) (bZ (qB HB.out))); have n2_ := zK (bT (qB HB.out) hb); clear HO_5 HB; have HO_5 := n0_; have HO223 := n1_; have HB := n2_; clear n0_ n1_ n2_; (try clear hb); (try clear hb2); (try clear hk); (try clear hi); (try clear ho0)))
   go_roundg k1
   case measure => have := HK1.out; omega
   case rel => exact ⟨(t221), (wrap64 (x6_1 + 1)), m5, H', ⟨by have := HK1.out; omega⟩, ⟨by (with_reducible repeat (first | apply Kd.RA | apply Kd.RN | apply Kd.RD)); exact Kd.R_mono HO223.out (fun _ hk => trivial)⟩, ⟨by exact qB HB.out⟩⟩
/-! ### spec_MayHave: function 27 -/
def spec_MayHave.f (k : Nat) (a0_0 : Int) (a0_1 : Int) (l0_2 : List Int) (a0_3 : Int) (a0_4 : Int) (l0_5 : List Int) (a0_6 : Int) (a0_7 : Int) (l1 : List Int) (a2 : Int) : Option (Bool) := (spec_HintsFor.f k a0_0 a0_1 l0_2 a0_3 a0_4 l0_5 a0_6 a0_7 a2).bind fun t225 => ((spec_SharedHints.f k t225 l1).bind fun t228 => (some (decide (t228 > 0))))
set_option maxHeartbeats 8000000 in
set_option maxRecDepth 100000 in
theorem spec_MayHave.calls (k : Nat) (a0_0 : Int) (a0_1 : Int) (A0_2 : Option Addr) (c0_2 : Nat) (l0_2 : List Int) (a0_3 : Int) (a0_4 : Int) (A0_5 : Option Addr) (c0_5 : Nat) (l0_5 : List Int) (a0_6 : Int) (a0_7 : Int) (A1 : Option Addr) (c1 : Nat) (l1 : List Int) (a2 : Int) (r : Bool) (w : World) (hr0_2 : Kd.C (Kd.int .i64) w A0_2 l0_2.length l0_2) (hc0_2 : l0_2.length ≤ c0_2) (hr0_5 : Kd.C (Kd.int .i64) w A0_5 l0_5.length l0_5) (hc0_5 : l0_5.length ≤ c0_5) (hr1 : Kd.C (Kd.int .i64) w A1 l1.length l1) (hc1 : l1.length ≤ c1) (h : spec_MayHave.f k a0_0 a0_1 l0_2 a0_3 a0_4 l0_5 a0_6 a0_7 l1 a2 = some r) :
  Calls Try.prog 27 #[.agg #[.int .i64 a0_0, .int .i64 a0_1, .slice A0_2 l0_2.length c0_2, .int .i64 a0_3, .int .i64 a0_4, .slice A0_5 l0_5.length c0_5, .int .i64 a0_6, .int .i64 a0_7], .slice A1 l1.length c1, .int .i64 a2] w fun e w' => e = .returned (.bool r) ∧ Below w.heap.size w w' := by
 have hu41 := Try.underlying41
 have HR0_2 := zK hr0_2
 have HC0_2 := zK hc0_2
 clear hr0_2 hc0_2
 have HR0_5 := zK hr0_5
 have HC0_5 := zK hc0_5
 clear hr0_5 hc0_5
 have HR1 := zK hr1
 have HC1 := zK hc1
 clear hr1 hc1
 have HB := zK (Below.refl w.heap.size w)
 have H : ((spec_HintsFor.f k a0_0 a0_1 l0_2 a0_3 a0_4 l0_5 a0_6 a0_7 a2).bind fun t225 => ((spec_SharedHints.f k t225 l1).bind fun t228 => (some (decide (t228 > 0))))) = some r := h
 clear h
 replace H := Option.bind_eq_some_iff.mp H
 obtain ⟨t225, A40, H⟩ := H
 replace H : ((spec_SharedHints.f k t225 l1).bind fun t228 => (some (decide (t228 > 0)))) = some r := H
 have A4 := zK A40
 clear A40
 replace H := Option.bind_eq_some_iff.mp H
 obtain ⟨t228, A50, H⟩ := H
 replace H : (some (decide (t228 > 0))) = some r := H
 have A5 := zK A50
 clear A50
 obtain rfl := Option.some.inj H
 go_enter Try.func27, Try.ntmps27
 go_wp2_with (first | ((with_reducible refine gate_dst (N := 3) rfl ?_); refine box_event ?hg (N := 3) ?hd (cs := #[.int .i64 a0_0, .int .i64 a0_1, .slice A0_2 l0_2.length c0_2, .int .i64 a0_3, .int .i64 a0_4, .slice A0_5 l0_5.length c0_5, .int .i64 a0_6, .int .i64 a0_7]) (t := 41) ?hr ?_; (case hd => rfl); (case hg => rfl); (case hr => first | (go_simp; done) | (go_simp; rfl)); intro gb224 hg w6 hbox hb; have n0_ := zK (bT (qB HB.out) hb); have n1_ := zK (hbox); have n2_ := zK ((by rw [hg]; exact (bZ (qB HB.out)) : w.heap.size ≤ gb224)); have n3_ := zK ((by rw [hg]; exact (bZ (qB HB.out)) : w.heap.size ≤ gb224)); clear HB; have HB := n0_; have BK224 := n1_; have GW224 := n2_; have GE224 := n3_; clear n0_ n1_ n2_ n3_; clear hb hbox hg; have hcz7_0 : w6.cell? ⟨gb224, 0, none⟩ = some (.int .i64 a0_0) := (bc BK224.out 0).trans rfl; have hcz7_1 : w6.cell? ⟨gb224, 1, none⟩ = some (.int .i64 a0_1) := (bc BK224.out 1).trans rfl; have hcz7_2 : w6.cell? ⟨gb224, 2, none⟩ = some (.slice A0_2 l0_2.length c0_2) := (bc BK224.out 2).trans rfl; have hcz7_3 : w6.cell? ⟨gb224, 3, none⟩ = some (.int .i64 a0_3) := (bc BK224.out 3).trans rfl; have hcz7_4 : w6.cell? ⟨gb224, 4, none⟩ = some (.int .i64 a0_4) := (bc BK224.out 4).trans rfl; have hcz7_5 : w6.cell? ⟨gb224, 5, none⟩ = some (.slice A0_5 l0_5.length c0_5) := (bc BK224.out 5).trans rfl; have hcz7_6 : w6.cell? ⟨gb224, 6, none⟩ = some (.int .i64 a0_6) := (bc BK224.out 6).trans rfl; have hcz7_7 : w6.cell? ⟨gb224, 7, none⟩ = some (.int .i64 a0_7) := (bc BK224.out 7).trans rfl; have hfz7_0 := bf BK224.out 0; have hfz7_1 := bf BK224.out 1; have hfz7_2 := bf BK224.out 2; have hfz7_3 := bf BK224.out 3; have hfz7_4 := bf BK224.out 4; have hfz7_5 := bf BK224.out 5; have hfz7_6 := bf BK224.out 6; have hfz7_7 := bf BK224.out 7) | ((with_reducible refine gate_callee (f := 22) rfl ?_); refine goesL_ (some 9) rfl rfl Try.func22 (by kernel_rfl) rfl #[.agg #[.int .i64 a0_0, .int .i64 a0_1, .slice A0_2 l0_2.length c0_2, .int .i64 a0_3, .int .i64 a0_4, .slice A0_5 l0_5.length c0_5, .int .i64 a0_6, .int .i64 a0_7], .int .i64 a2] rfl m0 ?_; (with_reducible refine (spec_HintsFor.calls k a0_0 a0_1 _ _ l0_2 a0_3 a0_4 _ _ l0_5 a0_6 a0_7 a2 t225 _ ?side1 ?side2 ?side3 ?side4 A4.out).mono ?_); (case side1 => exact Kd.qC (Kd.C_below HR0_2.out HB.out)); (case side2 => exact HC0_2.out); (case side3 => exact Kd.qC (Kd.C_below HR0_5.out HB.out)); (case side4 => exact HC0_5.out); rintro e w8 ⟨v226, rfl, ho0, hb⟩; refine ⟨_, rfl, ?_⟩; have n0_ := zK (Kd.R_lower ho0 (bZ (by repeat (first | (with_reducible first | exact HB.out | apply bA | apply bN | apply b1 | refine bS ?_ GE224.out) | exact HB.out)))); have n1_ := zK (bB (g := gb224) (o := .cells #[.int .i64 a0_0, .int .i64 a0_1, .slice A0_2 l0_2.length c0_2, .int .i64 a0_3, .int .i64 a0_4, .slice A0_5 l0_5.length c0_5, .int .i64 a0_6, .int .i64 a0_7] 41 (0, 0)) (qK BK224.out) hb); have n2_ := zK (bT (by repeat (first | (with_reducible first | exact HB.out | apply bA | apply bN | apply b1 | refine bS ?_ GE224.out) | exact HB.out)) hb); clear BK224 HB; have HO227 := n0_; have BK224 := n1_; have HB := n2_; clear n0_ n1_ n2_; (try clear hb); (try clear hb2); (try clear hk); (try clear hi); (try clear ho0); obtain ⟨Ao9, co9, eo9⟩ := Kd.R_slice HO227.out; subst eo9) | ((with_reducible refine gate_callee (f := 96) rfl ?_); refine goesL_ (some 11) rfl rfl Try.func96 (by kernel_rfl) rfl #[.slice Ao9 t225.length co9, .slice A1 l1.length c1] rfl m0 ?_; (with_reducible refine (spec_SharedHints.calls k _ _ t225 _ _ l1 t228 _ ?side1 ?side2 ?side3 ?side4 A5.out).mono ?_); (case side1 => exact Kd.qC (Kd.R_reads' HO227.out).2.2); (case side2 => exact (Kd.R_reads' HO227.out).2.1); (case side3 => exact Kd.qC (Kd.C_below HR1.out HB.out)); (case side4 => exact HC1.out); rintro e w10 ⟨rfl, hb⟩; refine ⟨_, rfl, ?_⟩; have n0_ := zK (Kd.R_below (Kd.qR HO227.out) hb); have n1_ := zK (bB (g := gb224) (o := .cells #[.int .i64 a0_0, .int .i64 a0_1, .slice A0_2 l0_2.length c0_2, .int .i64 a0_3, .int .i64 a0_4, .slice A0_5 l0_5.length c0_5, .int .i64 a0_6, .int .i64 a0_7] 41 (0, 0)) (qK BK224.out) hb); have n2_ := zK (bT (by repeat (first | (with_reducible first | exact HB.out | apply bA | apply bN | apply b1 | refine bS ?_ GE224.out) | exact HB.out)) hb); clear HO227 BK224 HB; have HO227 := n0_; have BK224 := n1_; have HB := n2_; clear n0_ n1_ n2_; (try clear hb); (try clear hb2); (try clear hk); (try clear hi)))
 go_ret
 exact ⟨by first | rfl | (simp [errW_none, errW_some] <;> rfl) | (simp [*, errW_none, errW_some] <;> rfl), by repeat (first | (with_reducible first | exact HB.out | apply bA | apply bN | apply b1 | refine bS ?_ GE224.out) | exact HB.out)⟩

end Go.Proofs.Ytejhjenlodclpaa.PFnExactAskHouses
