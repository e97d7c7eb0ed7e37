/- Walks of functions that FnHints reaches, shortened. -/
import Derived.Test.YtejhjenlodclpaaPFnHintsx0
import Derived.Test.YtejhjenlodclpaaPFnHintsx5
import Derived.Test.YtejhjenlodclpaaPFnHintsx8
namespace Go.Proofs.Ytejhjenlodclpaa.PFnHints
open Go.RowKit Go.Proofs.YtejhjenlodclpaaW.PrintWords Go.Proofs.YtejhjenlodclpaaW.PrintLast Go.Proofs.YtejhjenlodclpaaW.PrintMore
attribute [local go_sem] max2_int min2_int max_two min_two max_three min_three max_four min_four
set_option maxHeartbeats 8000000
set_option maxRecDepth 100000
set_option linter.unusedVariables false
set_option linter.unusedSimpArgs false

abbrev b9A0 : Array Bool := #[O, O, O, O, O, O, O]
abbrev b9A1 : Array Bool := #[O, I, O, O, O, O, O]
abbrev b9A2 : Array Bool := #[O, I, I, O, O, O, O]
abbrev b9A3 : Array Bool := #[O, I, I, I, O, O, O]
abbrev b9A4 : Array Bool := #[O, I, I, I, O, I, O]
abbrev b9A5 : Array Bool := #[I, I, I, I, O, I, O]
abbrev b9A6 : Array Bool := #[I, I, I, I, I, I, O]
abbrev b9A7 : Array Bool := #[I, I, I, I, I, I, I]
/-! ### spec_AskHouses: function 42 -/
def spec_AskHouses.l0 : Nat → List (List Int) → Int → List Int → Int → Int → Int → List Int → Int → Int → List Int → Int → Int → Option (List Int)
 | 0, _, _, _, _, _, _, _, _, _, _, _, _ => none
 | k + 1, x1, x2, x7, x8, x273000, x273001, x273002, x273003, x273004, x273005, x273006, x273007 => if x8 < (x1.length : Int) then (if 0 ≤ x8 then ((spec_MayHave.f k x273000 x273001 x273002 x273003 x273004 x273005 x273006 x273007 (rd_L4 x1 x8) x2).bind fun t277 => (if t277 = true then (if x7.length < 17592186044416 then (spec_AskHouses.l0 k x1 x2 (x7 ++ [x8]) (wrap64 (x8 + 1)) x273000 x273001 x273002 x273003 x273004 x273005 x273006 x273007) else (none)) else (spec_AskHouses.l0 k x1 x2 x7 (wrap64 (x8 + 1)) x273000 x273001 x273002 x273003 x273004 x273005 x273006 x273007))) else (none)) else (some x7)
def spec_AskHouses.f (k : Nat) (a0_0 : Int) (a0_1 : Int) (l0_2 : List Int) (a0_3 : Int) (a0_4 : Int) (l0_5 : List Int) (a0_6 : Int) (a0_7 : Int) (l1 : List (List Int)) (a2 : Int) : Option (List Int) := spec_AskHouses.l0 k l1 a2 (([] : List Int)) 0 a0_0 a0_1 l0_2 a0_3 a0_4 l0_5 a0_6 a0_7
theorem spec_AskHouses.calls (k : Nat) (a0_0 : Int) (a0_1 : Int) (A0_2 : Option Addr) (c0_2 : Nat) (l0_2 : List Int) (a0_3 : Int) (a0_4 : Int) (A0_5 : Option Addr) (c0_5 : Nat) (l0_5 : List Int) (a0_6 : Int) (a0_7 : Int) (A1 : Option Addr) (c1 : Nat) (l1 : List (List Int)) (a2 : Int) (r : List Int) (w : World) (hr0_2 : Kd.C (Kd.int .i64) w A0_2 l0_2.length l0_2) (hc0_2 : l0_2.length ≤ c0_2) (hr0_5 : Kd.C (Kd.int .i64) w A0_5 l0_5.length l0_5) (hc0_5 : l0_5.length ≤ c0_5) (hr1 : Kd.C (Kd.slice 3 (Kd.int .i64)) w A1 l1.length l1) (hc1 : l1.length ≤ c1) (h : spec_AskHouses.f k a0_0 a0_1 l0_2 a0_3 a0_4 l0_5 a0_6 a0_7 l1 a2 = some r) :
  Calls Try.prog 42 #[.agg #[.int .i64 a0_0, .int .i64 a0_1, .slice A0_2 l0_2.length c0_2, .int .i64 a0_3, .int .i64 a0_4, .slice A0_5 l0_5.length c0_5, .int .i64 a0_6, .int .i64 a0_7], .slice A1 l1.length c1, .int .i64 a2] w fun e w' => ∃ v0_ : Value, e = .returned (v0_) ∧ Kd.R (Kd.int .i64) 3 w' w.heap.size (fun _ => True) v0_ r ∧ Below w.heap.size w w' := by
 have hu41 := Try.underlying41
 have HR0_2 := zK hr0_2
 have HC0_2 := zK hc0_2
 clear hr0_2 hc0_2
 have HR0_5 := zK hr0_5
 have HC0_5 := zK hc0_5
 clear hr0_5 hc0_5
 have HR1 := zK hr1
 have HC1 := zK hc1
 clear hr1 hc1
 have HB := zK (Below.refl w.heap.size w)
 have H : (spec_AskHouses.l0 k l1 a2 (([] : List Int)) 0 a0_0 a0_1 l0_2 a0_3 a0_4 l0_5 a0_6 a0_7) = some r := h
 clear h
 obtain ⟨y273, hy273⟩ : ∃ y_ : List Int, y_ = (([] : List Int)) := ⟨_, rfl⟩
 replace H : (spec_AskHouses.l0 k l1 a2 y273 0 a0_0 a0_1 l0_2 a0_3 a0_4 l0_5 a0_6 a0_7) = some r := have he_ := hy273; rH
 have Ny273 := zK hy273
 clear hy273
 have H' := zK H
 clear H
 go_enter Try.func42, Try.ntmps42
 go_wp2_with (first | ((with_reducible refine gd (N := 3) rfl ?_); refine bE (N := 3) (cs := #[.int .i64 a0_0, .int .i64 a0_1, .slice A0_2 l0_2.length c0_2, .int .i64 a0_3, .int .i64 a0_4, .slice A0_5 l0_5.length c0_5, .int .i64 a0_6, .int .i64 a0_7]) (t := 41) ?_; intro gb272 hg w4 hbox hb; have _ := zK (bT (qB HB.o) hb); have _ := zK (hbox); have _ := zK ((by rw [hg]; exact (bZ (qB HB.o)) : w.heap.size ≤ gb272)); have _ := zK ((by rw [hg]; exact (bZ (qB HB.o)) : w.heap.size ≤ gb272)); clear HB; rename_i HB BK272 GW272 GE272; clear hb hbox hg) | ((with_reducible refine gd (N := 9) rfl ?_); refine Kd.R_lit (Kd.int .i64) _ 3 ?hg (N := 9) ?hd (xs := ([] : List Int)) (inner := []) (ok := fun _ => True) (okp := fun _ => True) ?hr ?hp (fun _ hk => hk) trivial (Below.refl _ _) (Nat.le_refl _) (by simp) ?_; (case hd => rfl); (case hg => rfl); (case hr => first | (go_simp; done) | (go_simp; rfl)); (case hp => exact (Reps.none _ _)); intro v274 w5 ho6 hb hg_ hnew_; clear hg_ hnew_; (first | rw [← Ny273.o] at ho6 | (simp only [Int.reduceToNat] at ho6; rw [← Ny273.o] at ho6)); have _ := zK (Kd.R_lower ho6 (bZ M11)); have _ := zK (bB (qK BK272.o) hb); have _ := zK (bT M11 hb); clear BK272 HB; rename_i HO275 BK272 HB; clear hb ho6))
 go_loopg [7, 8] k (fun kq v7 v8 w' => ∃ (x7_1 : List Int) (x8_1 : Int), v8 = .int .i64 x8_1 ∧ Aside0 (spec_AskHouses.l0 kq l1 a2 x7_1 x8_1 a0_0 a0_1 l0_2 a0_3 a0_4 l0_5 a0_6 a0_7 = some r) ∧ Aside0 (kq ≤ k) ∧ Aside0 (Kd.R (Kd.int .i64) 3 w' w.heap.size (fun _ => True) v7 x7_1) ∧ Aside0 (w'.heap[gb272]? = some (.cells #[.int .i64 a0_0, .int .i64 a0_1, (.slice A0_2 l0_2.length c0_2), .int .i64 a0_3, .int .i64 a0_4, (.slice A0_5 l0_5.length c0_5), .int .i64 a0_6, .int .i64 a0_7] 41 (0, 0))) ∧ Aside0 (Below w.heap.size w w'))
 case atStart => exact ⟨(y273), (0), M12, H', ⟨Nat.le_refl _⟩, ⟨by exact Kd.qR HO275.o⟩, ⟨by exact qK BK272.o⟩, ⟨o3⟩⟩
 case round =>
  clear H'
  try clear c1
  try clear p2
  try clear c4
  obtain ⟨x7_1, x8_1, rfl, HA, HK1, HO_7, BK272, HB⟩ := hrel
  cases gk with
  | zero => exact absurd HA.o (by simp [spec_AskHouses.l0])
  | succ k1 =>
   have H := HA.o
   clear HA
   simp only [spec_AskHouses.l0] at H
   by_cases c7 : x8_1 < (l1.length : Int)
   rotate_left
   ·rw [if_neg c7] at H
    have c7b0 : decide (x8_1 < (l1.length : Int)) = false := decide_eq_false c7
    clear c7
    obtain rfl := Option.some.inj H
    go_wp2
    go_ret
    exact ⟨_, o0, by exact Kd.qR HO_7.o, o3⟩
   rw [if_pos c7] at H
   have c7b0 : decide (x8_1 < (l1.length : Int)) = true := decide_eq_true c7
   clear c7
   by_cases c8 : 0 ≤ x8_1
   rotate_left
   ·rw [if_neg c8] at H
    exact absurd H (by simp)
   rw [if_pos c8] at H
   have c8b0 : decide (0 ≤ x8_1) = true := decide_eq_true c8
   clear c8
   replace H := Option.bind_eq_some_iff.mp H
   obtain ⟨t277, A90, H⟩ := H
   try dsimp only at H
   have A9 := zK A90
   clear A90
   by_cases c10 : t277 = true
   rotate_left
   ·replace c10 := Bool.eq_false_iff.mpr c10
    subst c10
    have H1 : (spec_AskHouses.l0 k1 l1 a2 x7_1 (wrap64 (x8_1 + 1)) a0_0 a0_1 l0_2 a0_3 a0_4 l0_5 a0_6 a0_7) = some r := by rw [if_neg (show ¬ (false = true) by decide)] at H; exact H
    clear H
    have H := H1
    clear H1
    have H' := zK H
    clear H
    try go_wp2
    have _ := zK (Kd.RD HO_7.o)
    have _ := zK (kD BK272.o)
    have _ := zK (b1 HB.o)
    clear HO_7 BK272 HB
    rename_i HO_7 BK272 HB
    have p276 : 0 ≤ (x8_1 : Int) := oD M4
    have q276 : x8_1 < (l1.length : Int) := oD M4
    obtain ⟨ad276, A276_0, c276_0, e276, hx276_0, hl276_0, hi276_0⟩ := at_L4 HR1.o x8_1 p276 q276
    have hw276_0 := hx276_0
    cases e276
    replace hx276_0 := cB HB.o hx276_0
    have HR276_0 := zK hi276_0
    have HC276_0 := zK hl276_0
    clear hi276_0 hl276_0
    replace p276 := eq_true p276
    replace q276 := eq_true q276
    refine start_ (n := 7) (S := fun w' => w'.cell? ⟨gb272, 0, none⟩ = some (.int .i64 a0_0) ∧ w'.cell? ⟨gb272, 1, none⟩ = some (.int .i64 a0_1) ∧ w'.cell? ⟨gb272, 2, none⟩ = some (.slice A0_2 l0_2.length c0_2) ∧ w'.cell? ⟨gb272, 3, none⟩ = some (.int .i64 a0_3) ∧ w'.cell? ⟨gb272, 4, none⟩ = some (.int .i64 a0_4) ∧ w'.cell? ⟨gb272, 5, none⟩ = some (.slice A0_5 l0_5.length c0_5) ∧ w'.cell? ⟨gb272, 6, none⟩ = some (.int .i64 a0_6) ∧ w'.cell? ⟨gb272, 7, none⟩ = some (.int .i64 a0_7) ∧ w'.cell? (ad276.add (x8_1).toNat) = some (.slice A276_0 (rd_L4 l1 x8_1).length c276_0)) (ds := []) b9A0 (by kernel_rfl) rfl rfl (j8 BK272.o ((cB HB.o hw276_0 :))) (fun hHeld => ?_)
    generalize wr.drew = w15 at HO_7 BK272 HB HR276_0 hx276_0 hHeld ⊢
    refine pure_ (i := 1) (N := some 17) (v := ?_) (a' := ?_) b9A1 rfl rfl (by kernel_rfl) (fun _ _ _ h => h) (Or.inl ⟨by rfl, ?_⟩) ?_ ?_
    rotate_left
    ·intro w'
     go_simp
     with_reducible rfl
    rotate_left
    ·simp only [Act.put, sA, sZ, sS, i64_w, i32_w]
     rfl
    refine pure_ (i := 2) (N := some 18) (v := ?_) (a' := ?_) b9A2 rfl rfl (by kernel_rfl) (fun _ _ _ h => h) (Or.inl ⟨by rfl, ?_⟩) ?_ ?_
    rotate_left
    ·intro w'
     go_simp
     with_reducible rfl
    rotate_left
    ·simp only [Act.put, sA, sZ, sS, i64_w, i32_w]
     rfl
    refine pure_ (i := 3) (N := some 19) (v := ?_) (a' := ?_) b9A3 rfl rfl (by kernel_rfl) (fun _ _ _ h => h) (Or.inl ⟨by rfl, ?_⟩) ?_ ?_
    rotate_left
    ·intro w'
     go_simp
     with_reducible rfl
    rotate_left
    ·simp only [Act.put, sA, sZ, sS, i64_w, i32_w]
     rfl
    refine pure_ (i := 5) (N := some 21) (v := ?_) (a' := ?_) b9A4 rfl rfl (by kernel_rfl) (fun _ _ _ h => h) (Or.inl ⟨by rfl, ?_⟩) ?_ ?_
    rotate_left
    ·intro w'
     go_simp
     with_reducible rfl
    rotate_left
    ·simp only [Act.put, sA, sZ, sS, i64_w, i32_w]
     rfl
    refine take_ (i := 0) (N := some 16) (v := ?_) (a' := ?_) b9A5 rfl rfl (by kernel_rfl) (fun _ _ _ h => h) (Or.inl ⟨by rfl, ?_⟩) hHeld ?_ ?_
    rotate_left
    ·rintro w' ⟨s0, s1, s2, s3, s4, s5, s6, s7, s8⟩
     go_simp
     with_reducible rfl
    rotate_left
    ·simp only [Act.put, sA, sZ, sS, i64_w, i32_w]
     rfl
    refine take_ (i := 4) (N := some 20) (v := ?_) (a' := ?_) b9A6 rfl rfl (by kernel_rfl) (fun _ _ _ h => h) (Or.inl ⟨by rfl, ?_⟩) hHeld ?_ ?_
    rotate_left
    ·rintro w' ⟨s0, s1, s2, s3, s4, s5, s6, s7, s8⟩
     go_simp
     with_reducible rfl
    rotate_left
    ·simp only [Act.put, sA, sZ, sS, i64_w, i32_w]
     rfl
    refine one_ (i := 6) (N := some 22) b9A7 rfl rfl (by kernel_rfl) (by decide) (fun K hK => ?_)
    refine goes_ Try.func27 (by kernel_rfl) rfl #[.agg #[.int .i64 a0_0, .int .i64 a0_1, .slice A0_2 l0_2.length c0_2, .int .i64 a0_3, .int .i64 a0_4, .slice A0_5 l0_5.length c0_5, .int .i64 a0_6, .int .i64 a0_7], .slice A276_0 (rd_L4 l1 x8_1).length c276_0, .int .i64 a2] (by rfl) rfl rfl M0 ?_
    with_reducible refine (spec_MayHave.calls k1 a0_0 a0_1 _ _ l0_2 a0_3 a0_4 _ _ l0_5 a0_6 a0_7 _ _ (rd_L4 l1 x8_1) a2 false _ ?side1 ?side2 ?side3 ?side4 ?side5 ?side6 A9.o).mono ?_
    (case side1 => exact Kd.qC (Kd.C_below HR0_2.o HB.o))
    (case side2 => exact HC0_2.o)
    (case side3 => exact Kd.qC (Kd.C_below HR0_5.o HB.o))
    (case side4 => exact HC0_5.o)
    (case side5 => exact Kd.qC (Kd.C_below HR276_0.o HB.o))
    (case side6 => exact HC276_0.o)
    rintro e w16 ⟨rfl, hb⟩
    refine ⟨_, rfl, ?_⟩
    have _ := zK (Kd.R_below (Kd.qR HO_7.o) hb)
    have _ := zK (bB (qK BK272.o) hb)
    have _ := zK (bT M11 hb)
    clear HO_7 BK272 HB
    rename_i HO_7 BK272 HB
    (try clear hb)
    (try clear hb2)
    (try clear hk)
    (try clear hi)
    refine hK.out _ _ (j8 BK272.o ((cB HB.o hw276_0 :))) (fun hHeld => ?_)
    clear hK K
    refine norm_ (a' := ?_) ?_ ?_
    rotate_left
    ·show Act.put _ (some 22) _ = _
     simp only [Act.put, sA, sZ, sS, i64_w, i32_w]
     rfl
    refine done_ (by kernel_rfl) ?_
    try go_wp2
    go_roundg k1
    case measure => have := HK1.o; omega
    case rel => exact ⟨(x7_1), (wrap64 (x8_1 + 1)), M12, H', ⟨o6⟩, ⟨by exact Kd.qR HO_7.o⟩, ⟨by exact qK BK272.o⟩, ⟨o3⟩⟩
   subst c10
   have H1 : (if x7_1.length < 17592186044416 then (spec_AskHouses.l0 k1 l1 a2 (x7_1 ++ [x8_1]) (wrap64 (x8_1 + 1)) a0_0 a0_1 l0_2 a0_3 a0_4 l0_5 a0_6 a0_7) else (none)) = some r := by rw [if_pos rfl] at H; exact H
   clear H
   have H := H1
   clear H1
   by_cases c11 : x7_1.length < 17592186044416
   rotate_left
   ·rw [if_neg c11] at H
    exact absurd H (by simp)
   rw [if_pos c11] at H
   have LMc11 := zK c11
   clear c11
   obtain ⟨y278, hy278⟩ : ∃ y_ : List Int, y_ = (x7_1 ++ [x8_1]) := ⟨_, rfl⟩
   replace H : (spec_AskHouses.l0 k1 l1 a2 y278 (wrap64 (x8_1 + 1)) a0_0 a0_1 l0_2 a0_3 a0_4 l0_5 a0_6 a0_7) = some r := have he_ := hy278; rH
   have Ny278 := zK hy278
   clear hy278
   have H' := zK H
   clear H
   try go_wp2
   have _ := zK (Kd.RD HO_7.o)
   have _ := zK (kD BK272.o)
   have _ := zK (b1 HB.o)
   clear HO_7 BK272 HB
   rename_i HO_7 BK272 HB
   have p276 : 0 ≤ (x8_1 : Int) := oD M4
   have q276 : x8_1 < (l1.length : Int) := oD M4
   obtain ⟨ad276, A276_0, c276_0, e276, hx276_0, hl276_0, hi276_0⟩ := at_L4 HR1.o x8_1 p276 q276
   have hw276_0 := hx276_0
   cases e276
   replace hx276_0 := cB HB.o hx276_0
   have HR276_0 := zK hi276_0
   have HC276_0 := zK hl276_0
   clear hi276_0 hl276_0
   replace p276 := eq_true p276
   replace q276 := eq_true q276
   refine start_ (n := 7) (S := fun w' => w'.cell? ⟨gb272, 0, none⟩ = some (.int .i64 a0_0) ∧ w'.cell? ⟨gb272, 1, none⟩ = some (.int .i64 a0_1) ∧ w'.cell? ⟨gb272, 2, none⟩ = some (.slice A0_2 l0_2.length c0_2) ∧ w'.cell? ⟨gb272, 3, none⟩ = some (.int .i64 a0_3) ∧ w'.cell? ⟨gb272, 4, none⟩ = some (.int .i64 a0_4) ∧ w'.cell? ⟨gb272, 5, none⟩ = some (.slice A0_5 l0_5.length c0_5) ∧ w'.cell? ⟨gb272, 6, none⟩ = some (.int .i64 a0_6) ∧ w'.cell? ⟨gb272, 7, none⟩ = some (.int .i64 a0_7) ∧ w'.cell? (ad276.add (x8_1).toNat) = some (.slice A276_0 (rd_L4 l1 x8_1).length c276_0)) (ds := []) b9A0 (by kernel_rfl) rfl rfl (j8 BK272.o ((cB HB.o hw276_0 :))) (fun hHeld => ?_)
   generalize wr.drew = w12 at HO_7 BK272 HB HR276_0 hx276_0 hHeld ⊢
   refine pure_ (i := 1) (N := some 17) (v := ?_) (a' := ?_) b9A1 rfl rfl (by kernel_rfl) (fun _ _ _ h => h) (Or.inl ⟨by rfl, ?_⟩) ?_ ?_
   rotate_left
   ·intro w'
    go_simp
    with_reducible rfl
   rotate_left
   ·simp only [Act.put, sA, sZ, sS, i64_w, i32_w]
    rfl
   refine pure_ (i := 2) (N := some 18) (v := ?_) (a' := ?_) b9A2 rfl rfl (by kernel_rfl) (fun _ _ _ h => h) (Or.inl ⟨by rfl, ?_⟩) ?_ ?_
   rotate_left
   ·intro w'
    go_simp
    with_reducible rfl
   rotate_left
   ·simp only [Act.put, sA, sZ, sS, i64_w, i32_w]
    rfl
   refine pure_ (i := 3) (N := some 19) (v := ?_) (a' := ?_) b9A3 rfl rfl (by kernel_rfl) (fun _ _ _ h => h) (Or.inl ⟨by rfl, ?_⟩) ?_ ?_
   rotate_left
   ·intro w'
    go_simp
    with_reducible rfl
   rotate_left
   ·simp only [Act.put, sA, sZ, sS, i64_w, i32_w]
    rfl
   refine pure_ (i := 5) (N := some 21) (v := ?_) (a' := ?_) b9A4 rfl rfl (by kernel_rfl) (fun _ _ _ h => h) (Or.inl ⟨by rfl, ?_⟩) ?_ ?_
   rotate_left
   ·intro w'
    go_simp
    with_reducible rfl
   rotate_left
   ·simp only [Act.put, sA, sZ, sS, i64_w, i32_w]
    rfl
   refine take_ (i := 0) (N := some 16) (v := ?_) (a' := ?_) b9A5 rfl rfl (by kernel_rfl) (fun _ _ _ h => h) (Or.inl ⟨by rfl, ?_⟩) hHeld ?_ ?_
   rotate_left
   ·rintro w' ⟨s0, s1, s2, s3, s4, s5, s6, s7, s8⟩
    go_simp
    with_reducible rfl
   rotate_left
   ·simp only [Act.put, sA, sZ, sS, i64_w, i32_w]
    rfl
   refine take_ (i := 4) (N := some 20) (v := ?_) (a' := ?_) b9A6 rfl rfl (by kernel_rfl) (fun _ _ _ h => h) (Or.inl ⟨by rfl, ?_⟩) hHeld ?_ ?_
   rotate_left
   ·rintro w' ⟨s0, s1, s2, s3, s4, s5, s6, s7, s8⟩
    go_simp
    with_reducible rfl
   rotate_left
   ·simp only [Act.put, sA, sZ, sS, i64_w, i32_w]
    rfl
   refine one_ (i := 6) (N := some 22) b9A7 rfl rfl (by kernel_rfl) (by decide) (fun K hK => ?_)
   refine goes_ Try.func27 (by kernel_rfl) rfl #[.agg #[.int .i64 a0_0, .int .i64 a0_1, .slice A0_2 l0_2.length c0_2, .int .i64 a0_3, .int .i64 a0_4, .slice A0_5 l0_5.length c0_5, .int .i64 a0_6, .int .i64 a0_7], .slice A276_0 (rd_L4 l1 x8_1).length c276_0, .int .i64 a2] (by rfl) rfl rfl M0 ?_
   with_reducible refine (spec_MayHave.calls k1 a0_0 a0_1 _ _ l0_2 a0_3 a0_4 _ _ l0_5 a0_6 a0_7 _ _ (rd_L4 l1 x8_1) a2 true _ ?side1 ?side2 ?side3 ?side4 ?side5 ?side6 A9.o).mono ?_
   (case side1 => exact Kd.qC (Kd.C_below HR0_2.o HB.o))
   (case side2 => exact HC0_2.o)
   (case side3 => exact Kd.qC (Kd.C_below HR0_5.o HB.o))
   (case side4 => exact HC0_5.o)
   (case side5 => exact Kd.qC (Kd.C_below HR276_0.o HB.o))
   (case side6 => exact HC276_0.o)
   rintro e w13 ⟨rfl, hb⟩
   refine ⟨_, rfl, ?_⟩
   have _ := zK (Kd.R_below (Kd.qR HO_7.o) hb)
   have _ := zK (bB (qK BK272.o) hb)
   have _ := zK (bT M11 hb)
   clear HO_7 BK272 HB
   rename_i HO_7 BK272 HB
   (try clear hb)
   (try clear hb2)
   (try clear hk)
   (try clear hi)
   refine hK.out _ _ (j8 BK272.o ((cB HB.o hw276_0 :))) (fun hHeld => ?_)
   clear hK K
   refine norm_ (a' := ?_) ?_ ?_
   rotate_left
   ·show Act.put _ (some 22) _ = _
    simp only [Act.put, sA, sZ, sS, i64_w, i32_w]
    rfl
   refine done_ (by kernel_rfl) ?_
   try go_wp2_with (first | ((with_reducible refine gate_builtin (b := .append) (xs := #[.tmp 23, .tmp 25]) rfl ?_); at_builtin; refine Kd.R_append (Kd.int .i64) (w0 := w) w.heap.size rfl (.tmp 23) (.tmp 25) 24 3 (.int .i64 0) 8 rfl Try.underlying24 info3 rfl (by decide) (by omega) u7 x7_1 x8_1 [.int .i64 x8_1] (fun _ => True) (fun _ => False) rfl rfl ?aP (fun _ hk => hk.elim) ?aF ?aO ?aB ?aS ?aL ?_; (case aP => exact rfl); (case aB => exact M11); (case aF => exact (fun _ _ => trivial)); (case aO => exact (Kd.qR HO_7.o)); (case aS => exact (bZ M11)); (case aL => have := LMc11.o; omega); intro v279 w14 ho hb hg hat; rw [← Ny278.o] at ho; have _ := zK (blk_grown (qK BK272.o) hg (Kd.R_ne HO_7.o BK272.o (by decide))); have _ := zK (hb); have _ := zK (ho); clear BK272 HB HO_7; rename_i BK272 HB HO280; clear ho hb hg hat))
   go_roundg k1
   case measure => have := HK1.o; omega
   case rel => exact ⟨(y278), (wrap64 (x8_1 + 1)), M12, H', ⟨o6⟩, ⟨by exact Kd.qR HO280.o⟩, ⟨by exact qK BK272.o⟩, ⟨o3⟩⟩
/-! ### impl_AskHouses: function 44 -/
def impl_AskHouses.l0 : Nat → Int → List Int → List (List Int) → Int → Int → Int → Int → List Int → Int → Int → List Int → Int → Int → Option (List Int)
 | 0, _, _, _, _, _, _, _, _, _, _, _, _, _ => none
 | k + 1, x2, x7, x11, x12, x13, x282000, x282001, x282002, x282003, x282004, x282005, x282006, x282007 => if x13 < x12 then (if 0 ≤ x13 then (if x13 < (x11.length : Int) then ((impl_MayHave.f k x282000 x282001 x282002 x282003 x282004 x282005 x282006 x282007 (rd_L4 x11 x13) x2).bind fun t286 => (if t286 = true then (if x7.length < 17592186044416 then (impl_AskHouses.l0 k x2 (x7 ++ [x13]) x11 x12 (wrap64 (x13 + 1)) x282000 x282001 x282002 x282003 x282004 x282005 x282006 x282007) else (none)) else (impl_AskHouses.l0 k x2 x7 x11 x12 (wrap64 (x13 + 1)) x282000 x282001 x282002 x282003 x282004 x282005 x282006 x282007))) else (none)) else (none)) else (some x7)
def impl_AskHouses.f (k : Nat) (a0_0 : Int) (a0_1 : Int) (l0_2 : List Int) (a0_3 : Int) (a0_4 : Int) (l0_5 : List Int) (a0_6 : Int) (a0_7 : Int) (l1 : List (List Int)) (a2 : Int) : Option (List Int) := impl_AskHouses.l0 k a2 (([] : List Int)) l1 (l1.length : Int) 0 a0_0 a0_1 l0_2 a0_3 a0_4 l0_5 a0_6 a0_7
theorem impl_AskHouses.calls (k : Nat) (a0_0 : Int) (a0_1 : Int) (A0_2 : Option Addr) (c0_2 : Nat) (l0_2 : List Int) (a0_3 : Int) (a0_4 : Int) (A0_5 : Option Addr) (c0_5 : Nat) (l0_5 : List Int) (a0_6 : Int) (a0_7 : Int) (A1 : Option Addr) (c1 : Nat) (l1 : List (List Int)) (a2 : Int) (r : List Int) (w : World) (hr0_2 : Kd.C (Kd.int .i64) w A0_2 l0_2.length l0_2) (hc0_2 : l0_2.length ≤ c0_2) (hr0_5 : Kd.C (Kd.int .i64) w A0_5 l0_5.length l0_5) (hc0_5 : l0_5.length ≤ c0_5) (hr1 : Kd.C (Kd.slice 3 (Kd.int .i64)) w A1 l1.length l1) (hc1 : l1.length ≤ c1) (h : impl_AskHouses.f k a0_0 a0_1 l0_2 a0_3 a0_4 l0_5 a0_6 a0_7 l1 a2 = some r) :
  Calls Try.prog 44 #[.agg #[.int .i64 a0_0, .int .i64 a0_1, .slice A0_2 l0_2.length c0_2, .int .i64 a0_3, .int .i64 a0_4, .slice A0_5 l0_5.length c0_5, .int .i64 a0_6, .int .i64 a0_7], .slice A1 l1.length c1, .int .i64 a2] w fun e w' => ∃ v0_ : Value, e = .returned (v0_) ∧ Kd.R (Kd.int .i64) 3 w' w.heap.size (fun _ => True) v0_ r ∧ Below w.heap.size w w' := by
 have hu41 := Try.underlying41
 have HR0_2 := zK hr0_2
 have HC0_2 := zK hc0_2
 clear hr0_2 hc0_2
 have HR0_5 := zK hr0_5
 have HC0_5 := zK hc0_5
 clear hr0_5 hc0_5
 have HR1 := zK hr1
 have HC1 := zK hc1
 clear hr1 hc1
 have HB := zK (Below.refl w.heap.size w)
 have H : (impl_AskHouses.l0 k a2 (([] : List Int)) l1 (l1.length : Int) 0 a0_0 a0_1 l0_2 a0_3 a0_4 l0_5 a0_6 a0_7) = some r := h
 clear h
 obtain ⟨y282, hy282⟩ : ∃ y_ : List Int, y_ = (([] : List Int)) := ⟨_, rfl⟩
 replace H : (impl_AskHouses.l0 k a2 y282 l1 (l1.length : Int) 0 a0_0 a0_1 l0_2 a0_3 a0_4 l0_5 a0_6 a0_7) = some r := have he_ := hy282; rH
 have Ny282 := zK hy282
 clear hy282
 have H' := zK H
 clear H
 go_enter Try.func44, Try.ntmps44
 go_wp2_with (first | ((with_reducible refine gd (N := 3) rfl ?_); refine bE (N := 3) (cs := #[.int .i64 a0_0, .int .i64 a0_1, .slice A0_2 l0_2.length c0_2, .int .i64 a0_3, .int .i64 a0_4, .slice A0_5 l0_5.length c0_5, .int .i64 a0_6, .int .i64 a0_7]) (t := 41) ?_; intro gb281 hg w4 hbox hb; have _ := zK (bT (qB HB.o) hb); have _ := zK (hbox); have _ := zK ((by rw [hg]; exact (bZ (qB HB.o)) : w.heap.size ≤ gb281)); have _ := zK ((by rw [hg]; exact (bZ (qB HB.o)) : w.heap.size ≤ gb281)); clear HB; rename_i HB BK281 GW281 GE281; clear hb hbox hg) | ((with_reducible refine gd (N := 10) rfl ?_); refine Kd.R_lit (Kd.int .i64) _ 3 ?hg (N := 10) ?hd (xs := ([] : List Int)) (inner := []) (ok := fun _ => True) (okp := fun _ => True) ?hr ?hp (fun _ hk => hk) trivial (Below.refl _ _) (Nat.le_refl _) (by simp) ?_; (case hd => rfl); (case hg => rfl); (case hr => first | (go_simp; done) | (go_simp; rfl)); (case hp => exact (Reps.none _ _)); intro v283 w5 ho6 hb hg_ hnew_; clear hg_ hnew_; (first | rw [← Ny282.o] at ho6 | (simp only [Int.reduceToNat] at ho6; rw [← Ny282.o] at ho6)); have _ := zK (Kd.R_lower ho6 (bZ M11)); have _ := zK (bB (qK BK281.o) hb); have _ := zK (bT M11 hb); clear BK281 HB; rename_i HO284 BK281 HB; clear hb ho6))
 go_loopg [7, 13] k (fun kq v7 v13 w' => ∃ (x7_1 : List Int) (x13_1 : Int), v13 = .int .i64 x13_1 ∧ Aside0 (impl_AskHouses.l0 kq a2 x7_1 l1 (l1.length : Int) x13_1 a0_0 a0_1 l0_2 a0_3 a0_4 l0_5 a0_6 a0_7 = some r) ∧ Aside0 (kq ≤ k) ∧ Aside0 (Kd.R (Kd.int .i64) 3 w' w.heap.size (fun _ => True) v7 x7_1) ∧ Aside0 (w'.heap[gb281]? = some (.cells #[.int .i64 a0_0, .int .i64 a0_1, (.slice A0_2 l0_2.length c0_2), .int .i64 a0_3, .int .i64 a0_4, (.slice A0_5 l0_5.length c0_5), .int .i64 a0_6, .int .i64 a0_7] 41 (0, 0))) ∧ Aside0 (Below w.heap.size w w'))
 case atStart => exact ⟨(y282), (0), M12, H', ⟨Nat.le_refl _⟩, ⟨by exact Kd.qR HO284.o⟩, ⟨by exact qK BK281.o⟩, ⟨o3⟩⟩
 case round =>
  clear H'
  try clear c1
  try clear p2
  try clear c4
  obtain ⟨x7_1, x13_1, rfl, HA, HK1, HO_7, BK281, HB⟩ := hrel
  cases gk with
  | zero => exact absurd HA.o (by simp [impl_AskHouses.l0])
  | succ k1 =>
   have H := HA.o
   clear HA
   simp only [impl_AskHouses.l0] at H
   by_cases c7 : x13_1 < (l1.length : Int)
   rotate_left
   ·rw [if_neg c7] at H
    have c7b0 : decide (x13_1 < (l1.length : Int)) = false := decide_eq_false c7
    clear c7
    obtain rfl := Option.some.inj H
    go_wp2
    go_ret
    exact ⟨_, o0, by exact Kd.qR HO_7.o, o3⟩

   rw [if_pos c7] at H
   have c7b0 : decide (x13_1 < (l1.length : Int)) = true := decide_eq_true c7
   clear c7
   by_cases c8 : 0 ≤ x13_1
   rotate_left
   ·rw [if_neg c8] at H
    exact absurd H (by simp)
   rw [if_pos c8] at H
   have c8b0 : decide (0 ≤ x13_1) = true := decide_eq_true c8
   clear c8
   by_cases c9 : x13_1 < (l1.length : Int)
   rotate_left
   ·rw [if_neg c9] at H
    exact absurd H (by simp)
   rw [if_pos c9] at H
   have c9b0 : decide (x13_1 < (l1.length : Int)) = true := decide_eq_true c9
   clear c9
   replace H := Option.bind_eq_some_iff.mp H
   obtain ⟨t286, A100, H⟩ := H
   try dsimp only at H
   have A10 := zK A100
   clear A100
   by_cases c11 : t286 = true
   rotate_left
   ·replace c11 := Bool.eq_false_iff.mpr c11
    subst c11
    have H1 : (impl_AskHouses.l0 k1 a2 x7_1 l1 (l1.length : Int) (wrap64 (x13_1 + 1)) a0_0 a0_1 l0_2 a0_3 a0_4 l0_5 a0_6 a0_7) = some r := by rw [if_neg (show ¬ (false = true) by decide)] at H; exact H
    clear H
    have H := H1
    clear H1
    have H' := zK H
    clear H
    have p285 : 0 ≤ (x13_1 : Int) := oD M4
    have q285 : x13_1 < (l1.length : Int) := oD M4
    obtain ⟨ad285, A285_0, c285_0, e285, hx285_0, hl285_0, hi285_0⟩ := at_L4 HR1.o x13_1 p285 q285
    cases e285
    replace hx285_0 := cB HB.o hx285_0
    have HR285_0 := zK hi285_0
    have HC285_0 := zK hl285_0
    clear hi285_0 hl285_0
    replace p285 := eq_true p285
    replace q285 := eq_true q285
    obtain ⟨hcz16_0, hcz16_1, hcz16_2, hcz16_3, hcz16_4, hcz16_5, hcz16_6, hcz16_7, hfz16_0, hfz16_1, hfz16_2, hfz16_3, hfz16_4, hfz16_5, hfz16_6, hfz16_7⟩ := bx8 BK281.o
    go_wp2_with (first | ((with_reducible refine gc (f := 29) rfl ?_); refine goesL_ (some 21) rfl rfl Try.func29 (by kernel_rfl) rfl #[.agg #[.int .i64 a0_0, .int .i64 a0_1, .slice A0_2 l0_2.length c0_2, .int .i64 a0_3, .int .i64 a0_4, .slice A0_5 l0_5.length c0_5, .int .i64 a0_6, .int .i64 a0_7], .slice A285_0 (rd_L4 l1 x13_1).length c285_0, .int .i64 a2] rfl M0 ?_; (with_reducible refine (impl_MayHave.calls k1 a0_0 a0_1 _ _ l0_2 a0_3 a0_4 _ _ l0_5 a0_6 a0_7 _ _ (rd_L4 l1 x13_1) a2 false _ ?side1 ?side2 ?side3 ?side4 ?side5 ?side6 A10.o).mono ?_); (case side1 => exact Kd.qC (Kd.C_below HR0_2.o HB.o)); (case side2 => exact HC0_2.o); (case side3 => exact Kd.qC (Kd.C_below HR0_5.o HB.o)); (case side4 => exact HC0_5.o); (case side5 => exact Kd.qC (Kd.C_below HR285_0.o HB.o)); (case side6 => exact HC285_0.o); rintro e w17 ⟨rfl, hb⟩; refine ⟨_, rfl, ?_⟩; have _ := zK (Kd.R_below (Kd.qR HO_7.o) hb); have _ := zK (bB (qK BK281.o) hb); have _ := zK (bT M11 hb); clear HO_7 BK281 HB; rename_i HO_7 BK281 HB; clear hb))
    go_roundg k1
    case measure => have := HK1.o; omega
    case rel => exact ⟨(x7_1), (wrap64 (x13_1 + 1)), M12, H', ⟨o6⟩, ⟨by exact Kd.qR HO_7.o⟩, ⟨by exact qK BK281.o⟩, ⟨o3⟩⟩
   subst c11
   have H1 : (if x7_1.length < 17592186044416 then (impl_AskHouses.l0 k1 a2 (x7_1 ++ [x13_1]) l1 (l1.length : Int) (wrap64 (x13_1 + 1)) a0_0 a0_1 l0_2 a0_3 a0_4 l0_5 a0_6 a0_7) else (none)) = some r := by rw [if_pos rfl] at H; exact H
   clear H
   have H := H1
   clear H1
   by_cases c12 : x7_1.length < 17592186044416
   rotate_left
   ·rw [if_neg c12] at H
    exact absurd H (by simp)
   rw [if_pos c12] at H
   have LMc12 := zK c12
   clear c12
   obtain ⟨y287, hy287⟩ : ∃ y_ : List Int, y_ = (x7_1 ++ [x13_1]) := ⟨_, rfl⟩
   replace H : (impl_AskHouses.l0 k1 a2 y287 l1 (l1.length : Int) (wrap64 (x13_1 + 1)) a0_0 a0_1 l0_2 a0_3 a0_4 l0_5 a0_6 a0_7) = some r := have he_ := hy287; rH
   have Ny287 := zK hy287
   clear hy287
   have H' := zK H
   clear H
   have p285 : 0 ≤ (x13_1 : Int) := oD M4
   have q285 : x13_1 < (l1.length : Int) := oD M4
   obtain ⟨ad285, A285_0, c285_0, e285, hx285_0, hl285_0, hi285_0⟩ := at_L4 HR1.o x13_1 p285 q285
   cases e285
   replace hx285_0 := cB HB.o hx285_0
   have HR285_0 := zK hi285_0
   have HC285_0 := zK hl285_0
   clear hi285_0 hl285_0
   replace p285 := eq_true p285
   replace q285 := eq_true q285
   obtain ⟨hcz13_0, hcz13_1, hcz13_2, hcz13_3, hcz13_4, hcz13_5, hcz13_6, hcz13_7, hfz13_0, hfz13_1, hfz13_2, hfz13_3, hfz13_4, hfz13_5, hfz13_6, hfz13_7⟩ := bx8 BK281.o
   go_wp2_with (first | ((with_reducible refine gc (f := 29) rfl ?_); refine goesL_ (some 21) rfl rfl Try.func29 (by kernel_rfl) rfl #[.agg #[.int .i64 a0_0, .int .i64 a0_1, .slice A0_2 l0_2.length c0_2, .int .i64 a0_3, .int .i64 a0_4, .slice A0_5 l0_5.length c0_5, .int .i64 a0_6, .int .i64 a0_7], .slice A285_0 (rd_L4 l1 x13_1).length c285_0, .int .i64 a2] rfl M0 ?_; (with_reducible refine (impl_MayHave.calls k1 a0_0 a0_1 _ _ l0_2 a0_3 a0_4 _ _ l0_5 a0_6 a0_7 _ _ (rd_L4 l1 x13_1) a2 true _ ?side1 ?side2 ?side3 ?side4 ?side5 ?side6 A10.o).mono ?_); (case side1 => exact Kd.qC (Kd.C_below HR0_2.o HB.o)); (case side2 => exact HC0_2.o); (case side3 => exact Kd.qC (Kd.C_below HR0_5.o HB.o)); (case side4 => exact HC0_5.o); (case side5 => exact Kd.qC (Kd.C_below HR285_0.o HB.o)); (case side6 => exact HC285_0.o); rintro e w14 ⟨rfl, hb⟩; refine ⟨_, rfl, ?_⟩; have _ := zK (Kd.R_below (Kd.qR HO_7.o) hb); have _ := zK (bB (qK BK281.o) hb); have _ := zK (bT M11 hb); clear HO_7 BK281 HB; rename_i HO_7 BK281 HB; clear hb) | ((with_reducible refine gate_builtin (b := .append) (xs := #[.tmp 22, .tmp 24]) rfl ?_); at_builtin; refine Kd.R_append (Kd.int .i64) (w0 := w) w.heap.size rfl (.tmp 22) (.tmp 24) 24 3 (.int .i64 0) 8 rfl Try.underlying24 info3 rfl (by decide) (by omega) u7 x7_1 x13_1 [.int .i64 x13_1] (fun _ => True) (fun _ => False) rfl rfl ?aP (fun _ hk => hk.elim) ?aF ?aO ?aB ?aS ?aL ?_; (case aP => exact rfl); (case aB => exact M11); (case aF => exact (fun _ _ => trivial)); (case aO => exact (Kd.qR HO_7.o)); (case aS => exact (bZ M11)); (case aL => have := LMc12.o; omega); intro v288 w15 ho hb hg hat; rw [← Ny287.o] at ho; have _ := zK (blk_grown (qK BK281.o) hg (Kd.R_ne HO_7.o BK281.o (by decide))); have _ := zK (hb); have _ := zK (ho); clear BK281 HB HO_7; rename_i BK281 HB HO289; clear ho hb hg hat))
   go_roundg k1
   case measure => have := HK1.o; omega
   case rel => exact ⟨(y287), (wrap64 (x13_1 + 1)), M12, H', ⟨o6⟩, ⟨by exact Kd.qR HO289.o⟩, ⟨by exact qK BK281.o⟩, ⟨o3⟩⟩
/-- A state of type 173 at block g of W; what its slices lead to came in by w0. -/
def IsS173 (w0 W : World) (g : Nat) (f0 : List Int) (f1 : Int) (f2 : Int) : Prop := ∃ A0 c0, W.heap[g]? = some (.cells #[.slice A0 f0.length c0, .int .i64 f1, .int .i64 f2] 173 (0, 0)) ∧ w0.heap.size ≤ g ∧ Kd.C (Kd.int .u8) w0 A0 f0.length f0
theorem IsS173.grown {w0 W : World} {g : Nat} {f0 : List Int} {f1 : Int} {f2 : Int} {W1 : World} {row : Option Nat} (h : IsS173 w0 W g f0 f1 f2) (hw : W.grownBy W1 row) (hne : some g ≠ row) : IsS173 w0 W1 g f0 f1 f2 := by
 obtain ⟨A0, c0, hb, hg, hr0⟩ := h
 exact ⟨A0, c0, blk_grown hb hw hne, hg, hr0⟩
theorem IsS173.own_neN {w0 W : World} {g : Nat} {f0 : List Int} {f1 : Int} {f2 : Int} {α : Type} {d : Kd α} {e : Nat} {base : Nat} {ok : Nat → Prop} {v : Value} {xs : List α} (h : IsS173 w0 W g f0 f1 f2) (ho : Kd.N d e W base ok v xs) (ht : e ≠ 173) : some g ≠ v.ownBlock := by
 obtain ⟨A0, c0, hb, hg, hr0⟩ := h
 exact Kd.N_ne ho hb ht
theorem IsS173.fresh {w0 W : World} {g : Nat} {f0 : List Int} {f1 : Int} {f2 : Int} (h : IsS173 w0 W g f0 f1 f2) : ∀ k, W.heap.size ≤ k → k ≠ g := by
 obtain ⟨A0, c0, hb, hg, hr0⟩ := h
 exact Kd.freshB hb
theorem IsS173.kept {w0 W : World} {g : Nat} {f0 : List Int} {f1 : Int} {f2 : Int} {W1 : World} {S : Nat → Prop} (h : IsS173 w0 W g f0 f1 f2) (hk : Kept W W1 S) (hne : ¬ S g) : IsS173 w0 W1 g f0 f1 f2 := by
 obtain ⟨A0, c0, hb, hg, hr0⟩ := h
 exact ⟨A0, c0, blk_kept hb hk hne, hg, hr0⟩
theorem IsS173.below {w0 W : World} {g : Nat} {f0 : List Int} {f1 : Int} {f2 : Int} {W1 : World} (h : IsS173 w0 W g f0 f1 f2) (hw : Below W.heap.size W W1) : IsS173 w0 W1 g f0 f1 f2 := h.grown (grown_of_below hw none) (by simp)
theorem IsS173.alloc {w0 W : World} {g : Nat} {f0 : List Int} {f1 : Int} {f2 : Int} (h : IsS173 w0 W g f0 f1 f2) (o : Obj) : IsS173 w0 (W.alloc o) g f0 f1 f2 := h.below (bA (Below.refl _ _) o)
theorem IsS173.drewN {w0 W : World} {g : Nat} {f0 : List Int} {f1 : Int} {f2 : Int} (h : IsS173 w0 W g f0 f1 f2) (m : Nat) : IsS173 w0 (W.drewN m) g f0 f1 f2 := h
theorem IsS173.drew {w0 W : World} {g : Nat} {f0 : List Int} {f1 : Int} {f2 : Int} (h : IsS173 w0 W g f0 f1 f2) : IsS173 w0 W.drew g f0 f1 f2 := h
theorem IsS173.at_ {w0 W : World} {g : Nat} {f0 : List Int} {f1 : Int} {f2 : Int} {w' : World} {m : Nat} (hq : W.drewN m = w') (h : IsS173 w0 W g f0 f1 f2) : IsS173 w0 w' g f0 f1 f2 := by subst hq; exact IsS173.drewN h m
theorem IsS173.apart {w0 W : World} {g : Nat} {f0 : List Int} {f1 : Int} {f2 : Int} {α : Type} {d : Kd α} {e : Nat} {base : Nat} {ok : Nat → Prop} {v : Value} {xs : List α} (h : IsS173 w0 W g f0 f1 f2) (ho : d.R e W base ok v xs) (ht : ∀ q, q ∈ e :: d.E → q ≠ 173) : d.R e W base (fun k => ok k ∧ k ≠ g) v xs := by
 obtain ⟨A0, c0, hb, hg, hr0⟩ := h
 exact Kd.R_types ho hb ht
theorem IsS173.rK {w0 W : World} {g : Nat} {f0 : List Int} {f1 : Int} {f2 : Int} {α : Type} {d : Kd α} {e : Nat} {base : Nat} {ok : Nat → Prop} {v : Value} {xs : List α} {w w1 : World} (h : IsS173 w0 W g f0 f1 f2) (ho : d.R e w base ok v xs) (hk : KeepBut W w1 g none) (ht : ∀ q, q ∈ e :: d.E → q ≠ 173 := by decide) (s : St w W := by repeat (first | with_reducible exact St.refl | apply St.alloc | apply St.drewN | apply St.drew)) : d.R e w1 base ok v xs := Kd.R_mono (Kd.R_keep (IsS173.apart h (Kd.qR ho s) ht) hk (fun _ h => h.2)) (fun _ h => h.1)
theorem IsS173.own_ne {w0 W : World} {g : Nat} {f0 : List Int} {f1 : Int} {f2 : Int} {α : Type} {d : Kd α} {e : Nat} {base : Nat} {ok : Nat → Prop} {v : Value} {xs : List α} (h : IsS173 w0 W g f0 f1 f2) (ho : d.R e W base ok v xs) (ht : e ≠ 173) : some g ≠ v.ownBlock := by
 obtain ⟨A0, c0, hb, hg, hr0⟩ := h
 exact Kd.R_ne ho hb ht
theorem IsS173.apartQ {w0 W : World} {g : Nat} {f0 : List Int} {f1 : Int} {f2 : Int} {α : Type} {d : Kd α} {e : Nat} {base : Nat} {ok : Nat → Prop} {v : Value} {xs : List α} (h : IsS173 w0 W g f0 f1 f2) (ho : d.Q e W base ok v xs) (ht : ∀ q, q ∈ e :: d.E → q ≠ 173) : d.Q e W base (fun k => ok k ∧ k ≠ g) v xs := by
 obtain ⟨A0, c0, hb, hg, hr0⟩ := h
 exact Kd.Q_types ho hb ht
theorem IsS173.own_neQ {w0 W : World} {g : Nat} {f0 : List Int} {f1 : Int} {f2 : Int} {α : Type} {d : Kd α} {e : Nat} {base : Nat} {ok : Nat → Prop} {v : Value} {xs : List α} (h : IsS173 w0 W g f0 f1 f2) (ho : d.Q e W base ok v xs) (ht : e ≠ 173) : some g ≠ v.ownBlock := by
 obtain ⟨A0, c0, hb, hg, hr0⟩ := h
 exact Kd.Q_ne ho hb ht
theorem IsS173.apartS {w0 W : World} {g : Nat} {f0 : List Int} {f1 : Int} {f2 : Int} {α : Type} {d : Kd α} {e : Nat} {base : Nat} {ok : Nat → Prop} {v : Value} {xs : List α} (h : IsS173 w0 W g f0 f1 f2) (ho : d.S e W base ok v xs) (ht : ∀ q, q ∈ e :: d.E → q ≠ 173) : d.S e W base (fun k => ok k ∧ k ≠ g) v xs := by
 obtain ⟨A0, c0, hb, hg, hr0⟩ := h
 exact Kd.S_types ho hb ht
theorem IsS173.own_neS {w0 W : World} {g : Nat} {f0 : List Int} {f1 : Int} {f2 : Int} {α : Type} {d : Kd α} {e : Nat} {base : Nat} {ok : Nat → Prop} {v : Value} {xs : List α} (h : IsS173 w0 W g f0 f1 f2) (ho : d.S e W base ok v xs) (ht : e ≠ 173) : some g ≠ v.ownBlock := by
 obtain ⟨A0, c0, hb, hg, hr0⟩ := h
 exact Kd.S_ne ho hb ht
theorem IsS173.lt {w0 W : World} {g : Nat} {f0 : List Int} {f1 : Int} {f2 : Int} (h : IsS173 w0 W g f0 f1 f2) : g < W.heap.size := by
 obtain ⟨A0, c0, hb, hg, hr0⟩ := h
 exact blk_lt hb
theorem IsS173.ge {w0 W : World} {g : Nat} {f0 : List Int} {f1 : Int} {f2 : Int} (h : IsS173 w0 W g f0 f1 f2) : w0.heap.size ≤ g := by
 obtain ⟨A0, c0, hb, hg, hr0⟩ := h
 exact hg
theorem IsS173.ne_blk {w0 W : World} {g : Nat} {f0 : List Int} {f1 : Int} {f2 : Int} {a : Nat} {cs : Array Value} {t : TypeId} {fr : Nat × Nat} (h : IsS173 w0 W g f0 f1 f2) (hb2 : W.heap[a]? = some (.cells cs t fr)) (ht : t ≠ 173) : g ≠ a := by
 obtain ⟨A0, c0, hb, hg, hr0⟩ := h
 rintro rfl
 rw [hb] at hb2
 injection hb2 with hb2
 injection hb2 with _ ht2
 exact ht ht2.symm
theorem IsS173.far {w0 W : World} {g : Nat} {f0 : List Int} {f1 : Int} {f2 : Int} {p : Addr} (h : IsS173 w0 W g f0 f1 f2) (hne : g ≠ p.block) (u : Value) : IsS173 w0 (W.setCell p u) g f0 f1 f2 := by
 obtain ⟨A0, c0, hb, hg, hr0⟩ := h
 exact ⟨A0, c0, blk_far hb hne u, hg, hr0⟩
theorem cellS173_0 {W : World} {g : Nat} {A0 : Option Addr} {c0 : Nat} {f0 : List Int} {f1 : Int} {f2 : Int} (h : W.heap[g]? = some (.cells #[.slice A0 f0.length c0, .int .i64 f1, .int .i64 f2] 173 (0, 0))) : W.cell? ⟨g, 0, none⟩ = some (.slice A0 f0.length c0) := (bc h 0).trans rfl
theorem cellS173_1 {W : World} {g : Nat} {A0 : Option Addr} {c0 : Nat} {f0 : List Int} {f1 : Int} {f2 : Int} (h : W.heap[g]? = some (.cells #[.slice A0 f0.length c0, .int .i64 f1, .int .i64 f2] 173 (0, 0))) : W.cell? ⟨g, 1, none⟩ = some (.int .i64 f1) := (bc h 1).trans rfl
theorem IsS173.set_1 {w0 W : World} {g : Nat} {f0 : List Int} {f1 : Int} {f2 : Int} (h : IsS173 w0 W g f0 f1 f2) (x : Int) : IsS173 w0 (W.setCell ⟨g, 1, none⟩ (.int .i64 x)) g f0 x f2 := by
 obtain ⟨A0, c0, hb, hg, hr0⟩ := h
 exact ⟨A0, c0, by simpa using blk_set hb 1 (.int .i64 x), hg, hr0⟩
theorem cellS173_2 {W : World} {g : Nat} {A0 : Option Addr} {c0 : Nat} {f0 : List Int} {f1 : Int} {f2 : Int} (h : W.heap[g]? = some (.cells #[.slice A0 f0.length c0, .int .i64 f1, .int .i64 f2] 173 (0, 0))) : W.cell? ⟨g, 2, none⟩ = some (.int .i64 f2) := (bc h 2).trans rfl
theorem IsS173.set_2 {w0 W : World} {g : Nat} {f0 : List Int} {f1 : Int} {f2 : Int} (h : IsS173 w0 W g f0 f1 f2) (x : Int) : IsS173 w0 (W.setCell ⟨g, 2, none⟩ (.int .i64 x)) g f0 f1 x := by
 obtain ⟨A0, c0, hb, hg, hr0⟩ := h
 exact ⟨A0, c0, by simpa using blk_set hb 2 (.int .i64 x), hg, hr0⟩
theorem IsS173.new (w0 W : World) (A0 : Option Addr) (c0 : Nat) (f0 : List Int) (f1 : Int) (f2 : Int) (hB : Below w0.heap.size w0 W) (hr0 : Kd.C (Kd.int .u8) w0 A0 f0.length f0) : IsS173 w0 (W.alloc (.cells #[.slice A0 f0.length c0, .int .i64 f1, .int .i64 f2] 173)) W.heap.size f0 f1 f2 := ⟨A0, c0, by simpa using heap_alloc_new W _, hB.size, hr0⟩

/-! ### spec_l1New: function 97 -/
def spec_l1New.l0 : Nat → List Int → Int → Int → Option (List Int × Int × Int)
 | 0, _, _, _ => none
 | k + 1, x0, x3, x4 => if x4 < (x0.length : Int) then (if x4 < 4000 then (if 0 ≤ x4 then (spec_l1New.l0 k x0 (Go.bits .and .i64 (wrap64 ((wrap64 ((wrap64 (x3 * 137)) + (wrap64 (rd x0 x4)))) + 11)) 1073741823) (wrap64 (x4 + 1))) else (none)) else (some (x0, 0, x3))) else (some (x0, 0, x3))
def spec_l1New.f (k : Nat) (l0 : List Int) : Option (List Int × Int × Int) := spec_l1New.l0 k l0 (wrap64 (193017 + (l0.length : Int))) 0
theorem spec_l1New.calls (k : Nat) (A0 : Option Addr) (c0 : Nat) (l0 : List Int) (r1 : List Int) (r2 : Int) (r3 : Int) (w0 w : World) (hB : Below w0.heap.size w0 w) (hr0 : Kd.C (Kd.int .u8) w0 A0 l0.length l0) (hc0 : l0.length ≤ c0) (h : spec_l1New.f k l0 = some (r1, r2, r3)) :
  Calls Try.prog 97 #[.slice A0 l0.length c0] w fun e w' => ∃ g_ : Nat, e = .returned (.pointer (some ⟨g_, 0, none⟩)) ∧ IsS173 w0 w' g_ r1 r2 r3 ∧ Below w0.heap.size w0 w' ∧ Below w.heap.size w w' := by
 have hu173 := Try.underlying173
 have HR0 := zK hr0
 have HC0 := zK hc0
 clear hr0 hc0
 have HBW := zK (Below.refl w.heap.size w)
 have HW0 := zK hB.size
 have HB := zK hB
 clear hB
 have H : (spec_l1New.l0 k l0 (wrap64 (193017 + (l0.length : Int))) 0) = some (r1, r2, r3) := h
 clear h
 have H' := zK H
 clear H
 go_enter Try.func97, Try.ntmps97
 go_wp2
 go_loopg [3, 4] k (fun kq v3 v4 w' => ∃ (x3_1 : Int) (x4_1 : Int), v3 = .int .i64 x3_1 ∧ v4 = .int .i64 x4_1 ∧ Aside0 (spec_l1New.l0 kq l0 x3_1 x4_1 = some (r1, r2, r3)) ∧ Aside0 (kq ≤ k) ∧ Aside0 (Below w0.heap.size w0 w') ∧ Aside0 (Below w.heap.size w w'))
 case atStart => exact ⟨(wrap64 (193017 + (l0.length : Int))), (0), M12, M12, H', ⟨Nat.le_refl _⟩, ⟨o8⟩, ⟨by exact qB HBW.o⟩⟩
 case round =>
  clear H'
  obtain ⟨x3_1, x4_1, rfl, rfl, HA, HK1, HB, HBW⟩ := hrel
  cases gk with
  | zero => exact absurd HA.o (by simp [spec_l1New.l0])
  | succ k1 =>
   have H := HA.o
   clear HA
   simp only [spec_l1New.l0] at H
   by_cases c2 : x4_1 < (l0.length : Int)
   rotate_left
   ·rw [if_neg c2] at H
    have c2b0 : decide (x4_1 < (l0.length : Int)) = false := decide_eq_false c2
    clear c2
    simp only [Option.some.injEq, Prod.mk.injEq] at H
    obtain ⟨rfl, rfl, rfl⟩ := H
    go_wp2_with (first | ((with_reducible refine gd (N := 31) rfl ?_); refine bE (N := 31) (cs := #[.slice A0 l0.length c0, .int .i64 0, .int .i64 x3_1]) (t := 173) ?_; intro gb292 hg w6 hbox hb; have _ := zK (bT HBW.o hb); have _ := zK (bT (qB HB.o) hb); have _ := zK (hbox); have _ := zK ((by rw [hg]; exact (bZ (qB HBW.o)) : w.heap.size ≤ gb292)); have _ := zK ((Nat.le_trans HW0.o (by rw [hg]; exact (bZ (qB HBW.o)) : w.heap.size ≤ gb292) : w0.heap.size ≤ gb292)); clear HBW HB; rename_i HBW HB BK292 GW292 GE292; clear hb hbox hg))
    go_ret
    exact ⟨_, rfl, (show IsS173 w0 _ gb292 l0 0 x3_1 from ⟨_, _, by exact qK BK292.o, GE292.o, HR0.o⟩), o3, by exact qX HBW.o⟩
   rw [if_pos c2] at H
   have c2b0 : decide (x4_1 < (l0.length : Int)) = true := decide_eq_true c2
   clear c2
   by_cases c3 : x4_1 < 4000
   ·rw [if_pos c3] at H
    have c3b0 : decide (x4_1 < 4000) = true := decide_eq_true c3
    clear c3
    by_cases c4 : 0 ≤ x4_1
    rotate_left
    ·rw [if_neg c4] at H
     exact absurd H (by simp)
    rw [if_pos c4] at H
    have c4b0 : decide (0 ≤ x4_1) = true := decide_eq_true c4
    clear c4
    have H' := zK H
    clear H
    have p290 : 0 ≤ (x4_1 : Int) := oD M4
    have q290 : x4_1 < (l0.length : Int) := oD M4
    obtain ⟨ad290, e290, hx290_0⟩ := Kd.at_int HR0.o x4_1 p290 q290
    cases e290
    replace hx290_0 := pw_cell_below HB.o hx290_0
    replace p290 := eq_true p290
    replace q290 := eq_true q290
    go_wp2
    go_roundg k1
    case measure => have := HK1.o; omega
    case rel => exact ⟨(Go.bits .and .i64 (wrap64 ((wrap64 ((wrap64 (x3_1 * 137)) + (wrap64 (rd l0 x4_1)))) + 11)) 1073741823), (wrap64 (x4_1 + 1)), M12, M12, H', ⟨o6⟩, ⟨o8⟩, ⟨by exact qB HBW.o⟩⟩
   rw [if_neg c3] at H
   have c3b0 : decide (x4_1 < 4000) = false := decide_eq_false c3
   clear c3
   simp only [Option.some.injEq, Prod.mk.injEq] at H
   obtain ⟨rfl, rfl, rfl⟩ := H
   go_wp2_with (first | ((with_reducible refine gd (N := 31) rfl ?_); refine bE (N := 31) (cs := #[.slice A0 l0.length c0, .int .i64 0, .int .i64 x3_1]) (t := 173) ?_; intro gb291 hg w5 hbox hb; have _ := zK (bT HBW.o hb); have _ := zK (bT (qB HB.o) hb); have _ := zK (hbox); have _ := zK ((by rw [hg]; exact (bZ (qB HBW.o)) : w.heap.size ≤ gb291)); have _ := zK ((Nat.le_trans HW0.o (by rw [hg]; exact (bZ (qB HBW.o)) : w.heap.size ≤ gb291) : w0.heap.size ≤ gb291)); clear HBW HB; rename_i HBW HB BK291 GW291 GE291; clear hb hbox hg))
   go_ret
   exact ⟨_, rfl, (show IsS173 w0 _ gb291 l0 0 x3_1 from ⟨_, _, by exact qK BK291.o, GE291.o, HR0.o⟩), o3, by exact qX HBW.o⟩
/-! ### spec_l1Byte: function 151 -/
def spec_l1Byte.f (s0_0 : List Int) (s0_1 : Int) (s0_2 : Int) : Option (Int × Int × Int) := if s0_1 < (s0_0.length : Int) then (if 0 ≤ s0_1 then (some (Go.bits .and .i64 (wrap64 ((Go.bits .and .i64 (Go.bits .xor .i64 ((wrap64 ((wrap64 (s0_2 * 6364136223846793005)) + 1442695040888963407)) / 8589934592) ((wrap64 ((wrap64 (s0_2 * 6364136223846793005)) + 1442695040888963407)) / 140737488355328)) 255) + (wrap64 (rd s0_0 s0_1)))) 255, wrap64 (s0_1 + 1), wrap64 ((wrap64 (s0_2 * 6364136223846793005)) + 1442695040888963407))) else (none)) else (some (Go.bits .and .i64 (Go.bits .xor .i64 ((wrap64 ((wrap64 (s0_2 * 6364136223846793005)) + 1442695040888963407)) / 8589934592) ((wrap64 ((wrap64 (s0_2 * 6364136223846793005)) + 1442695040888963407)) / 140737488355328)) 255, s0_1, wrap64 ((wrap64 (s0_2 * 6364136223846793005)) + 1442695040888963407)))
theorem spec_l1Byte.calls (g : Nat) (s0_0 : List Int) (s0_1 : Int) (s0_2 : Int) (r1 : Int) (r2 : Int) (r3 : Int) (w0 w : World) (hI : IsS173 w0 w g s0_0 s0_1 s0_2) (hB : Below w0.heap.size w0 w) (h : spec_l1Byte.f s0_0 s0_1 s0_2 = some (r1, r2, r3)) :
  Calls Try.prog 151 #[.pointer (some ⟨g, 0, none⟩)] w fun e w' => e = .returned (.int .i64 r1) ∧ IsS173 w0 w' g s0_0 r2 r3 ∧ Below w0.heap.size w0 w' ∧ KeepBut w w' g none := by
 have HI0 := zK hI
 have HK := zK (KeepBut.refl w g none)
 have HL := zK hB.size
 clear hI
 have HW0 := zK hB.size
 have HB := zK hB
 clear hB
 have H : (if s0_1 < (s0_0.length : Int) then (if 0 ≤ s0_1 then (some (Go.bits .and .i64 (wrap64 ((Go.bits .and .i64 (Go.bits .xor .i64 ((wrap64 ((wrap64 (s0_2 * 6364136223846793005)) + 1442695040888963407)) / 8589934592) ((wrap64 ((wrap64 (s0_2 * 6364136223846793005)) + 1442695040888963407)) / 140737488355328)) 255) + (wrap64 (rd s0_0 s0_1)))) 255, wrap64 (s0_1 + 1), wrap64 ((wrap64 (s0_2 * 6364136223846793005)) + 1442695040888963407))) else (none)) else (some (Go.bits .and .i64 (Go.bits .xor .i64 ((wrap64 ((wrap64 (s0_2 * 6364136223846793005)) + 1442695040888963407)) / 8589934592) ((wrap64 ((wrap64 (s0_2 * 6364136223846793005)) + 1442695040888963407)) / 140737488355328)) 255, s0_1, wrap64 ((wrap64 (s0_2 * 6364136223846793005)) + 1442695040888963407)))) = some (r1, r2, r3) := h
 clear h
 by_cases c2 : s0_1 < (s0_0.length : Int)
 rotate_left
 ·rw [if_neg c2] at H
  have c2b0 : decide (s0_1 < (s0_0.length : Int)) = false := decide_eq_false c2
  clear c2
  simp only [Option.some.injEq, Prod.mk.injEq] at H
  obtain ⟨rfl, rfl, rfl⟩ := H
  obtain ⟨ASz5_0, cSz5_0, HGz5, hgz5, HSz5_0⟩ := HI0.o
  have hcz5_0 := cellS173_0 HGz5
  have hcz5_1 := cellS173_1 HGz5
  have hcz5_2 := cellS173_2 HGz5
  have hfz5_1 := bf HGz5 1
  have hfz5_2 := bf HGz5 2
  clear HGz5 hgz5
  go_enter Try.func151, Try.ntmps151
  go_wp2
  repeat (go_quiet (fail); try go_wp2)
  go_ret
  exact ⟨o0, Q0, Q10, Q9⟩
 rw [if_pos c2] at H
 have c2b0 : decide (s0_1 < (s0_0.length : Int)) = true := decide_eq_true c2
 clear c2
 by_cases c3 : 0 ≤ s0_1
 rotate_left
 ·rw [if_neg c3] at H
  exact absurd H (by simp)
 rw [if_pos c3] at H
 have c3b0 : decide (0 ≤ s0_1) = true := decide_eq_true c3
 clear c3
 simp only [Option.some.injEq, Prod.mk.injEq] at H
 obtain ⟨rfl, rfl, rfl⟩ := H
 obtain ⟨ASz4_0, cSz4_0, HGz4, hgz4, HSz4_0⟩ := HI0.o
 have hcz4_0 := cellS173_0 HGz4
 have hcz4_1 := cellS173_1 HGz4
 have hcz4_2 := cellS173_2 HGz4
 have hfz4_1 := bf HGz4 1
 have hfz4_2 := bf HGz4 2
 clear HGz4 hgz4
 have p293 : 0 ≤ (s0_1 : Int) := oD M4
 have q293 : s0_1 < (s0_0.length : Int) := oD M4
 obtain ⟨ad293, e293, hx293_0⟩ := Kd.at_int HSz4_0 s0_1 p293 q293
 cases e293
 have hn293_0 : ad293.block ≠ g := Nat.ne_of_lt (Nat.lt_of_lt_of_le (by have := World.block_lt_of_cell? _ _ hx293_0; first | rwa [add_block] at this | exact this) (IsS173.ge HI0.o))
 replace hx293_0 := pw_cell_below HB.o hx293_0
 replace hx293_0 := (cell_far (p := ⟨g, 2, none⟩) (by first | (rw [add_block]; exact hn293_0) | (show (Addr.add _ _).block ≠ _; rw [add_block]; exact hn293_0) | exact hn293_0) (.int .i64 (wrap64 ((wrap64 (s0_2 * 6364136223846793005)) + 1442695040888963407)))).trans hx293_0
 (try have hy293_0 := fun (n_ : Nat) => (show (((w.drewN n_).setCell ⟨g, 2, none⟩ (.int .i64 (wrap64 ((wrap64 (s0_2 * 6364136223846793005)) + 1442695040888963407))))).cell? _ = some _ from hx293_0))
 clear hn293_0
 replace p293 := eq_true p293
 replace q293 := eq_true q293
 go_enter Try.func151, Try.ntmps151
 go_wp2
 repeat (go_quiet (fail); try go_wp2)
 go_ret
 exact ⟨o0, Q0, Q10, Q9⟩
/-! ### spec_l1Below: function 108 -/
def spec_l1Below.f (s0_0 : List Int) (s0_1 : Int) (s0_2 : Int) (a1 : Int) : Option (Int × Int × Int) := if a1 ≤ 0 then (some (0, s0_1, s0_2)) else (if a1 ≤ 256 then ((spec_l1Byte.f s0_0 s0_1 s0_2).bind fun bt294 => (if a1 = 0 then (none) else (some (Int.tmod bt294.1 a1, bt294.2.1, bt294.2.2)))) else ((spec_l1Byte.f s0_0 s0_1 s0_2).bind fun bt297 => ((spec_l1Byte.f s0_0 bt297.2.1 bt297.2.2).bind fun bt300 => ((spec_l1Byte.f s0_0 bt300.2.1 bt300.2.2).bind fun bt303 => (if a1 = 0 then (none) else (some (Int.tmod (wrap64 ((wrap64 ((wrap64 (bt297.1 * 65536)) + (wrap64 (bt300.1 * 256)))) + bt303.1)) a1, bt303.2.1, bt303.2.2)))))))
theorem lf9_0 {p : Prop} (h : p := by
  go_enter Try.func108, Try.ntmps108
  go_wp2_with (first | ((with_reducible refine gc (f := 151) rfl ?_); refine gL (some 17) Try.func151 #[.pointer (some ⟨g, 0, none⟩)] ?_; (with_reducible refine (spec_l1Byte.calls g s0_0 s0_1 s0_2 t297 t298 t299 w0 _ ?side1 ?side2 A8.o).mono ?_); (case side1 => exact Q0); (case side2 => exact Q10); rintro e wz0 ⟨rfl, hi, hb, hk⟩; refine ⟨_, rfl, ?_⟩; have _ := zK (KeepBut.trans M1 hk (.inl rfl)); have _ := zK (hb); have _ := zK (hi); clear HK HB HI0; rename_i HK HB HI0; clear hb hk hi) | ((with_reducible refine gc (f := 151) rfl ?_); refine gL (some 19) Try.func151 #[.pointer (some ⟨g, 0, none⟩)] ?_; (with_reducible refine (spec_l1Byte.calls g s0_0 t298 t299 t300 t301 t302 w0 _ ?side1 ?side2 A9.o).mono ?_); (case side1 => exact Q0); (case side2 => exact Q10); rintro e wz1 ⟨rfl, hi, hb, hk⟩; refine ⟨_, rfl, ?_⟩; have _ := zK (KeepBut.trans M1 hk (.inl rfl)); have _ := zK (hb); have _ := zK (hi); clear HK HB HI0; rename_i HK HB HI0; clear hb hk hi) | ((with_reducible refine gc (f := 151) rfl ?_); refine gL (some 21) Try.func151 #[.pointer (some ⟨g, 0, none⟩)] ?_; (with_reducible refine (spec_l1Byte.calls g s0_0 t301 t302 t303 t304 t305 w0 _ ?side1 ?side2 A10.o).mono ?_); (case side1 => exact Q0); (case side2 => exact Q10); rintro e wz2 ⟨rfl, hi, hb, hk⟩; refine ⟨_, rfl, ?_⟩; have _ := zK (KeepBut.trans M1 hk (.inl rfl)); have _ := zK (hb); have _ := zK (hi); clear HK HB HI0; rename_i HK HB HI0; clear hb hk hi) | ((with_reducible refine gc (f := 151) rfl ?_); refine gL (some 13) Try.func151 #[.pointer (some ⟨g, 0, none⟩)] ?_; (with_reducible refine (spec_l1Byte.calls g s0_0 s0_1 s0_2 t294 t295 t296 w0 _ ?side1 ?side2 A5.o).mono ?_); (case side1 => exact Q0); (case side2 => exact Q10); rintro e wz0 ⟨rfl, hi, hb, hk⟩; refine ⟨_, rfl, ?_⟩; have _ := zK (KeepBut.trans M1 hk (.inl rfl)); have _ := zK (hb); have _ := zK (hi); clear HK HB HI0; rename_i HK HB HI0; clear hb hk hi))
  go_ret
  exact ⟨o0, Q0, Q10, Q9⟩) : p := h
theorem spec_l1Below.calls (g : Nat) (s0_0 : List Int) (s0_1 : Int) (s0_2 : Int) (a1 : Int) (r1 : Int) (r2 : Int) (r3 : Int) (w0 w : World) (hI : IsS173 w0 w g s0_0 s0_1 s0_2) (hB : Below w0.heap.size w0 w) (h : spec_l1Below.f s0_0 s0_1 s0_2 a1 = some (r1, r2, r3)) :
  Calls Try.prog 108 #[.pointer (some ⟨g, 0, none⟩), .int .i64 a1] w fun e w' => e = .returned (.int .i64 r1) ∧ IsS173 w0 w' g s0_0 r2 r3 ∧ Below w0.heap.size w0 w' ∧ KeepBut w w' g none := by
 have HI0 := zK hI
 have HK := zK (KeepBut.refl w g none)
 have HL := zK hB.size
 clear hI
 have HW0 := zK hB.size
 have HB := zK hB
 clear hB
 have H : (if a1 ≤ 0 then (some (0, s0_1, s0_2)) else (if a1 ≤ 256 then ((spec_l1Byte.f s0_0 s0_1 s0_2).bind fun bt294 => (if a1 = 0 then (none) else (some (Int.tmod bt294.1 a1, bt294.2.1, bt294.2.2)))) else ((spec_l1Byte.f s0_0 s0_1 s0_2).bind fun bt297 => ((spec_l1Byte.f s0_0 bt297.2.1 bt297.2.2).bind fun bt300 => ((spec_l1Byte.f s0_0 bt300.2.1 bt300.2.2).bind fun bt303 => (if a1 = 0 then (none) else (some (Int.tmod (wrap64 ((wrap64 ((wrap64 (bt297.1 * 65536)) + (wrap64 (bt300.1 * 256)))) + bt303.1)) a1, bt303.2.1, bt303.2.2)))))))) = some (r1, r2, r3) := h
 clear h
 by_cases c3 : a1 ≤ 0
 ·rw [if_pos c3] at H
  have c3b0 : decide (a1 ≤ 0) = true := decide_eq_true c3
  clear c3
  simp only [Option.some.injEq, Prod.mk.injEq] at H
  obtain ⟨rfl, rfl, rfl⟩ := H
  go_enter Try.func108, Try.ntmps108
  go_wp2
  go_ret
  exact ⟨o0, Q0, Q10, Q9⟩
 rw [if_neg c3] at H
 have c3b0 : decide (a1 ≤ 0) = false := decide_eq_false c3
 clear c3
 by_cases c4 : a1 ≤ 256
 ·rw [if_pos c4] at H
  have c4b0 : decide (a1 ≤ 256) = true := decide_eq_true c4
  clear c4
  replace H := Option.bind_eq_some_iff.mp H
  obtain ⟨⟨t294, t295, t296⟩, A50, H⟩ := H
  try dsimp only at H
  have A5 := zK A50
  clear A50
  by_cases c6 : a1 = 0
  ·rw [if_pos c6] at H
   exact absurd H (by simp)
  rw [if_neg c6] at H
  have c6b0 : (a1 == 0) = false := beq_eq_false_iff_ne.mpr c6
  have c6b1 : (a1 != 0) = true := bne_iff_ne.mpr c6
  simp only [Option.some.injEq, Prod.mk.injEq] at H
  obtain ⟨rfl, rfl, rfl⟩ := H
  exact lf9_0
 rw [if_neg c4] at H
 have c4b0 : decide (a1 ≤ 256) = false := decide_eq_false c4
 clear c4
 replace H := Option.bind_eq_some_iff.mp H
 obtain ⟨⟨t297, t298, t299⟩, A80, H⟩ := H
 try dsimp only at H
 have A8 := zK A80
 clear A80
 replace H := Option.bind_eq_some_iff.mp H
 obtain ⟨⟨t300, t301, t302⟩, A90, H⟩ := H
 try dsimp only at H
 have A9 := zK A90
 clear A90
 replace H := Option.bind_eq_some_iff.mp H
 obtain ⟨⟨t303, t304, t305⟩, A100, H⟩ := H
 try dsimp only at H
 have A10 := zK A100
 clear A100
 by_cases c11 : a1 = 0
 ·rw [if_pos c11] at H
  exact absurd H (by simp)
 rw [if_neg c11] at H
 have c11b0 : (a1 == 0) = false := beq_eq_false_iff_ne.mpr c11
 have c11b1 : (a1 != 0) = true := bne_iff_ne.mpr c11
 simp only [Option.some.injEq, Prod.mk.injEq] at H
 obtain ⟨rfl, rfl, rfl⟩ := H
 exact lf9_0
/-! ### spec_l4Draw: function 193 -/
def spec_l4Draw.f (s0_0 : List Int) (s0_1 : Int) (s0_2 : Int) (a1 : Int) : Option (Int × Int × Int × Int × Int × Int × Int) := (spec_l1Below.f s0_0 s0_1 s0_2 8).bind fun bt307 => ((spec_l1Below.f s0_0 bt307.2.1 bt307.2.2 8).bind fun bt310 => ((spec_l1Below.f s0_0 bt310.2.1 bt310.2.2 20).bind fun bt313 => ((spec_l1Below.f s0_0 bt313.2.1 bt313.2.2 500).bind fun bt316 => (some (a1, wrap64 (1 + bt307.1), bt310.1, wrap64 (1 + bt313.1), wrap64 (10 * bt316.1), bt316.2.1, bt316.2.2)))))
theorem spec_l4Draw.calls (g : Nat) (s0_0 : List Int) (s0_1 : Int) (s0_2 : Int) (a1 : Int) (r1 : Int) (r2 : Int) (r3 : Int) (r4 : Int) (r5 : Int) (r6 : Int) (r7 : Int) (w0 w : World) (hI : IsS173 w0 w g s0_0 s0_1 s0_2) (hB : Below w0.heap.size w0 w) (h : spec_l4Draw.f s0_0 s0_1 s0_2 a1 = some (r1, r2, r3, r4, r5, r6, r7)) :
  Calls Try.prog 193 #[.pointer (some ⟨g, 0, none⟩), .int .i64 a1] w fun e w' => e = .returned (.agg #[.int .i64 r1, .int .i64 r2, .int .i64 r3, .int .i64 r4, .int .i64 r5]) ∧ IsS173 w0 w' g s0_0 r6 r7 ∧ Below w0.heap.size w0 w' ∧ KeepBut w w' g none := by
 have hu111 := Try.underlying111
 have HI0 := zK hI
 have HK := zK (KeepBut.refl w g none)
 have HL := zK hB.size
 clear hI
 have HW0 := zK hB.size
 have HB := zK hB
 clear hB
 have H : ((spec_l1Below.f s0_0 s0_1 s0_2 8).bind fun bt307 => ((spec_l1Below.f s0_0 bt307.2.1 bt307.2.2 8).bind fun bt310 => ((spec_l1Below.f s0_0 bt310.2.1 bt310.2.2 20).bind fun bt313 => ((spec_l1Below.f s0_0 bt313.2.1 bt313.2.2 500).bind fun bt316 => (some (a1, wrap64 (1 + bt307.1), bt310.1, wrap64 (1 + bt313.1), wrap64 (10 * bt316.1), bt316.2.1, bt316.2.2)))))) = some (r1, r2, r3, r4, r5, r6, r7) := h
 clear h
 replace H := Option.bind_eq_some_iff.mp H
 obtain ⟨⟨t307, t308, t309⟩, A30, H⟩ := H
 try dsimp only at H
 have A3 := zK A30
 clear A30
 replace H := Option.bind_eq_some_iff.mp H
 obtain ⟨⟨t310, t311, t312⟩, A40, H⟩ := H
 try dsimp only at H
 have A4 := zK A40
 clear A40
 replace H := Option.bind_eq_some_iff.mp H
 obtain ⟨⟨t313, t314, t315⟩, A50, H⟩ := H
 try dsimp only at H
 have A5 := zK A50
 clear A50
 replace H := Option.bind_eq_some_iff.mp H
 obtain ⟨⟨t316, t317, t318⟩, A60, H⟩ := H
 try dsimp only at H
 have A6 := zK A60
 clear A60
 simp only [Option.some.injEq, Prod.mk.injEq] at H
 obtain ⟨rfl, rfl, rfl, rfl, rfl, rfl, rfl⟩ := H
 go_enter Try.func193, Try.ntmps193
 go_wp2_with (first | ((with_reducible refine gd (N := 4) rfl ?_); refine bE (N := 4) (cs := #[.int .i64 0, .int .i64 0, .int .i64 0, .int .i64 0, .int .i64 0]) (t := 111) ?_; intro gb306 hg w7 hbox hb; have _ := zK (IsS173.below M7 hb); have _ := zK (KeepBut.trans M1 (KeepBut.of_below hb g none) (.inl rfl)); have _ := zK (bT M13 hb); have _ := zK (hbox); have _ := zK ((by rw [hg]; exact (keep_size (w := w) (g := g) (row := none) M1) : w.heap.size ≤ gb306)); have _ := zK ((Nat.le_trans HW0.o (by rw [hg]; exact (keep_size (w := w) (g := g) (row := none) M1) : w.heap.size ≤ gb306) : w0.heap.size ≤ gb306)); have _ := zK ((by rw [hg]; exact Nat.ne_of_lt (IsS173.lt (show IsS173 w0 _ g s0_0 s0_1 s0_2 from Q0)) : g ≠ gb306)); have _ := zK ((by rw [hg]; exact Nat.ne_of_gt (IsS173.lt (show IsS173 w0 _ g s0_0 s0_1 s0_2 from Q0)) : gb306 ≠ g)); clear HI0 HK HB; rename_i HI0 HK HB BK306 GW306 GE306 NB0_306 NB306_0; clear hb hbox hg) | ((with_reducible refine gc (f := 108) rfl ?_); refine gL (some 7) Try.func108 #[.pointer (some ⟨g, 0, none⟩), .int .i64 8] ?_; (with_reducible refine (spec_l1Below.calls g s0_0 s0_1 s0_2 8 t307 t308 t309 w0 _ ?side1 ?side2 A3.o).mono ?_); (case side1 => exact J5); (case side2 => exact J6); rintro e w8 ⟨rfl, hi, hb, hk⟩; refine ⟨_, rfl, ?_⟩; have _ := zK (kB hk BK306.o NB306_0.o); have _ := zK (KeepBut.trans M78 hk (.inl rfl)); have _ := zK (hb); have _ := zK (hi); clear BK306 HK HB HI0; rename_i BK306 HK HB HI0; clear hb hk hi) | ((with_reducible refine gc (f := 108) rfl ?_); refine gL (some 10) Try.func108 #[.pointer (some ⟨g, 0, none⟩), .int .i64 8] ?_; (with_reducible refine (spec_l1Below.calls g s0_0 t308 t309 8 t310 t311 t312 w0 _ ?side1 ?side2 A4.o).mono ?_); (case side1 => exact J5); (case side2 => exact J6); rintro e w9 ⟨rfl, hi, hb, hk⟩; refine ⟨_, rfl, ?_⟩; have _ := zK (kB hk BK306.o NB306_0.o); have _ := zK (KeepBut.trans M78 hk (.inl rfl)); have _ := zK (hb); have _ := zK (hi); clear BK306 HK HB HI0; rename_i BK306 HK HB HI0; clear hb hk hi) | ((with_reducible refine gc (f := 108) rfl ?_); refine gL (some 12) Try.func108 #[.pointer (some ⟨g, 0, none⟩), .int .i64 20] ?_; (with_reducible refine (spec_l1Below.calls g s0_0 t311 t312 20 t313 t314 t315 w0 _ ?side1 ?side2 A5.o).mono ?_); (case side1 => exact J5); (case side2 => exact J6); rintro e w10 ⟨rfl, hi, hb, hk⟩; refine ⟨_, rfl, ?_⟩; have _ := zK (kB hk BK306.o NB306_0.o); have _ := zK (KeepBut.trans M78 hk (.inl rfl)); have _ := zK (hb); have _ := zK (hi); clear BK306 HK HB HI0; rename_i BK306 HK HB HI0; clear hb hk hi) | ((with_reducible refine gc (f := 108) rfl ?_); refine gL (some 15) Try.func108 #[.pointer (some ⟨g, 0, none⟩), .int .i64 500] ?_; (with_reducible refine (spec_l1Below.calls g s0_0 t314 t315 500 t316 t317 t318 w0 _ ?side1 ?side2 A6.o).mono ?_); (case side1 => exact J5); (case side2 => exact J6); rintro e w11 ⟨rfl, hi, hb, hk⟩; refine ⟨_, rfl, ?_⟩; have _ := zK (kB hk BK306.o NB306_0.o); have _ := zK (KeepBut.trans M78 hk (.inl rfl)); have _ := zK (hb); have _ := zK (hi); clear BK306 HK HB HI0; rename_i BK306 HK HB HI0; clear hb hk hi; have hnb12 := NB306_0.o; have hnc12 := NB0_306.o; obtain ⟨hcz13_0, hcz13_1, hcz13_2, hcz13_3, hcz13_4, hfz13_0, hfz13_1, hfz13_2, hfz13_3, hfz13_4⟩ := bx5 BK306.o))
 refine bodyPost_ret (results_cell_row rfl _ _ gb306 111 #[.int .i64 a1, .int .i64 (wrap64 (1 + t307)), .int .i64 t310, .int .i64 (wrap64 (1 + t313)), .int .i64 (wrap64 (10 * t316))] (0, 0) _ rfl (qP BK306.o) Try.underlying111 rfl (by kernel_rfl)) rfl ?_
 exact ⟨o0, by repeat (first | (with_reducible first | exact HI0.o | apply IsS173.alloc | apply IsS173.drewN | apply IsS173.drew | apply IsS173.set_1 | apply IsS173.set_2 | refine IsS173.far ?_ NB0_306.o _) | exact HI0.o), by repeat (first | (with_reducible first | exact HB.o | apply bA | apply bN | apply b1 | refine bS ?_ (IsS173.ge HI0.o) | refine bS ?_ GE306.o) | exact HB.o), by repeat (first | (with_reducible first | exact HK.o | apply KeepBut.set_ | apply keep_drewN | apply keep_drew | apply keep_alloc | refine keep_far ?_ GW306.o _) | exact HK.o)⟩

end Go.Proofs.Ytejhjenlodclpaa.PFnHints
