/- Walks of functions that FnHints reaches, shortened. -/
import Derived.Test.YtejhjenlodclpaaPFnHintsx0
namespace Go.Proofs.Ytejhjenlodclpaa.PFnHints
open Go.RowKit Go.Proofs.YtejhjenlodclpaaW.PrintWords Go.Proofs.YtejhjenlodclpaaW.PrintLast Go.Proofs.YtejhjenlodclpaaW.PrintMore
attribute [local go_sem] max2_int min2_int max_two min_two max_three min_three max_four min_four
set_option linter.unusedVariables false
set_option linter.unusedSimpArgs false

abbrev b6A0 : Array Bool := #[O, O, O, O, O, O, O, O, O, O, O, O, O]
abbrev b6A1 : Array Bool := #[O, I, O, O, O, O, O, O, O, O, O, O, O]
abbrev b6A2 : Array Bool := #[O, I, I, O, O, O, O, O, O, O, O, O, O]
abbrev b6A3 : Array Bool := #[O, I, I, I, O, O, O, O, O, O, O, O, O]
abbrev b6A4 : Array Bool := #[O, I, I, I, O, I, O, O, O, O, O, O, O]
abbrev b6A5 : Array Bool := #[O, I, I, I, O, I, O, O, I, O, O, O, O]
abbrev b6A6 : Array Bool := #[O, I, I, I, O, I, O, O, I, I, O, O, O]
abbrev b6A7 : Array Bool := #[O, I, I, I, O, I, O, O, I, I, I, O, O]
abbrev b6A8 : Array Bool := #[I, I, I, I, I, I, I, O, I, I, I, O, O]
abbrev b6A9 : Array Bool := #[I, I, I, I, O, I, O, O, I, I, I, O, O]
abbrev b6A10 : Array Bool := #[O, I, I, I, O, I, I, O, I, I, I, O, O]
abbrev b6A11 : Array Bool := #[I, I, I, I, I, I, O, O, I, I, I, O, O]
abbrev b6A12 : Array Bool := #[I, I, I, I, O, I, I, O, I, I, I, O, O]
abbrev b6A13 : Array Bool := #[I, I, I, I, I, I, I, I, I, I, I, O, O]
abbrev b6A14 : Array Bool := #[I, I, I, I, I, I, I, I, I, I, I, I, O]
abbrev b6A15 : Array Bool := #[I, I, I, I, I, I, I, I, I, I, I, I, I]
/-! ### spec_l9Put: function 83 -/
def spec_l9Put.l0 : Nat → List Int → Int → Int → Option (List Int)
 | 0, _, _, _ => none
 | k + 1, x0, x1, x5 => if x5 < (x0.length : Int) then (if 0 ≤ x5 then (if (rd x0 x5) < x1 then (spec_l9Put.l0 k x0 x1 (wrap64 (x5 + 1))) else (if (rd x0 x5) = x1 then ((some (([] : List Int) : List Int)).bind fun y186 => (if y186.length + x0.length < 17592186044416 then (some (y186 ++ x0)) else (none))) else ((some (([] : List Int) : List Int)).bind fun y192 => (if x5 ≤ (x0.length : Int) then (if y192.length + (x0.take (x5 : Int).toNat).length < 17592186044416 then ((some (y192 ++ (x0.take (x5 : Int).toNat) : List Int)).bind fun y196 => ((some (([x1] : List Int) : List Int)).bind fun y199 => (if y196.length + y199.length < 17592186044416 then ((some (y196 ++ y199 : List Int)).bind fun y202 => (if y202.length + (x0.drop (x5 : Int).toNat).length < 17592186044416 then (some (y202 ++ (x0.drop (x5 : Int).toNat))) else (none))) else (none)))) else (none)) else (none))))) else (none)) else ((some (([] : List Int) : List Int)).bind fun y209 => (if 0 ≤ x5 then (if x5 ≤ (x0.length : Int) then (if y209.length + (x0.take (x5 : Int).toNat).length < 17592186044416 then ((some (y209 ++ (x0.take (x5 : Int).toNat) : List Int)).bind fun y213 => ((some (([x1] : List Int) : List Int)).bind fun y216 => (if y213.length + y216.length < 17592186044416 then ((some (y213 ++ y216 : List Int)).bind fun y219 => (if y219.length + (x0.drop (x5 : Int).toNat).length < 17592186044416 then (some (y219 ++ (x0.drop (x5 : Int).toNat))) else (none))) else (none)))) else (none)) else (none)) else (none)))
def spec_l9Put.f (k : Nat) (l0 : List Int) (a1 : Int) : Option (List Int) := spec_l9Put.l0 k l0 a1 0
def spec_l9Put.T6 : Bool × List (List Nat × List Nat) := (true, [([], []), ([], []), ([], []), ([1, 2], [1, 2]), ([0, 3], [0, 3]), ([], []), ([5], [5]), ([4, 6, 4], [4, 6]), ([], []), ([], []), ([8, 9], [8, 9]), ([7, 10, 7], [7, 10]), ([11, 11, 0, 1, 2, 3, 4, 5, 6, 7, 8, 9, 10, 11], [11])])
def spec_l9Put.B6 : List Nat := [0, 0, 0, 6, 15, 0, 32, 127, 0, 0, 768, 2047, 4095]
theorem spec_l9Put.tab6 : rtab .any (opsOf Try.f83 6) = spec_l9Put.T6 := by kernel_rfl
theorem spec_l9Put.bits6 : waitsOk spec_l9Put.T6.2 spec_l9Put.B6 = true := by kernel_rfl
set_option maxHeartbeats 8000000 in
set_option maxRecDepth 100000 in
theorem spec_l9Put.calls (k : Nat) (A0 : Option Addr) (c0 : Nat) (l0 : List Int) (a1 : Int) (r : List Int) (w : World) (hr0 : Kd.C (Kd.int .i64) w A0 l0.length l0) (hc0 : l0.length ≤ c0) (h : spec_l9Put.f k l0 a1 = some r) :
  Calls Try.prog 83 #[.slice A0 l0.length c0, .int .i64 a1] w fun e w' => ∃ v0_ : Value, e = .returned (v0_) ∧ Kd.R (Kd.int .i64) 3 w' w.heap.size (fun _ => True) v0_ r ∧ Below w.heap.size w w' := by
 have HR0 := zK hr0
 have HC0 := zK hc0
 clear hr0 hc0
 have HB := zK (Below.refl w.heap.size w)
 have H : (spec_l9Put.l0 k l0 a1 0) = some r := h
 clear h
 have H' := zK H
 clear H
 go_enter Try.func83, Try.ntmps83
 go_wp2
 go_loopg [5] k (fun kq v5 w' => ∃ (x5_1 : Int), v5 = .int .i64 x5_1 ∧ Aside0 (spec_l9Put.l0 kq l0 a1 x5_1 = some r) ∧ Aside0 (kq ≤ k) ∧ Aside0 (Below w.heap.size w w'))
 case atStart => exact ⟨(0), M12, H', ⟨Nat.le_refl _⟩, ⟨o8⟩⟩
 case round =>
  clear H'
  try clear p2
  obtain ⟨x5_1, rfl, HA, HK1, HB⟩ := hrel
  cases gk with
  | zero => exact absurd HA.o (by simp [spec_l9Put.l0])
  | succ k1 =>
   have H := HA.o
   clear HA
   simp only [spec_l9Put.l0] at H
   by_cases c3 : x5_1 < (l0.length : Int)
   rotate_left
   ·rw [if_neg c3] at H
    have c3b0 : decide (x5_1 < (l0.length : Int)) = false := decide_eq_false c3
    clear c3
    obtain ⟨y209, hy209⟩ : ∃ y_ : List Int, y_ = (([] : List Int)) := ⟨_, rfl⟩
    replace H : (if 0 ≤ x5_1 then (if x5_1 ≤ (l0.length : Int) then (if y209.length + (l0.take (x5_1 : Int).toNat).length < 17592186044416 then ((some (y209 ++ (l0.take (x5_1 : Int).toNat) : List Int)).bind fun y213 => ((some (([a1] : List Int) : List Int)).bind fun y216 => (if y213.length + y216.length < 17592186044416 then ((some (y213 ++ y216 : List Int)).bind fun y219 => (if y219.length + (l0.drop (x5_1 : Int).toNat).length < 17592186044416 then (some (y219 ++ (l0.drop (x5_1 : Int).toNat))) else (none))) else (none)))) else (none)) else (none)) else (none)) = some r := have he_ := hy209; rH
    have Ny209 := zK hy209
    clear hy209
    by_cases c30 : 0 ≤ x5_1
    rotate_left
    ·rw [if_neg c30] at H
     exact absurd H (by simp)

    rw [if_pos c30] at H
    have c30b0 := eq_true c30
    have c30b1 : decide (0 ≤ x5_1) = true := decide_eq_true c30
    clear c30
    by_cases c31 : x5_1 ≤ (l0.length : Int)
    rotate_left
    ·rw [if_neg c31] at H
     exact absurd H (by simp)
    rw [if_pos c31] at H
    have c31b0 := eq_true c31
    have c31b1 : decide (x5_1 ≤ (l0.length : Int)) = true := decide_eq_true c31
    clear c31
    by_cases c32 : y209.length + (l0.take (x5_1 : Int).toNat).length < 17592186044416
    rotate_left
    ·rw [if_neg c32] at H
     exact absurd H (by simp)
    rw [if_pos c32] at H
    have LMc32 := zK c32
    clear c32
    obtain ⟨y213, hy213⟩ : ∃ y_ : List Int, y_ = (y209 ++ (l0.take (x5_1 : Int).toNat)) := ⟨_, rfl⟩
    replace H : ((some (([a1] : List Int) : List Int)).bind fun y216 => (if y213.length + y216.length < 17592186044416 then ((some (y213 ++ y216 : List Int)).bind fun y219 => (if y219.length + (l0.drop (x5_1 : Int).toNat).length < 17592186044416 then (some (y219 ++ (l0.drop (x5_1 : Int).toNat))) else (none))) else (none))) = some r := have he_ := hy213; rH
    have Ny213 := zK hy213
    clear hy213
    obtain ⟨y216, hy216⟩ : ∃ y_ : List Int, y_ = (([a1] : List Int)) := ⟨_, rfl⟩
    replace H : (if y213.length + y216.length < 17592186044416 then ((some (y213 ++ y216 : List Int)).bind fun y219 => (if y219.length + (l0.drop (x5_1 : Int).toNat).length < 17592186044416 then (some (y219 ++ (l0.drop (x5_1 : Int).toNat))) else (none))) else (none)) = some r := have he_ := hy216; rH
    have Ny216 := zK hy216
    clear hy216
    by_cases c33 : y213.length + y216.length < 17592186044416
    rotate_left
    ·rw [if_neg c33] at H
     exact absurd H (by simp)
    rw [if_pos c33] at H
    have LMc33 := zK c33
    clear c33
    obtain ⟨y219, hy219⟩ : ∃ y_ : List Int, y_ = (y213 ++ y216) := ⟨_, rfl⟩
    replace H : (if y219.length + (l0.drop (x5_1 : Int).toNat).length < 17592186044416 then (some (y219 ++ (l0.drop (x5_1 : Int).toNat))) else (none)) = some r := have he_ := hy219; rH
    have Ny219 := zK hy219
    clear hy219
    have c34b0 := eq_true (oD M4 : 0 ≤ x5_1)
    have c35b0 := eq_true (oD M4 : x5_1 ≤ (l0.length : Int))
    by_cases c36 : y219.length + (l0.drop (x5_1 : Int).toNat).length < 17592186044416
    rotate_left
    ·rw [if_neg c36] at H
     exact absurd H (by simp)
    rw [if_pos c36] at H
    have LMc36 := zK c36
    clear c36
    obtain ⟨y223, hy223⟩ : ∃ y_ : List Int, y_ = (y219 ++ (l0.drop (x5_1 : Int).toNat)) := ⟨_, rfl⟩
    replace H : (some y223) = some r := have he_ := hy223; rH
    have Ny223 := zK hy223
    clear hy223
    obtain rfl := Option.some.inj H
    try go_wp2
    have _ := zK (b1 HB.o)
    clear HB
    rename_i HB
    obtain ⟨i038, hi038, _, hsz38, _⟩ := info_parts info3
    obtain ⟨hcut38, hA38, hC38⟩ := print_take_of (P := Try.prog) (Value.int .i64) 0 24 3 .i64 Try.underlying24 hi038 hsz38 A0 c0 l0 x5_1 (oD M4) (oD M4) HC0.o
    have HR212 := zK (Kd.C_of_reads (h1 := fun _ => rfl) (hA38 _ (Kd.reads_of_C HR0.o)))
    have HC212 := zK hC38
    clear hA38 hC38 hi038 hsz38
    obtain ⟨i039, hi039, _, hsz39, _⟩ := info_parts info3
    obtain ⟨A39, hcut39, hA39, hC39⟩ := print_drop_of (P := Try.prog) (Value.int .i64) 0 24 3 .i64 Try.underlying24 hi039 hsz39 A0 c0 l0 x5_1 (oD M4) (oD M4) HC0.o
    have HR222 := zK (Kd.C_of_reads (h1 := fun _ => rfl) (hA39 _ (Kd.reads_of_C HR0.o)))
    have HC222 := zK hC39
    clear hA39 hC39 hi039 hsz39
    refine start_ (n := 13) (S := fun w' => True) (ds := []) b6A0 (by kernel_rfl) rfl rfl trivial (fun hHeld => ?_); refine with_tabW spec_l9Put.tab6 spec_l9Put.bits6 (fun HT_ HW_ => ?_)
    generalize wr.drew = w37 at HB HR212 HR222 hHeld ⊢
    refine pI 1 (some 36) b6A1 HT_ ?_
    refine pI 2 (some 37) b6A2 HT_ ?_
    refine pI 3 (some 38) b6A3 HT_ ?_
    refine pI 5 (some 40) b6A4 HT_ ?_
    refine pI 8 (some 43) b6A5 HT_ ?_
    refine pI 9 (some 44) b6A6 HT_ ?_
    refine pI 10 (some 45) b6A7 HT_ ?_
    refine join_ (σ := Value × Value × Value) 3 b6A8 (fun s_ => [(35, s_.1), (39, s_.2.1), (41, s_.2.2)]) (fun s_ w' => (Kd.R (Kd.int .i64) 3 w' w.heap.size (fun k_ => some k_ ≠ (s_.2.2 : Value).ownBlock) s_.2.1 y213) ∧ (Kd.R (Kd.int .i64) 3 w' w.heap.size (fun k_ => some k_ ≠ (s_.2.1 : Value).ownBlock) s_.2.2 y216) ∧ (Below w.heap.size w w')) ?_ ?_
    rotate_left
    ·intro hCont
     refine two_ (i := 0) (j := 6) (Ni := some 35) (Nj := some 41) b6A9 b6A10 rfl rfl rfl rfl (two_of HT_.o (by kernel_rfl)) (by decide) (by decide) (fun K hK => ?_) (fun K hK => ?_)
     rotate_left
     ·skip
      refine Kd.R_lit_step (Kd.int .i64) _ 3 ?hg (N := 41) ?hd (xs := ([a1] : List Int)) (inner := [.int .i64 a1]) (ok := fun _ => True) (okp := fun _ => True) ?hr ?hp (fun _ hk => hk) trivial (Below.refl _ _) (Nat.le_refl _) (by simp) ?_; (case hd => rfl); (case hg => rfl); (case hr => first | (go_simp; done) | (go_simp; rfl)); (case hp => exact (Reps.one (show Kd.M (Kd.int .i64) _ _ _ a1 [.int .i64 a1] from rfl) (Reps.none _ _)))
      intro v217 w40 ho41 hb hg_ hnew_
      clear hg_ hnew_
      (first | rw [← Ny216.o] at ho41 | (simp only [Int.reduceToNat] at ho41; rw [← Ny216.o] at ho41))
      have _ := zK (Kd.R_lower ho41 (bZ (qB HB.o)))
      have _ := zK (bT (qB HB.o) hb)
      clear HB
      rename_i HO218 HB
      clear hb ho41
      refine hK.out _ _ trivial (fun hHeld => ?_)
      clear hK K
      refine norm_ (a' := ?_) ?_ ?_
      rotate_left
      ·show Act.put _ (some 41) _ = _
       simp only [Act.put, sA, sZ, sS, i64_w, i32_w]
       rfl
      refine one_ (i := 0) (N := some 35) b6A12 rfl rfl (one_of HT_.o (by kernel_rfl)) (by decide) (fun K hK => ?_)
      refine Kd.R_lit_step (Kd.int .i64) _ 3 ?hg (N := 35) ?hd (xs := ([] : List Int)) (inner := []) (ok := fun _ => True) (okp := fun _ => True) ?hr ?hp (fun _ hk => hk) trivial (Below.refl _ _) (Nat.le_refl _) (by simp) ?_; (case hd => rfl); (case hg => rfl); (case hr => first | (go_simp; done) | (go_simp; rfl)); (case hp => exact (Reps.none _ _))
      intro v210 w42 ho43 hb hg_ hnew_
      clear hg_ hnew_
      (first | rw [← Ny209.o] at ho43 | (simp only [Int.reduceToNat] at ho43; rw [← Ny209.o] at ho43))
      have _ := zK (Kd.R_elder' (Kd.qR HO218.o) (Kd.R_base ho43) hb)
      have _ := zK (Kd.R_lower (Kd.R_new' ho43 (Kd.R_lt (Kd.qR HO218.o))) (bZ (qB HB.o)))
      have _ := zK (bT (qB HB.o) hb)
      clear HO218 HB
      rename_i HO218 HO211 HB
      clear hb ho43
      refine hK.out _ _ trivial (fun hHeld => ?_)
      clear hK K
      refine norm_ (a' := ?_) ?_ ?_
      rotate_left
      ·show Act.put _ (some 35) _ = _
       simp only [Act.put, sA, sZ, sS, i64_w, i32_w]
       rfl
      refine one_ (i := 4) (N := some 39) b6A8 rfl rfl (one_of HT_.o (by kernel_rfl)) (by decide) (fun K hK => ?_)
      refine Kd.R_append_rows_step (Kd.int .i64) (w0 := w) w.heap.size (by rfl) (.tmp 35) (.tmp 38) 24 3 (.int .i64 0) 8 rfl Try.underlying24 info3 rfl (by decide) (by omega) v210 y209 (l0.take (x5_1 : Int).toNat) _ _ _ (fun k_ => some k_ ≠ (v217 : Value).ownBlock) (fun _ => False) rfl rfl ?aO ?aR (fun _ _ h => h) (fun _ h => h.elim) ?aF ?aB ?aS ?aL ?_
      (case aR => first | ((exact Kd.qC (Kd.C_below HR212.o HB.o)); done) | (refine Eq.mp (congrArg (fun m_ => ReadsRow _ _ _ _ m_ _) (show (l0.take (x5_1 : Int).toNat).length = x5_1.toNat from (by rw [List.length_take]; have h_ : (x5_1 : Int) ≤ (l0.length : Int) := oD M4; omega))) ?_; exact Kd.qC (Kd.C_below HR212.o HB.o)))
      (case aB => exact (qB HB.o))
      (case aF => exact (fun k_ hk => Kd.fresh' (Kd.R_lt (Kd.qR HO218.o)) k_ hk))
      (case aO => exact (by (with_reducible repeat (first | apply Kd.RA | apply Kd.RN | apply Kd.RD)); exact Kd.R_mono HO211.o (fun _ hk => hk.2)))
      (case aS => exact (bZ (qB HB.o)))
      (case aL => have := LMc32.o; have hlx_ := (show (l0.take (x5_1 : Int).toNat).length = x5_1.toNat from (by rw [List.length_take]; have h_ : (x5_1 : Int) ≤ (l0.length : Int) := oD M4; omega)); omega)
      intro v214 w44 ho hb hg hat
      rw [← Ny213.o] at ho
      have _ := zK (Kd.R_after (ok := (fun _ => True)) (Kd.qR HO218.o) hg hat)
      have _ := zK (hb)
      have _ := zK (ho)
      clear HO218 HB HO211
      rename_i HO218 HB HO215
      clear ho hb hg hat
      refine hK.out _ _ trivial (fun hHeld => ?_)
      clear hK K
      refine norm_ (a' := ?_) ?_ ?_
      rotate_left
      ·show Act.put _ (some 39) _ = _
       simp only [Act.put, sA, sZ, sS, i64_w, i32_w]
       rfl
      exact norm_ (by simp only [putAll, Act.put, sA, sZ, sS]) (hCont (v210, v214, v217) _ ⟨(Kd.qR HO215.o), (by (with_reducible repeat (first | apply Kd.RA | apply Kd.RN | apply Kd.RD)); exact Kd.R_mono HO218.o (fun _ hk => hk.2)), (qB HB.o)⟩)
     skip
     refine Kd.R_lit_step (Kd.int .i64) _ 3 ?hg (N := 35) ?hd (xs := ([] : List Int)) (inner := []) (ok := fun _ => True) (okp := fun _ => True) ?hr ?hp (fun _ hk => hk) trivial (Below.refl _ _) (Nat.le_refl _) (by simp) ?_; (case hd => rfl); (case hg => rfl); (case hr => first | (go_simp; done) | (go_simp; rfl)); (case hp => exact (Reps.none _ _))
     intro v210 w40 ho41 hb hg_ hnew_
     clear hg_ hnew_
     (first | rw [← Ny209.o] at ho41 | (simp only [Int.reduceToNat] at ho41; rw [← Ny209.o] at ho41))
     have _ := zK (Kd.R_lower ho41 (bZ (qB HB.o)))
     have _ := zK (bT (qB HB.o) hb)
     clear HB
     rename_i HO211 HB
     clear hb ho41
     refine hK.out _ _ trivial (fun hHeld => ?_)
     clear hK K
     refine norm_ (a' := ?_) ?_ ?_
     rotate_left
     ·show Act.put _ (some 35) _ = _
      simp only [Act.put, sA, sZ, sS, i64_w, i32_w]
      rfl
     refine two_ (i := 4) (j := 6) (Ni := some 39) (Nj := some 41) b6A11 b6A12 rfl rfl rfl rfl (two_of HT_.o (by kernel_rfl)) (by decide) (by decide) (fun K hK => ?_) (fun K hK => ?_)
     ·skip
      refine Kd.R_append_rows_step (Kd.int .i64) (w0 := w) w.heap.size (by rfl) (.tmp 35) (.tmp 38) 24 3 (.int .i64 0) 8 rfl Try.underlying24 info3 rfl (by decide) (by omega) v210 y209 (l0.take (x5_1 : Int).toNat) _ _ _ (fun _ => True) (fun _ => False) rfl rfl ?aO ?aR (fun _ _ h => h) (fun _ h => h.elim) ?aF ?aB ?aS ?aL ?_
      (case aR => first | ((exact Kd.qC (Kd.C_below HR212.o HB.o)); done) | (refine Eq.mp (congrArg (fun m_ => ReadsRow _ _ _ _ m_ _) (show (l0.take (x5_1 : Int).toNat).length = x5_1.toNat from (by rw [List.length_take]; have h_ : (x5_1 : Int) ≤ (l0.length : Int) := oD M4; omega))) ?_; exact Kd.qC (Kd.C_below HR212.o HB.o)))
      (case aB => exact (qB HB.o))
      (case aF => exact (fun _ _ => trivial))
      (case aO => exact (Kd.qR HO211.o))
      (case aS => exact (bZ (qB HB.o)))
      (case aL => have := LMc32.o; have hlx_ := (show (l0.take (x5_1 : Int).toNat).length = x5_1.toNat from (by rw [List.length_take]; have h_ : (x5_1 : Int) ≤ (l0.length : Int) := oD M4; omega)); omega)
      intro v214 w42 ho hb hg hat
      rw [← Ny213.o] at ho
      have _ := zK (hb)
      have _ := zK (ho)
      clear HB HO211
      rename_i HB HO215
      clear ho hb hg hat
      refine hK.out _ _ trivial (fun hHeld => ?_)
      clear hK K
      refine norm_ (a' := ?_) ?_ ?_
      rotate_left
      ·show Act.put _ (some 39) _ = _
       simp only [Act.put, sA, sZ, sS, i64_w, i32_w]
       rfl
      refine one_ (i := 6) (N := some 41) b6A8 rfl rfl (one_of HT_.o (by kernel_rfl)) (by decide) (fun K hK => ?_)
      refine Kd.R_lit_step (Kd.int .i64) _ 3 ?hg (N := 41) ?hd (xs := ([a1] : List Int)) (inner := [.int .i64 a1]) (ok := fun _ => True) (okp := fun _ => True) ?hr ?hp (fun _ hk => hk) trivial (Below.refl _ _) (Nat.le_refl _) (by simp) ?_; (case hd => rfl); (case hg => rfl); (case hr => first | (go_simp; done) | (go_simp; rfl)); (case hp => exact (Reps.one (show Kd.M (Kd.int .i64) _ _ _ a1 [.int .i64 a1] from rfl) (Reps.none _ _)))
      intro v217 w43 ho44 hb hg_ hnew_
      clear hg_ hnew_
      (first | rw [← Ny216.o] at ho44 | (simp only [Int.reduceToNat] at ho44; rw [← Ny216.o] at ho44))
      have _ := zK (Kd.R_elder' (Kd.qR HO215.o) (Kd.R_base ho44) hb)
      have _ := zK (Kd.R_lower (Kd.R_new' ho44 (Kd.R_lt (Kd.qR HO215.o))) (bZ (qB HB.o)))
      have _ := zK (bT (qB HB.o) hb)
      clear HO215 HB
      rename_i HO215 HO218 HB
      clear hb ho44
      refine hK.out _ _ trivial (fun hHeld => ?_)
      clear hK K
      refine norm_ (a' := ?_) ?_ ?_
      rotate_left
      ·show Act.put _ (some 41) _ = _
       simp only [Act.put, sA, sZ, sS, i64_w, i32_w]
       rfl
      exact norm_ (by simp only [putAll, Act.put, sA, sZ, sS]) (hCont (v210, v214, v217) _ ⟨(by (with_reducible repeat (first | apply Kd.RA | apply Kd.RN | apply Kd.RD)); exact Kd.R_mono HO215.o (fun _ hk => hk.2)), (by (with_reducible repeat (first | apply Kd.RA | apply Kd.RN | apply Kd.RD)); exact Kd.R_mono HO218.o (fun _ hk => hk.2)), (qB HB.o)⟩)
     skip
     refine Kd.R_lit_step (Kd.int .i64) _ 3 ?hg (N := 41) ?hd (xs := ([a1] : List Int)) (inner := [.int .i64 a1]) (ok := fun _ => True) (okp := fun _ => True) ?hr ?hp (fun _ hk => hk) trivial (Below.refl _ _) (Nat.le_refl _) (by simp) ?_; (case hd => rfl); (case hg => rfl); (case hr => first | (go_simp; done) | (go_simp; rfl)); (case hp => exact (Reps.one (show Kd.M (Kd.int .i64) _ _ _ a1 [.int .i64 a1] from rfl) (Reps.none _ _)))
     intro v217 w42 ho43 hb hg_ hnew_
     clear hg_ hnew_
     (first | rw [← Ny216.o] at ho43 | (simp only [Int.reduceToNat] at ho43; rw [← Ny216.o] at ho43))
     have _ := zK (Kd.R_elder' (Kd.qR HO211.o) (Kd.R_base ho43) hb)
     have _ := zK (Kd.R_lower (Kd.R_new' ho43 (Kd.R_lt (Kd.qR HO211.o))) (bZ (qB HB.o)))
     have _ := zK (bT (qB HB.o) hb)
     clear HO211 HB
     rename_i HO211 HO218 HB
     clear hb ho43
     refine hK.out _ _ trivial (fun hHeld => ?_)
     clear hK K
     refine norm_ (a' := ?_) ?_ ?_
     rotate_left
     ·show Act.put _ (some 41) _ = _
      simp only [Act.put, sA, sZ, sS, i64_w, i32_w]
      rfl
     refine one_ (i := 4) (N := some 39) b6A8 rfl rfl (one_of HT_.o (by kernel_rfl)) (by decide) (fun K hK => ?_)
     refine Kd.R_append_rows_step (Kd.int .i64) (w0 := w) w.heap.size (by rfl) (.tmp 35) (.tmp 38) 24 3 (.int .i64 0) 8 rfl Try.underlying24 info3 rfl (by decide) (by omega) v210 y209 (l0.take (x5_1 : Int).toNat) _ _ _ (fun k_ => some k_ ≠ (v217 : Value).ownBlock) (fun _ => False) rfl rfl ?aO ?aR (fun _ _ h => h) (fun _ h => h.elim) ?aF ?aB ?aS ?aL ?_
     (case aR => first | ((exact Kd.qC (Kd.C_below HR212.o HB.o)); done) | (refine Eq.mp (congrArg (fun m_ => ReadsRow _ _ _ _ m_ _) (show (l0.take (x5_1 : Int).toNat).length = x5_1.toNat from (by rw [List.length_take]; have h_ : (x5_1 : Int) ≤ (l0.length : Int) := oD M4; omega))) ?_; exact Kd.qC (Kd.C_below HR212.o HB.o)))
     (case aB => exact (qB HB.o))
     (case aF => exact (fun k_ hk => Kd.fresh' (Kd.R_lt (Kd.qR HO218.o)) k_ hk))
     (case aO => exact (by (with_reducible repeat (first | apply Kd.RA | apply Kd.RN | apply Kd.RD)); exact Kd.R_mono HO211.o (fun _ hk => hk.2)))
     (case aS => exact (bZ (qB HB.o)))
     (case aL => have := LMc32.o; have hlx_ := (show (l0.take (x5_1 : Int).toNat).length = x5_1.toNat from (by rw [List.length_take]; have h_ : (x5_1 : Int) ≤ (l0.length : Int) := oD M4; omega)); omega)
     intro v214 w44 ho hb hg hat
     rw [← Ny213.o] at ho
     have _ := zK (Kd.R_after (ok := (fun _ => True)) (Kd.qR HO218.o) hg hat)
     have _ := zK (hb)
     have _ := zK (ho)
     clear HO218 HB HO211
     rename_i HO218 HB HO215
     clear ho hb hg hat
     refine hK.out _ _ trivial (fun hHeld => ?_)
     clear hK K
     refine norm_ (a' := ?_) ?_ ?_
     rotate_left
     ·show Act.put _ (some 39) _ = _
      simp only [Act.put, sA, sZ, sS, i64_w, i32_w]
      rfl
     exact norm_ (by simp only [putAll, Act.put, sA, sZ, sS]) (hCont (v210, v214, v217) _ ⟨(Kd.qR HO215.o), (by (with_reducible repeat (first | apply Kd.RA | apply Kd.RN | apply Kd.RD)); exact Kd.R_mono HO218.o (fun _ hk => hk.2)), (qB HB.o)⟩)
    rintro ⟨v210, v214, v217⟩ w45 ⟨h0_, h1_, h2_⟩
    have _ : Aside0 (Kd.R (Kd.int .i64) 3 w45 w.heap.size (fun k_ => some k_ ≠ (v217 : Value).ownBlock) v214 y213) := ⟨h0_⟩
    have _ : Aside0 (Kd.R (Kd.int .i64) 3 w45 w.heap.size (fun k_ => some k_ ≠ (v214 : Value).ownBlock) v217 y216) := ⟨h1_⟩
    have _ : Aside0 (Below w.heap.size w w45) := ⟨h2_⟩
    clear HB h0_ h1_ h2_
    rename_i HO215 HO218 HB
    have hHeld := trivial
    obtain ⟨Ao47, co47, eo47⟩ := Kd.R_slice HO218.o
    (first | subst eo47 | (injection eo47 with f1_ f2_ f3_; have f4_ := f1_.symm; have f5_ := f3_.symm; clear f1_ f2_ f3_; subst f4_; subst f5_))
    refine norm_ (a' := ?_) ?_ ?_
    rotate_left
    ·simp only [putAll, Act.put, sA, sZ, sS]
     rfl
    refine one_ (i := 7) (N := some 42) b6A13 rfl rfl (one_of HT_.o (by kernel_rfl)) (by decide) (fun K hK => ?_)
    refine Kd.R_append_rows_step (Kd.int .i64) (w0 := w) w.heap.size (by rfl) (.tmp 39) (.tmp 41) 24 3 (.int .i64 0) 8 rfl Try.underlying24 info3 rfl (by decide) (by omega) v214 y213 y216 _ _ _ (fun k_ => some k_ ≠ (.slice Ao47 y216.length co47 : Value).ownBlock) (fun _ => False) rfl rfl ?aO ?aR (fun _ _ h => h) (fun _ h => h.elim) ?aF ?aB ?aS ?aL ?_
    (case aR => exact Kd.qC (Kd.R_reads' HO218.o).2.2)
    (case aB => exact (qB HB.o))
    (case aF => exact (fun k_ hk => Kd.fresh' (Kd.R_lt (Kd.qR HO218.o)) k_ hk))
    (case aO => exact (Kd.qR HO215.o))
    (case aS => exact (bZ (qB HB.o)))
    (case aL => have := LMc33.o; omega)
    intro v220 w46 ho hb hg hat
    rw [← Ny219.o] at ho
    have _ := zK (Kd.R_after (ok := (fun _ => True)) (by (with_reducible repeat (first | apply Kd.RA | apply Kd.RN | apply Kd.RD)); exact Kd.R_mono HO218.o (fun _ hk => ⟨trivial, hk⟩)) hg hat)
    have _ := zK (hb)
    have _ := zK (ho)
    clear HO218 HB HO215
    rename_i HO218 HB HO221
    clear ho hb hg hat
    refine hK.out _ _ trivial (fun hHeld => ?_)
    clear hK K
    refine norm_ (a' := ?_) ?_ ?_
    rotate_left
    ·show Act.put _ (some 42) _ = _
     simp only [Act.put, sA, sZ, sS, i64_w, i32_w]
     rfl
    refine one_ (i := 11) (N := some 46) b6A14 rfl rfl (one_of HT_.o (by kernel_rfl)) (by decide) (fun K hK => ?_)
    refine Kd.R_append_rows_step (Kd.int .i64) (w0 := w) w.heap.size (by rfl) (.tmp 42) (.tmp 45) 24 3 (.int .i64 0) 8 rfl Try.underlying24 info3 rfl (by decide) (by omega) v220 y219 (l0.drop (x5_1 : Int).toNat) _ _ _ (fun k_ => some k_ ≠ (.slice Ao47 y216.length co47 : Value).ownBlock) (fun _ => False) rfl rfl ?aO ?aR (fun _ _ h => h) (fun _ h => h.elim) ?aF ?aB ?aS ?aL ?_
    (case aR => first | ((exact Kd.qC (Kd.C_below HR222.o HB.o)); done) | (rw [← show (l0.drop (x5_1 : Int).toNat).length = (l0.length - x5_1.toNat) from List.length_drop]; exact Kd.qC (Kd.C_below HR222.o HB.o)))
    (case aB => exact (qB HB.o))
    (case aF => exact (fun k_ hk => Kd.fresh' (Kd.R_lt (Kd.qR HO218.o)) k_ hk))
    (case aO => exact (Kd.qR HO221.o))
    (case aS => exact (bZ (qB HB.o)))
    (case aL => have := LMc36.o; have hlx_ := (show (l0.drop (x5_1 : Int).toNat).length = (l0.length - x5_1.toNat) from List.length_drop); omega)
    intro v224 w48 ho hb hg hat
    rw [← Ny223.o] at ho
    have _ := zK (Kd.R_after (ok := (fun _ => True)) (Kd.qR HO218.o) hg hat)
    have _ := zK (hb)
    have _ := zK (ho)
    clear HO218 HB HO221
    rename_i HO218 HB HO225
    clear ho hb hg hat
    refine hK.out _ _ trivial (fun hHeld => ?_)
    clear hK K
    refine norm_ (a' := ?_) ?_ ?_
    rotate_left
    ·show Act.put _ (some 46) _ = _
     simp only [Act.put, sA, sZ, sS, i64_w, i32_w]
     rfl
    refine pI 12 (some 4) b6A15 HT_ ?_
    refine done_ (done_of HT_.o (by kernel_rfl)) ?_
    try go_wp2
    go_ret
    exact ⟨_, o0, by (with_reducible repeat (first | apply Kd.RA | apply Kd.RN | apply Kd.RD)); exact Kd.R_mono HO225.o (fun _ hk => trivial), o8⟩
   rw [if_pos c3] at H
   have c3b0 : decide (x5_1 < (l0.length : Int)) = true := decide_eq_true c3
   clear c3
   by_cases c4 : 0 ≤ x5_1
   rotate_left
   ·rw [if_neg c4] at H
    exact absurd H (by simp)
   rw [if_pos c4] at H
   have c4b0 : decide (0 ≤ x5_1) = true := decide_eq_true c4
   clear c4
   by_cases c5 : (rd l0 x5_1) < a1
   ·rw [if_pos c5] at H
    have c5b0 : decide ((rd l0 x5_1) < a1) = true := decide_eq_true c5
    clear c5
    have H' := zK H
    clear H
    have p184 : 0 ≤ (x5_1 : Int) := oD M4
    have q184 : x5_1 < (l0.length : Int) := oD M4
    obtain ⟨ad184, e184, hx184_0⟩ := Kd.at_int HR0.o x5_1 p184 q184
    cases e184
    replace hx184_0 := cB HB.o hx184_0
    replace p184 := eq_true p184
    replace q184 := eq_true q184
    go_wp2
    go_roundg k1
    case measure => have := HK1.o; omega
    case rel => exact ⟨(wrap64 (x5_1 + 1)), M12, H', ⟨o6⟩, ⟨o8⟩⟩
   rw [if_neg c5] at H
   have c5b0 : decide ((rd l0 x5_1) < a1) = false := decide_eq_false c5
   clear c5
   by_cases c6 : (rd l0 x5_1) = a1
   ·rw [if_pos c6] at H
    have c6b0 : ((rd l0 x5_1) == a1) = true := beq_iff_eq.mpr c6
    have c6b1 : ((rd l0 x5_1) != a1) = false := bne_eq_false_iff_eq.mpr c6
    clear c6
    obtain ⟨y186, hy186⟩ : ∃ y_ : List Int, y_ = (([] : List Int)) := ⟨_, rfl⟩
    replace H : (if y186.length + l0.length < 17592186044416 then (some (y186 ++ l0)) else (none)) = some r := have he_ := hy186; rH
    have Ny186 := zK hy186
    clear hy186
    by_cases c7 : y186.length + l0.length < 17592186044416
    rotate_left
    ·rw [if_neg c7] at H
     exact absurd H (by simp)
    rw [if_pos c7] at H
    have LMc7 := zK c7
    clear c7
    obtain ⟨y189, hy189⟩ : ∃ y_ : List Int, y_ = (y186 ++ l0) := ⟨_, rfl⟩
    replace H : (some y189) = some r := have he_ := hy189; rH
    have Ny189 := zK hy189
    clear hy189
    obtain rfl := Option.some.inj H
    have p184 : 0 ≤ (x5_1 : Int) := oD M4
    have q184 : x5_1 < (l0.length : Int) := oD M4
    obtain ⟨ad184, e184, hx184_0⟩ := Kd.at_int HR0.o x5_1 p184 q184
    cases e184
    replace hx184_0 := cB HB.o hx184_0
    replace p184 := eq_true p184
    replace q184 := eq_true q184
    have p185 : 0 ≤ (x5_1 : Int) := oD M4
    have q185 : x5_1 < (l0.length : Int) := oD M4
    obtain ⟨ad185, e185, hx185_0⟩ := Kd.at_int HR0.o x5_1 p185 q185
    obtain rfl : ad184 = ad185 := (by injection e185)
    replace hx185_0 := cB HB.o hx185_0
    replace p185 := eq_true p185
    replace q185 := eq_true q185
    go_wp2_with (first | ((with_reducible refine gd (N := 32) rfl ?_); refine Kd.R_lit (Kd.int .i64) _ 3 ?hg (N := 32) ?hd (xs := ([] : List Int)) (inner := []) (ok := fun _ => True) (okp := fun _ => True) ?hr ?hp (fun _ hk => hk) trivial (Below.refl _ _) (Nat.le_refl _) (by simp) ?_; (case hd => rfl); (case hg => rfl); (case hr => first | (go_simp; done) | (go_simp; rfl)); (case hp => exact (Reps.none _ _)); intro v187 w8 ho9 hb hg_ hnew_; clear hg_ hnew_; (first | rw [← Ny186.o] at ho9 | (simp only [Int.reduceToNat] at ho9; rw [← Ny186.o] at ho9)); have _ := zK (Kd.R_lower ho9 (bZ (qB HB.o))); have _ := zK (bT (qB HB.o) hb); clear HB; rename_i HO188 HB; clear hb ho9) | ((with_reducible refine gate_builtin (b := .append) (xs := #[.tmp 32, .tmp 33]) rfl ?_); at_builtin; refine Kd.R_append_rows (Kd.int .i64) (w0 := w) w.heap.size rfl (.tmp 32) (.tmp 33) 24 3 (.int .i64 0) 8 rfl Try.underlying24 info3 rfl (by decide) (by omega) v187 y186 l0 _ _ _ (fun _ => True) (fun _ => False) rfl rfl ?aO ?aR (fun _ _ h => h) (fun _ h => h.elim) ?aF ?aB ?aS ?aL ?_; (case aR => exact Kd.qC (Kd.C_below HR0.o HB.o)); (case aB => exact (qB HB.o)); (case aF => exact (fun _ _ => trivial)); (case aO => exact (Kd.qR HO188.o)); (case aS => exact (bZ (qB HB.o))); (case aL => have := LMc7.o; omega); intro v190 w10 ho hb hg hat; rw [← Ny189.o] at ho; have _ := zK (hb); have _ := zK (ho); clear HB HO188; rename_i HB HO191; clear ho hb hg hat))
    go_ret
    exact ⟨_, o0, by exact Kd.qR HO191.o, o8⟩
   rw [if_neg c6] at H
   have c6b0 : ((rd l0 x5_1) == a1) = false := beq_eq_false_iff_ne.mpr c6
   have c6b1 : ((rd l0 x5_1) != a1) = true := bne_iff_ne.mpr c6
   obtain ⟨y192, hy192⟩ : ∃ y_ : List Int, y_ = (([] : List Int)) := ⟨_, rfl⟩
   replace H : (if x5_1 ≤ (l0.length : Int) then (if y192.length + (l0.take (x5_1 : Int).toNat).length < 17592186044416 then ((some (y192 ++ (l0.take (x5_1 : Int).toNat) : List Int)).bind fun y196 => ((some (([a1] : List Int) : List Int)).bind fun y199 => (if y196.length + y199.length < 17592186044416 then ((some (y196 ++ y199 : List Int)).bind fun y202 => (if y202.length + (l0.drop (x5_1 : Int).toNat).length < 17592186044416 then (some (y202 ++ (l0.drop (x5_1 : Int).toNat))) else (none))) else (none)))) else (none)) else (none)) = some r := have he_ := hy192; rH
   have Ny192 := zK hy192
   clear hy192
   have c11b0 := eq_true (oD M4 : 0 ≤ x5_1)
   by_cases c12 : x5_1 ≤ (l0.length : Int)
   rotate_left
   ·rw [if_neg c12] at H
    exact absurd H (by simp)
   rw [if_pos c12] at H
   have c12b0 := eq_true c12
   have c12b1 : decide (x5_1 ≤ (l0.length : Int)) = true := decide_eq_true c12
   clear c12
   by_cases c13 : y192.length + (l0.take (x5_1 : Int).toNat).length < 17592186044416
   rotate_left
   ·rw [if_neg c13] at H
    exact absurd H (by simp)
   rw [if_pos c13] at H
   have LMc13 := zK c13
   clear c13
   obtain ⟨y196, hy196⟩ : ∃ y_ : List Int, y_ = (y192 ++ (l0.take (x5_1 : Int).toNat)) := ⟨_, rfl⟩
   replace H : ((some (([a1] : List Int) : List Int)).bind fun y199 => (if y196.length + y199.length < 17592186044416 then ((some (y196 ++ y199 : List Int)).bind fun y202 => (if y202.length + (l0.drop (x5_1 : Int).toNat).length < 17592186044416 then (some (y202 ++ (l0.drop (x5_1 : Int).toNat))) else (none))) else (none))) = some r := have he_ := hy196; rH
   have Ny196 := zK hy196
   clear hy196
   obtain ⟨y199, hy199⟩ : ∃ y_ : List Int, y_ = (([a1] : List Int)) := ⟨_, rfl⟩
   replace H : (if y196.length + y199.length < 17592186044416 then ((some (y196 ++ y199 : List Int)).bind fun y202 => (if y202.length + (l0.drop (x5_1 : Int).toNat).length < 17592186044416 then (some (y202 ++ (l0.drop (x5_1 : Int).toNat))) else (none))) else (none)) = some r := have he_ := hy199; rH
   have Ny199 := zK hy199
   clear hy199
   by_cases c14 : y196.length + y199.length < 17592186044416
   rotate_left
   ·rw [if_neg c14] at H
    exact absurd H (by simp)
   rw [if_pos c14] at H
   have LMc14 := zK c14
   clear c14
   obtain ⟨y202, hy202⟩ : ∃ y_ : List Int, y_ = (y196 ++ y199) := ⟨_, rfl⟩
   replace H : (if y202.length + (l0.drop (x5_1 : Int).toNat).length < 17592186044416 then (some (y202 ++ (l0.drop (x5_1 : Int).toNat))) else (none)) = some r := have he_ := hy202; rH
   have Ny202 := zK hy202
   clear hy202
   have c15b0 := eq_true (oD M4 : 0 ≤ x5_1)
   have c16b0 := eq_true (oD M4 : x5_1 ≤ (l0.length : Int))
   by_cases c17 : y202.length + (l0.drop (x5_1 : Int).toNat).length < 17592186044416
   rotate_left
   ·rw [if_neg c17] at H
    exact absurd H (by simp)
   rw [if_pos c17] at H
   have LMc17 := zK c17
   clear c17
   obtain ⟨y206, hy206⟩ : ∃ y_ : List Int, y_ = (y202 ++ (l0.drop (x5_1 : Int).toNat)) := ⟨_, rfl⟩
   replace H : (some y206) = some r := have he_ := hy206; rH
   have Ny206 := zK hy206
   clear hy206
   obtain rfl := Option.some.inj H
   have p184 : 0 ≤ (x5_1 : Int) := oD M4
   have q184 : x5_1 < (l0.length : Int) := oD M4
   obtain ⟨ad184, e184, hx184_0⟩ := Kd.at_int HR0.o x5_1 p184 q184
   cases e184
   replace hx184_0 := cB HB.o hx184_0
   replace p184 := eq_true p184
   replace q184 := eq_true q184
   have p185 : 0 ≤ (x5_1 : Int) := oD M4
   have q185 : x5_1 < (l0.length : Int) := oD M4
   obtain ⟨ad185, e185, hx185_0⟩ := Kd.at_int HR0.o x5_1 p185 q185
   obtain rfl : ad184 = ad185 := (by injection e185)
   replace hx185_0 := cB HB.o hx185_0
   replace p185 := eq_true p185
   replace q185 := eq_true q185
   try go_wp2
   have _ := zK (b1 HB.o)
   clear HB
   rename_i HB
   obtain ⟨i019, hi019, _, hsz19, _⟩ := info_parts info3
   obtain ⟨hcut19, hA19, hC19⟩ := print_take_of (P := Try.prog) (Value.int .i64) 0 24 3 .i64 Try.underlying24 hi019 hsz19 (some ad184) c0 l0 x5_1 (oD M4) (oD M4) HC0.o
   have HR195 := zK (Kd.C_of_reads (h1 := fun _ => rfl) (hA19 _ (Kd.reads_of_C HR0.o)))
   have HC195 := zK hC19
   clear hA19 hC19 hi019 hsz19
   obtain ⟨i020, hi020, _, hsz20, _⟩ := info_parts info3
   obtain ⟨A20, hcut20, hA20, hC20⟩ := print_drop_of (P := Try.prog) (Value.int .i64) 0 24 3 .i64 Try.underlying24 hi020 hsz20 (some ad184) c0 l0 x5_1 (oD M4) (oD M4) HC0.o
   have HR205 := zK (Kd.C_of_reads (h1 := fun _ => rfl) (hA20 _ (Kd.reads_of_C HR0.o)))
   have HC205 := zK hC20
   clear hA20 hC20 hi020 hsz20
   refine start_ (n := 13) (S := fun w' => True) (ds := []) b6A0 (by kernel_rfl) rfl rfl trivial (fun hHeld => ?_); refine with_tabW spec_l9Put.tab6 spec_l9Put.bits6 (fun HT_ HW_ => ?_)
   generalize wr.drew = w18 at HB HR195 HR205 hHeld ⊢
   refine pI 1 (some 36) b6A1 HT_ ?_
   refine pI 2 (some 37) b6A2 HT_ ?_
   refine pI 3 (some 38) b6A3 HT_ ?_
   refine pI 5 (some 40) b6A4 HT_ ?_
   refine pI 8 (some 43) b6A5 HT_ ?_
   refine pI 9 (some 44) b6A6 HT_ ?_
   refine pI 10 (some 45) b6A7 HT_ ?_
   refine join_ (σ := Value × Value × Value) 3 b6A8 (fun s_ => [(35, s_.1), (39, s_.2.1), (41, s_.2.2)]) (fun s_ w' => (Kd.R (Kd.int .i64) 3 w' w.heap.size (fun k_ => some k_ ≠ (s_.2.2 : Value).ownBlock) s_.2.1 y196) ∧ (Kd.R (Kd.int .i64) 3 w' w.heap.size (fun k_ => some k_ ≠ (s_.2.1 : Value).ownBlock) s_.2.2 y199) ∧ (Below w.heap.size w w')) ?_ ?_
   rotate_left
   ·intro hCont
    refine two_ (i := 0) (j := 6) (Ni := some 35) (Nj := some 41) b6A9 b6A10 rfl rfl rfl rfl (two_of HT_.o (by kernel_rfl)) (by decide) (by decide) (fun K hK => ?_) (fun K hK => ?_)
    rotate_left
    ·skip
     refine Kd.R_lit_step (Kd.int .i64) _ 3 ?hg (N := 41) ?hd (xs := ([a1] : List Int)) (inner := [.int .i64 a1]) (ok := fun _ => True) (okp := fun _ => True) ?hr ?hp (fun _ hk => hk) trivial (Below.refl _ _) (Nat.le_refl _) (by simp) ?_; (case hd => rfl); (case hg => rfl); (case hr => first | (go_simp; done) | (go_simp; rfl)); (case hp => exact (Reps.one (show Kd.M (Kd.int .i64) _ _ _ a1 [.int .i64 a1] from rfl) (Reps.none _ _)))
     intro v200 w21 ho22 hb hg_ hnew_
     clear hg_ hnew_
     (first | rw [← Ny199.o] at ho22 | (simp only [Int.reduceToNat] at ho22; rw [← Ny199.o] at ho22))
     have _ := zK (Kd.R_lower ho22 (bZ (qB HB.o)))
     have _ := zK (bT (qB HB.o) hb)
     clear HB
     rename_i HO201 HB
     clear hb ho22
     refine hK.out _ _ trivial (fun hHeld => ?_)
     clear hK K
     refine norm_ (a' := ?_) ?_ ?_
     rotate_left
     ·show Act.put _ (some 41) _ = _
      simp only [Act.put, sA, sZ, sS, i64_w, i32_w]
      rfl
     refine one_ (i := 0) (N := some 35) b6A12 rfl rfl (one_of HT_.o (by kernel_rfl)) (by decide) (fun K hK => ?_)
     refine Kd.R_lit_step (Kd.int .i64) _ 3 ?hg (N := 35) ?hd (xs := ([] : List Int)) (inner := []) (ok := fun _ => True) (okp := fun _ => True) ?hr ?hp (fun _ hk => hk) trivial (Below.refl _ _) (Nat.le_refl _) (by simp) ?_; (case hd => rfl); (case hg => rfl); (case hr => first | (go_simp; done) | (go_simp; rfl)); (case hp => exact (Reps.none _ _))
     intro v193 w23 ho24 hb hg_ hnew_
     clear hg_ hnew_
     (first | rw [← Ny192.o] at ho24 | (simp only [Int.reduceToNat] at ho24; rw [← Ny192.o] at ho24))
     have _ := zK (Kd.R_elder' (Kd.qR HO201.o) (Kd.R_base ho24) hb)
     have _ := zK (Kd.R_lower (Kd.R_new' ho24 (Kd.R_lt (Kd.qR HO201.o))) (bZ (qB HB.o)))
     have _ := zK (bT (qB HB.o) hb)
     clear HO201 HB
     rename_i HO201 HO194 HB
     clear hb ho24
     refine hK.out _ _ trivial (fun hHeld => ?_)
     clear hK K
     refine norm_ (a' := ?_) ?_ ?_
     rotate_left
     ·show Act.put _ (some 35) _ = _
      simp only [Act.put, sA, sZ, sS, i64_w, i32_w]
      rfl
     refine one_ (i := 4) (N := some 39) b6A8 rfl rfl (one_of HT_.o (by kernel_rfl)) (by decide) (fun K hK => ?_)
     refine Kd.R_append_rows_step (Kd.int .i64) (w0 := w) w.heap.size (by rfl) (.tmp 35) (.tmp 38) 24 3 (.int .i64 0) 8 rfl Try.underlying24 info3 rfl (by decide) (by omega) v193 y192 (l0.take (x5_1 : Int).toNat) _ _ _ (fun k_ => some k_ ≠ (v200 : Value).ownBlock) (fun _ => False) rfl rfl ?aO ?aR (fun _ _ h => h) (fun _ h => h.elim) ?aF ?aB ?aS ?aL ?_
     (case aR => first | ((exact Kd.qC (Kd.C_below HR195.o HB.o)); done) | (refine Eq.mp (congrArg (fun m_ => ReadsRow _ _ _ _ m_ _) (show (l0.take (x5_1 : Int).toNat).length = x5_1.toNat from (by rw [List.length_take]; have h_ : (x5_1 : Int) ≤ (l0.length : Int) := oD M4; omega))) ?_; exact Kd.qC (Kd.C_below HR195.o HB.o)))
     (case aB => exact (qB HB.o))
     (case aF => exact (fun k_ hk => Kd.fresh' (Kd.R_lt (Kd.qR HO201.o)) k_ hk))
     (case aO => exact (by (with_reducible repeat (first | apply Kd.RA | apply Kd.RN | apply Kd.RD)); exact Kd.R_mono HO194.o (fun _ hk => hk.2)))
     (case aS => exact (bZ (qB HB.o)))
     (case aL => have := LMc13.o; have hlx_ := (show (l0.take (x5_1 : Int).toNat).length = x5_1.toNat from (by rw [List.length_take]; have h_ : (x5_1 : Int) ≤ (l0.length : Int) := oD M4; omega)); omega)
     intro v197 w25 ho hb hg hat
     rw [← Ny196.o] at ho
     have _ := zK (Kd.R_after (ok := (fun _ => True)) (Kd.qR HO201.o) hg hat)
     have _ := zK (hb)
     have _ := zK (ho)
     clear HO201 HB HO194
     rename_i HO201 HB HO198
     clear ho hb hg hat
     refine hK.out _ _ trivial (fun hHeld => ?_)
     clear hK K
     refine norm_ (a' := ?_) ?_ ?_
     rotate_left
     ·show Act.put _ (some 39) _ = _
      simp only [Act.put, sA, sZ, sS, i64_w, i32_w]
      rfl
     exact norm_ (by simp only [putAll, Act.put, sA, sZ, sS]) (hCont (v193, v197, v200) _ ⟨(Kd.qR HO198.o), (by (with_reducible repeat (first | apply Kd.RA | apply Kd.RN | apply Kd.RD)); exact Kd.R_mono HO201.o (fun _ hk => hk.2)), (qB HB.o)⟩)
    skip
    refine Kd.R_lit_step (Kd.int .i64) _ 3 ?hg (N := 35) ?hd (xs := ([] : List Int)) (inner := []) (ok := fun _ => True) (okp := fun _ => True) ?hr ?hp (fun _ hk => hk) trivial (Below.refl _ _) (Nat.le_refl _) (by simp) ?_; (case hd => rfl); (case hg => rfl); (case hr => first | (go_simp; done) | (go_simp; rfl)); (case hp => exact (Reps.none _ _))
    intro v193 w21 ho22 hb hg_ hnew_
    clear hg_ hnew_
    (first | rw [← Ny192.o] at ho22 | (simp only [Int.reduceToNat] at ho22; rw [← Ny192.o] at ho22))
    have _ := zK (Kd.R_lower ho22 (bZ (qB HB.o)))
    have _ := zK (bT (qB HB.o) hb)
    clear HB
    rename_i HO194 HB
    clear hb ho22
    refine hK.out _ _ trivial (fun hHeld => ?_)
    clear hK K
    refine norm_ (a' := ?_) ?_ ?_
    rotate_left
    ·show Act.put _ (some 35) _ = _
     simp only [Act.put, sA, sZ, sS, i64_w, i32_w]
     rfl
    refine two_ (i := 4) (j := 6) (Ni := some 39) (Nj := some 41) b6A11 b6A12 rfl rfl rfl rfl (two_of HT_.o (by kernel_rfl)) (by decide) (by decide) (fun K hK => ?_) (fun K hK => ?_)
    ·skip
     refine Kd.R_append_rows_step (Kd.int .i64) (w0 := w) w.heap.size (by rfl) (.tmp 35) (.tmp 38) 24 3 (.int .i64 0) 8 rfl Try.underlying24 info3 rfl (by decide) (by omega) v193 y192 (l0.take (x5_1 : Int).toNat) _ _ _ (fun _ => True) (fun _ => False) rfl rfl ?aO ?aR (fun _ _ h => h) (fun _ h => h.elim) ?aF ?aB ?aS ?aL ?_
     (case aR => first | ((exact Kd.qC (Kd.C_below HR195.o HB.o)); done) | (refine Eq.mp (congrArg (fun m_ => ReadsRow _ _ _ _ m_ _) (show (l0.take (x5_1 : Int).toNat).length = x5_1.toNat from (by rw [List.length_take]; have h_ : (x5_1 : Int) ≤ (l0.length : Int) := oD M4; omega))) ?_; exact Kd.qC (Kd.C_below HR195.o HB.o)))
     (case aB => exact (qB HB.o))
     (case aF => exact (fun _ _ => trivial))
     (case aO => exact (Kd.qR HO194.o))
     (case aS => exact (bZ (qB HB.o)))
     (case aL => have := LMc13.o; have hlx_ := (show (l0.take (x5_1 : Int).toNat).length = x5_1.toNat from (by rw [List.length_take]; have h_ : (x5_1 : Int) ≤ (l0.length : Int) := oD M4; omega)); omega)
     intro v197 w23 ho hb hg hat
     rw [← Ny196.o] at ho
     have _ := zK (hb)
     have _ := zK (ho)
     clear HB HO194
     rename_i HB HO198
     clear ho hb hg hat
     refine hK.out _ _ trivial (fun hHeld => ?_)
     clear hK K
     refine norm_ (a' := ?_) ?_ ?_
     rotate_left
     ·show Act.put _ (some 39) _ = _
      simp only [Act.put, sA, sZ, sS, i64_w, i32_w]
      rfl
     refine one_ (i := 6) (N := some 41) b6A8 rfl rfl (one_of HT_.o (by kernel_rfl)) (by decide) (fun K hK => ?_)
     refine Kd.R_lit_step (Kd.int .i64) _ 3 ?hg (N := 41) ?hd (xs := ([a1] : List Int)) (inner := [.int .i64 a1]) (ok := fun _ => True) (okp := fun _ => True) ?hr ?hp (fun _ hk => hk) trivial (Below.refl _ _) (Nat.le_refl _) (by simp) ?_; (case hd => rfl); (case hg => rfl); (case hr => first | (go_simp; done) | (go_simp; rfl)); (case hp => exact (Reps.one (show Kd.M (Kd.int .i64) _ _ _ a1 [.int .i64 a1] from rfl) (Reps.none _ _)))
     intro v200 w24 ho25 hb hg_ hnew_
     clear hg_ hnew_
     (first | rw [← Ny199.o] at ho25 | (simp only [Int.reduceToNat] at ho25; rw [← Ny199.o] at ho25))
     have _ := zK (Kd.R_elder' (Kd.qR HO198.o) (Kd.R_base ho25) hb)
     have _ := zK (Kd.R_lower (Kd.R_new' ho25 (Kd.R_lt (Kd.qR HO198.o))) (bZ (qB HB.o)))
     have _ := zK (bT (qB HB.o) hb)
     clear HO198 HB
     rename_i HO198 HO201 HB
     clear hb ho25
     refine hK.out _ _ trivial (fun hHeld => ?_)
     clear hK K
     refine norm_ (a' := ?_) ?_ ?_
     rotate_left
     ·show Act.put _ (some 41) _ = _
      simp only [Act.put, sA, sZ, sS, i64_w, i32_w]
      rfl
     exact norm_ (by simp only [putAll, Act.put, sA, sZ, sS]) (hCont (v193, v197, v200) _ ⟨(by (with_reducible repeat (first | apply Kd.RA | apply Kd.RN | apply Kd.RD)); exact Kd.R_mono HO198.o (fun _ hk => hk.2)), (by (with_reducible repeat (first | apply Kd.RA | apply Kd.RN | apply Kd.RD)); exact Kd.R_mono HO201.o (fun _ hk => hk.2)), (qB HB.o)⟩)
    skip
    refine Kd.R_lit_step (Kd.int .i64) _ 3 ?hg (N := 41) ?hd (xs := ([a1] : List Int)) (inner := [.int .i64 a1]) (ok := fun _ => True) (okp := fun _ => True) ?hr ?hp (fun _ hk => hk) trivial (Below.refl _ _) (Nat.le_refl _) (by simp) ?_; (case hd => rfl); (case hg => rfl); (case hr => first | (go_simp; done) | (go_simp; rfl)); (case hp => exact (Reps.one (show Kd.M (Kd.int .i64) _ _ _ a1 [.int .i64 a1] from rfl) (Reps.none _ _)))
    intro v200 w23 ho24 hb hg_ hnew_
    clear hg_ hnew_
    (first | rw [← Ny199.o] at ho24 | (simp only [Int.reduceToNat] at ho24; rw [← Ny199.o] at ho24))
    have _ := zK (Kd.R_elder' (Kd.qR HO194.o) (Kd.R_base ho24) hb)
    have _ := zK (Kd.R_lower (Kd.R_new' ho24 (Kd.R_lt (Kd.qR HO194.o))) (bZ (qB HB.o)))
    have _ := zK (bT (qB HB.o) hb)
    clear HO194 HB
    rename_i HO194 HO201 HB
    clear hb ho24
    refine hK.out _ _ trivial (fun hHeld => ?_)
    clear hK K
    refine norm_ (a' := ?_) ?_ ?_
    rotate_left
    ·show Act.put _ (some 41) _ = _
     simp only [Act.put, sA, sZ, sS, i64_w, i32_w]
     rfl
    refine one_ (i := 4) (N := some 39) b6A8 rfl rfl (one_of HT_.o (by kernel_rfl)) (by decide) (fun K hK => ?_)
    refine Kd.R_append_rows_step (Kd.int .i64) (w0 := w) w.heap.size (by rfl) (.tmp 35) (.tmp 38) 24 3 (.int .i64 0) 8 rfl Try.underlying24 info3 rfl (by decide) (by omega) v193 y192 (l0.take (x5_1 : Int).toNat) _ _ _ (fun k_ => some k_ ≠ (v200 : Value).ownBlock) (fun _ => False) rfl rfl ?aO ?aR (fun _ _ h => h) (fun _ h => h.elim) ?aF ?aB ?aS ?aL ?_
    (case aR => first | ((exact Kd.qC (Kd.C_below HR195.o HB.o)); done) | (refine Eq.mp (congrArg (fun m_ => ReadsRow _ _ _ _ m_ _) (show (l0.take (x5_1 : Int).toNat).length = x5_1.toNat from (by rw [List.length_take]; have h_ : (x5_1 : Int) ≤ (l0.length : Int) := oD M4; omega))) ?_; exact Kd.qC (Kd.C_below HR195.o HB.o)))
    (case aB => exact (qB HB.o))
    (case aF => exact (fun k_ hk => Kd.fresh' (Kd.R_lt (Kd.qR HO201.o)) k_ hk))
    (case aO => exact (by (with_reducible repeat (first | apply Kd.RA | apply Kd.RN | apply Kd.RD)); exact Kd.R_mono HO194.o (fun _ hk => hk.2)))
    (case aS => exact (bZ (qB HB.o)))
    (case aL => have := LMc13.o; have hlx_ := (show (l0.take (x5_1 : Int).toNat).length = x5_1.toNat from (by rw [List.length_take]; have h_ : (x5_1 : Int) ≤ (l0.length : Int) := oD M4; omega)); omega)
    intro v197 w25 ho hb hg hat
    rw [← Ny196.o] at ho
    have _ := zK (Kd.R_after (ok := (fun _ => True)) (Kd.qR HO201.o) hg hat)
    have _ := zK (hb)
    have _ := zK (ho)
    clear HO201 HB HO194
    rename_i HO201 HB HO198
    clear ho hb hg hat
    refine hK.out _ _ trivial (fun hHeld => ?_)
    clear hK K
    refine norm_ (a' := ?_) ?_ ?_
    rotate_left
    ·show Act.put _ (some 39) _ = _
     simp only [Act.put, sA, sZ, sS, i64_w, i32_w]
     rfl
    exact norm_ (by simp only [putAll, Act.put, sA, sZ, sS]) (hCont (v193, v197, v200) _ ⟨(Kd.qR HO198.o), (by (with_reducible repeat (first | apply Kd.RA | apply Kd.RN | apply Kd.RD)); exact Kd.R_mono HO201.o (fun _ hk => hk.2)), (qB HB.o)⟩)
   rintro ⟨v193, v197, v200⟩ w26 ⟨h0_, h1_, h2_⟩
   have _ : Aside0 (Kd.R (Kd.int .i64) 3 w26 w.heap.size (fun k_ => some k_ ≠ (v200 : Value).ownBlock) v197 y196) := ⟨h0_⟩
   have _ : Aside0 (Kd.R (Kd.int .i64) 3 w26 w.heap.size (fun k_ => some k_ ≠ (v197 : Value).ownBlock) v200 y199) := ⟨h1_⟩
   have _ : Aside0 (Below w.heap.size w w26) := ⟨h2_⟩
   clear HB h0_ h1_ h2_
   rename_i HO198 HO201 HB
   have hHeld := trivial
   obtain ⟨Ao28, co28, eo28⟩ := Kd.R_slice HO201.o
   (first | subst eo28 | (injection eo28 with f1_ f2_ f3_; have f4_ := f1_.symm; have f5_ := f3_.symm; clear f1_ f2_ f3_; subst f4_; subst f5_))
   refine norm_ (a' := ?_) ?_ ?_
   rotate_left
   ·simp only [putAll, Act.put, sA, sZ, sS]
    rfl
   refine one_ (i := 7) (N := some 42) b6A13 rfl rfl (one_of HT_.o (by kernel_rfl)) (by decide) (fun K hK => ?_)
   refine Kd.R_append_rows_step (Kd.int .i64) (w0 := w) w.heap.size (by rfl) (.tmp 39) (.tmp 41) 24 3 (.int .i64 0) 8 rfl Try.underlying24 info3 rfl (by decide) (by omega) v197 y196 y199 _ _ _ (fun k_ => some k_ ≠ (.slice Ao28 y199.length co28 : Value).ownBlock) (fun _ => False) rfl rfl ?aO ?aR (fun _ _ h => h) (fun _ h => h.elim) ?aF ?aB ?aS ?aL ?_
   (case aR => exact Kd.qC (Kd.R_reads' HO201.o).2.2)
   (case aB => exact (qB HB.o))
   (case aF => exact (fun k_ hk => Kd.fresh' (Kd.R_lt (Kd.qR HO201.o)) k_ hk))
   (case aO => exact (Kd.qR HO198.o))
   (case aS => exact (bZ (qB HB.o)))
   (case aL => have := LMc14.o; omega)
   intro v203 w27 ho hb hg hat
   rw [← Ny202.o] at ho
   have _ := zK (Kd.R_after (ok := (fun _ => True)) (by (with_reducible repeat (first | apply Kd.RA | apply Kd.RN | apply Kd.RD)); exact Kd.R_mono HO201.o (fun _ hk => ⟨trivial, hk⟩)) hg hat)
   have _ := zK (hb)
   have _ := zK (ho)
   clear HO201 HB HO198
   rename_i HO201 HB HO204
   clear ho hb hg hat
   refine hK.out _ _ trivial (fun hHeld => ?_)
   clear hK K
   refine norm_ (a' := ?_) ?_ ?_
   rotate_left
   ·show Act.put _ (some 42) _ = _
    simp only [Act.put, sA, sZ, sS, i64_w, i32_w]
    rfl
   refine one_ (i := 11) (N := some 46) b6A14 rfl rfl (one_of HT_.o (by kernel_rfl)) (by decide) (fun K hK => ?_)
   refine Kd.R_append_rows_step (Kd.int .i64) (w0 := w) w.heap.size (by rfl) (.tmp 42) (.tmp 45) 24 3 (.int .i64 0) 8 rfl Try.underlying24 info3 rfl (by decide) (by omega) v203 y202 (l0.drop (x5_1 : Int).toNat) _ _ _ (fun k_ => some k_ ≠ (.slice Ao28 y199.length co28 : Value).ownBlock) (fun _ => False) rfl rfl ?aO ?aR (fun _ _ h => h) (fun _ h => h.elim) ?aF ?aB ?aS ?aL ?_
   (case aR => first | ((exact Kd.qC (Kd.C_below HR205.o HB.o)); done) | (rw [← show (l0.drop (x5_1 : Int).toNat).length = (l0.length - x5_1.toNat) from List.length_drop]; exact Kd.qC (Kd.C_below HR205.o HB.o)))
   (case aB => exact (qB HB.o))
   (case aF => exact (fun k_ hk => Kd.fresh' (Kd.R_lt (Kd.qR HO201.o)) k_ hk))
   (case aO => exact (Kd.qR HO204.o))
   (case aS => exact (bZ (qB HB.o)))
   (case aL => have := LMc17.o; have hlx_ := (show (l0.drop (x5_1 : Int).toNat).length = (l0.length - x5_1.toNat) from List.length_drop); omega)
   intro v207 w29 ho hb hg hat
   rw [← Ny206.o] at ho
   have _ := zK (Kd.R_after (ok := (fun _ => True)) (Kd.qR HO201.o) hg hat)
   have _ := zK (hb)
   have _ := zK (ho)
   clear HO201 HB HO204
   rename_i HO201 HB HO208
   clear ho hb hg hat
   refine hK.out _ _ trivial (fun hHeld => ?_)
   clear hK K
   refine norm_ (a' := ?_) ?_ ?_
   rotate_left
   ·show Act.put _ (some 46) _ = _
    simp only [Act.put, sA, sZ, sS, i64_w, i32_w]
    rfl
   refine pI 12 (some 4) b6A15 HT_ ?_
   refine done_ (done_of HT_.o (by kernel_rfl)) ?_
   try go_wp2
   go_ret
   exact ⟨_, o0, by (with_reducible repeat (first | apply Kd.RA | apply Kd.RN | apply Kd.RD)); exact Kd.R_mono HO208.o (fun _ hk => trivial), o8⟩
end Go.Proofs.Ytejhjenlodclpaa.PFnHints
