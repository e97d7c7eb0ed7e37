/- Walks of functions that FnExactSendAll reaches: written by a tool of the kit for this claim, then shortened by a program of ours. -/
import Derived.Test.YtejhjenlodclpaaPFnExactSendAllx0
/- narrow -/
namespace Go.Proofs.Ytejhjenlodclpaa.PFnExactSendAll
open Go.RowKit Go.Proofs.YtejhjenlodclpaaW.PrintWords Go.Proofs.YtejhjenlodclpaaW.PrintLast Go.Proofs.YtejhjenlodclpaaW.PrintMore
attribute [local go_sem] max2_int min2_int max_two min_two max_three min_three max_four min_four   -- for this text's walks alone
set_option linter.unusedVariables false
set_option linter.unusedSimpArgs false

abbrev b8A0 : Array Bool := #[bo, bo, bo, bo, bo, bo, bo, bo, bo, bo, bo, bo, bo]
abbrev b8A1 : Array Bool := #[bo, bi, bo, bo, bo, bo, bo, bo, bo, bo, bo, bo, bo]
abbrev b8A2 : Array Bool := #[bo, bi, bi, bo, bo, bo, bo, bo, bo, bo, bo, bo, bo]
abbrev b8A3 : Array Bool := #[bo, bi, bi, bi, bo, bo, bo, bo, bo, bo, bo, bo, bo]
abbrev b8A4 : Array Bool := #[bo, bi, bi, bi, bo, bi, bo, bo, bo, bo, bo, bo, bo]
abbrev b8A5 : Array Bool := #[bo, bi, bi, bi, bo, bi, bo, bo, bi, bo, bo, bo, bo]
abbrev b8A6 : Array Bool := #[bo, bi, bi, bi, bo, bi, bo, bo, bi, bi, bo, bo, bo]
abbrev b8A7 : Array Bool := #[bo, bi, bi, bi, bo, bi, bo, bo, bi, bi, bi, bo, bo]
abbrev b8A8 : Array Bool := #[bi, bi, bi, bi, bi, bi, bi, bo, bi, bi, bi, bo, bo]
abbrev b8A9 : Array Bool := #[bi, bi, bi, bi, bo, bi, bo, bo, bi, bi, bi, bo, bo]
abbrev b8A10 : Array Bool := #[bo, bi, bi, bi, bo, bi, bi, bo, bi, bi, bi, bo, bo]
abbrev b8A11 : Array Bool := #[bi, bi, bi, bi, bi, bi, bo, bo, bi, bi, bi, bo, bo]
abbrev b8A12 : Array Bool := #[bi, bi, bi, bi, bo, bi, bi, bo, bi, bi, bi, bo, bo]
abbrev b8A13 : Array Bool := #[bi, bi, bi, bi, bi, bi, bi, bi, bi, bi, bi, bo, bo]
abbrev b8A14 : Array Bool := #[bi, bi, bi, bi, bi, bi, bi, bi, bi, bi, bi, bi, bo]
abbrev b8A15 : Array Bool := #[bi, bi, bi, bi, bi, bi, bi, bi, bi, bi, bi, bi, bi]
/-! ### spec_l9Put: function 83 -/
def spec_l9Put.l0 : Nat → List Int → Int → Int → Option (List Int)
 | 0, _, _, _ => none
 | k + 1, x0, x1, x5 => if x5 < (x0.length : Int) then (if 0 ≤ x5 then (if (rd x0 x5) < x1 then (spec_l9Put.l0 k x0 x1 (wrap64 (x5 + 1))) else (if (rd x0 x5) = x1 then ((some (([] : List Int) : List Int)).bind fun y247 => (if y247.length + x0.length < 17592186044416 then (some (y247 ++ x0)) else (none))) else ((some (([] : List Int) : List Int)).bind fun y253 => (if x5 ≤ (x0.length : Int) then (if y253.length + (x0.take (x5 : Int).toNat).length < 17592186044416 then ((some (y253 ++ (x0.take (x5 : Int).toNat) : List Int)).bind fun y257 => ((some (([x1] : List Int) : List Int)).bind fun y260 => (if y257.length + y260.length < 17592186044416 then ((some (y257 ++ y260 : List Int)).bind fun y263 => (if y263.length + (x0.drop (x5 : Int).toNat).length < 17592186044416 then (some (y263 ++ (x0.drop (x5 : Int).toNat))) else (none))) else (none)))) else (none)) else (none))))) else (none)) else ((some (([] : List Int) : List Int)).bind fun y270 => (if 0 ≤ x5 then (if x5 ≤ (x0.length : Int) then (if y270.length + (x0.take (x5 : Int).toNat).length < 17592186044416 then ((some (y270 ++ (x0.take (x5 : Int).toNat) : List Int)).bind fun y274 => ((some (([x1] : List Int) : List Int)).bind fun y277 => (if y274.length + y277.length < 17592186044416 then ((some (y274 ++ y277 : List Int)).bind fun y280 => (if y280.length + (x0.drop (x5 : Int).toNat).length < 17592186044416 then (some (y280 ++ (x0.drop (x5 : Int).toNat))) else (none))) else (none)))) else (none)) else (none)) else (none)))
def spec_l9Put.f (k : Nat) (l0 : List Int) (a1 : Int) : Option (List Int) := spec_l9Put.l0 k l0 a1 0
def spec_l9Put.T6 : Bool × List (List Nat × List Nat) := (true, [([], []), ([], []), ([], []), ([1, 2], [1, 2]), ([0, 3], [0, 3]), ([], []), ([5], [5]), ([4, 6, 4], [4, 6]), ([], []), ([], []), ([8, 9], [8, 9]), ([7, 10, 7], [7, 10]), ([11, 11, 0, 1, 2, 3, 4, 5, 6, 7, 8, 9, 10, 11], [11])])
def spec_l9Put.B6 : List Nat := [0, 0, 0, 6, 15, 0, 32, 127, 0, 0, 768, 2047, 4095]
theorem spec_l9Put.tab6 : rtab .any (opsOf Try.f83 6) = spec_l9Put.T6 := by kernel_rfl
theorem spec_l9Put.bits6 : waitsOk spec_l9Put.T6.2 spec_l9Put.B6 = true := by kernel_rfl
set_option maxHeartbeats 8000000 in
set_option maxRecDepth 100000 in
theorem spec_l9Put.calls (k : Nat) (A0 : Option Addr) (c0 : Nat) (l0 : List Int) (a1 : Int) (r : List Int) (w : World) (hr0 : Kd.C (Kd.int .i64) w A0 l0.length l0) (hc0 : l0.length ≤ c0) (h : spec_l9Put.f k l0 a1 = some r) :
  Calls Try.prog 83 #[.slice A0 l0.length c0, .int .i64 a1] w fun e w' => ∃ v0_ : Value, e = .returned (v0_) ∧ Kd.R (Kd.int .i64) 3 w' w.heap.size (fun _ => True) v0_ r ∧ Below w.heap.size w w' := by
 have HR0 := zK hr0
 have HC0 := zK hc0
 clear hr0 hc0
 have HB := zK (Below.refl w.heap.size w)
 have H : (spec_l9Put.l0 k l0 a1 0) = some r := h
 clear h
 have H' := zK H
 clear H
 go_enter Try.func83, Try.ntmps83
 go_wp2
 go_loopg [5] k (fun kq v5 w' => ∃ (x5_1 : Int), v5 = .int .i64 x5_1 ∧ Aside0 (spec_l9Put.l0 kq l0 a1 x5_1 = some r) ∧ Aside0 (kq ≤ k) ∧ Aside0 (Below w.heap.size w w'))
 case atStart => exact ⟨(0), M3, H', ⟨Nat.le_refl _⟩, ⟨by exact qB HB.out⟩⟩
 case round =>
  clear H'
  try clear p2
  obtain ⟨x5_1, rfl, HA, HK1, HB⟩ := hrel
  cases gk with
  | zero => exact absurd HA.out (by simp [spec_l9Put.l0])
  | succ k1 =>
   have H := HA.out
   clear HA
   simp only [spec_l9Put.l0] at H
   by_cases c3 : x5_1 < (l0.length : Int)
   rotate_left
   ·rw [if_neg c3] at H
    have c3b0 : decide (x5_1 < (l0.length : Int)) = false := decide_eq_false c3
    clear c3
    obtain ⟨y270, hy270⟩ : ∃ y_ : List Int, y_ = (([] : List Int)) := ⟨_, rfl⟩
    replace H : (if 0 ≤ x5_1 then (if x5_1 ≤ (l0.length : Int) then (if y270.length + (l0.take (x5_1 : Int).toNat).length < 17592186044416 then ((some (y270 ++ (l0.take (x5_1 : Int).toNat) : List Int)).bind fun y274 => ((some (([a1] : List Int) : List Int)).bind fun y277 => (if y274.length + y277.length < 17592186044416 then ((some (y274 ++ y277 : List Int)).bind fun y280 => (if y280.length + (l0.drop (x5_1 : Int).toNat).length < 17592186044416 then (some (y280 ++ (l0.drop (x5_1 : Int).toNat))) else (none))) else (none)))) else (none)) else (none)) else (none)) = some r := by first | (rw [hy270]; with_reducible exact H) | (have H2_ := (Option.bind_some _ _).symm.trans H; rw [hy270]; with_reducible exact H2_) | (have H2_ := (Option.bind_some _ _).symm.trans H; with_reducible exact H2_) | with_reducible exact H | (rw [hy270]; exact H) | exact H
    have Ny270 := zK hy270
    clear hy270
    by_cases c30 : 0 ≤ x5_1
    rotate_left
    ·rw [if_neg c30] at H
     exact absurd H (by simp)

    rw [if_pos c30] at H
    have c30b0 := eq_true c30
    have c30b1 : decide (0 ≤ x5_1) = true := decide_eq_true c30
    clear c30
    by_cases c31 : x5_1 ≤ (l0.length : Int)
    rotate_left
    ·rw [if_neg c31] at H
     exact absurd H (by simp)
    rw [if_pos c31] at H
    have c31b0 := eq_true c31
    have c31b1 : decide (x5_1 ≤ (l0.length : Int)) = true := decide_eq_true c31
    clear c31
    by_cases c32 : y270.length + (l0.take (x5_1 : Int).toNat).length < 17592186044416
    rotate_left
    ·rw [if_neg c32] at H
     exact absurd H (by simp)
    rw [if_pos c32] at H
    have LMc32 := zK c32
    clear c32
    obtain ⟨y274, hy274⟩ : ∃ y_ : List Int, y_ = (y270 ++ (l0.take (x5_1 : Int).toNat)) := ⟨_, rfl⟩
    replace H : ((some (([a1] : List Int) : List Int)).bind fun y277 => (if y274.length + y277.length < 17592186044416 then ((some (y274 ++ y277 : List Int)).bind fun y280 => (if y280.length + (l0.drop (x5_1 : Int).toNat).length < 17592186044416 then (some (y280 ++ (l0.drop (x5_1 : Int).toNat))) else (none))) else (none))) = some r := by first | (rw [hy274]; with_reducible exact H) | (have H2_ := (Option.bind_some _ _).symm.trans H; rw [hy274]; with_reducible exact H2_) | (have H2_ := (Option.bind_some _ _).symm.trans H; with_reducible exact H2_) | with_reducible exact H | (rw [hy274]; exact H) | exact H
    have Ny274 := zK hy274
    clear hy274
    obtain ⟨y277, hy277⟩ : ∃ y_ : List Int, y_ = (([a1] : List Int)) := ⟨_, rfl⟩
    replace H : (if y274.length + y277.length < 17592186044416 then ((some (y274 ++ y277 : List Int)).bind fun y280 => (if y280.length + (l0.drop (x5_1 : Int).toNat).length < 17592186044416 then (some (y280 ++ (l0.drop (x5_1 : Int).toNat))) else (none))) else (none)) = some r := by first | (rw [hy277]; with_reducible exact H) | (have H2_ := (Option.bind_some _ _).symm.trans H; rw [hy277]; with_reducible exact H2_) | (have H2_ := (Option.bind_some _ _).symm.trans H; with_reducible exact H2_) | with_reducible exact H | (rw [hy277]; exact H) | exact H
    have Ny277 := zK hy277
    clear hy277
    by_cases c33 : y274.length + y277.length < 17592186044416
    rotate_left
    ·rw [if_neg c33] at H
     exact absurd H (by simp)
    rw [if_pos c33] at H
    have LMc33 := zK c33
    clear c33
    obtain ⟨y280, hy280⟩ : ∃ y_ : List Int, y_ = (y274 ++ y277) := ⟨_, rfl⟩
    replace H : (if y280.length + (l0.drop (x5_1 : Int).toNat).length < 17592186044416 then (some (y280 ++ (l0.drop (x5_1 : Int).toNat))) else (none)) = some r := by first | (rw [hy280]; with_reducible exact H) | (have H2_ := (Option.bind_some _ _).symm.trans H; rw [hy280]; with_reducible exact H2_) | (have H2_ := (Option.bind_some _ _).symm.trans H; with_reducible exact H2_) | with_reducible exact H | (rw [hy280]; exact H) | exact H
    have Ny280 := zK hy280
    clear hy280
    have c34b0 := eq_true (oD M1 : 0 ≤ x5_1)
    have c35b0 := eq_true (oD M1 : x5_1 ≤ (l0.length : Int))
    by_cases c36 : y280.length + (l0.drop (x5_1 : Int).toNat).length < 17592186044416
    rotate_left
    ·rw [if_neg c36] at H
     exact absurd H (by simp)
    rw [if_pos c36] at H
    have LMc36 := zK c36
    clear c36
    obtain ⟨y284, hy284⟩ : ∃ y_ : List Int, y_ = (y280 ++ (l0.drop (x5_1 : Int).toNat)) := ⟨_, rfl⟩
    replace H : (some y284) = some r := by first | (rw [hy284]; with_reducible exact H) | (have H2_ := (Option.bind_some _ _).symm.trans H; rw [hy284]; with_reducible exact H2_) | (have H2_ := (Option.bind_some _ _).symm.trans H; with_reducible exact H2_) | with_reducible exact H | (rw [hy284]; exact H) | exact H
    have Ny284 := zK hy284
    clear hy284
    obtain rfl := Option.some.inj H
    try go_wp2
    have n0_ := zK (b1 HB.out)
    clear HB
    have HB := n0_
    clear n0_
    obtain ⟨i038, hi038, _, hsz38, _⟩ := info_parts info3
    obtain ⟨hcut38, hA38, hC38⟩ := print_take_of (P := Try.prog) (Value.int .i64) 0 24 3 .i64 Try.underlying24 hi038 hsz38 A0 c0 l0 x5_1 (oD M1) (oD M1) HC0.out
    have HR273 := zK (Kd.C_of_reads (h1 := fun _ => rfl) (hA38 _ (Kd.reads_of_C HR0.out)))
    have HC273 := zK hC38
    clear hA38 hC38 hi038 hsz38
    obtain ⟨i039, hi039, _, hsz39, _⟩ := info_parts info3
    obtain ⟨A39, hcut39, hA39, hC39⟩ := print_drop_of (P := Try.prog) (Value.int .i64) 0 24 3 .i64 Try.underlying24 hi039 hsz39 A0 c0 l0 x5_1 (oD M1) (oD M1) HC0.out
    have HR283 := zK (Kd.C_of_reads (h1 := fun _ => rfl) (hA39 _ (Kd.reads_of_C HR0.out)))
    have HC283 := zK hC39
    clear hA39 hC39 hi039 hsz39
    refine start_ (n := 13) (S := fun w' => True) (ds := []) b8A0 (by kernel_rfl) rfl rfl trivial (fun hHeld => ?_); refine with_tabW spec_l9Put.tab6 spec_l9Put.bits6 (fun HT_ HW_ => ?_)
    generalize wr.drew = w37 at HB HR273 HR283 hHeld ⊢
    refine pI 1 (some 36) b8A1 HT_ ?_
    refine pI 2 (some 37) b8A2 HT_ ?_
    refine pI 3 (some 38) b8A3 HT_ ?_
    refine pI 5 (some 40) b8A4 HT_ ?_
    refine pI 8 (some 43) b8A5 HT_ ?_
    refine pI 9 (some 44) b8A6 HT_ ?_
    refine pI 10 (some 45) b8A7 HT_ ?_
    refine join_ (σ := Value × Value × Value) 3 b8A8 (fun s_ => [(35, s_.1), (39, s_.2.1), (41, s_.2.2)]) (fun s_ w' => (Kd.R (Kd.int .i64) 3 w' w.heap.size (fun k_ => some k_ ≠ (s_.2.2 : Value).ownBlock) s_.2.1 y274) ∧ (Kd.R (Kd.int .i64) 3 w' w.heap.size (fun k_ => some k_ ≠ (s_.2.1 : Value).ownBlock) s_.2.2 y277) ∧ (Below w.heap.size w w')) ?_ ?_
    rotate_left
    ·intro hCont
     refine two_ (i := 0) (j := 6) (Ni := some 35) (Nj := some 41) b8A9 b8A10 rfl rfl rfl rfl (two_of HT_.out (by kernel_rfl)) (by decide) (by decide) (fun K hK => ?_) (fun K hK => ?_)
     rotate_left
     ·skip
      refine Kd.R_lit_step (Kd.int .i64) _ 3 ?hg (N := 41) ?hd (xs := ([a1] : List Int)) (inner := [.int .i64 a1]) (ok := fun _ => True) (okp := fun _ => True) ?hr ?hp (fun _ hk => hk) trivial (Below.refl _ _) (Nat.le_refl _) (by simp) ?_; (case hd => rfl); (case hg => rfl); (case hr => first | (go_simp; done) | (go_simp; rfl)); (case hp => exact (Reps.one (show Kd.M (Kd.int .i64) _ _ _ a1 [.int .i64 a1] from rfl) (Reps.none _ _)))
      intro v278 w40 ho41 hb hg_ hnew_
      clear hg_ hnew_
      (first | rw [← Ny277.out] at ho41 | (simp only [Int.reduceToNat] at ho41; rw [← Ny277.out] at ho41))
      have n0_ := zK (Kd.R_lower ho41 (bZ (qB HB.out)))
      have n1_ := zK (bT (qB HB.out) hb)
      clear HB
      have HO279 := n0_
      have HB := n1_
      clear n0_ n1_
      clear hb ho41
      refine hK.out _ _ trivial (fun hHeld => ?_)
      clear hK K
      refine norm_ (a' := ?_) ?_ ?_
      rotate_left
      ·show Act.put _ (some 41) _ = _
       simp only [Act.put, sA, sZ, sS, i64_w, i32_w]
       rfl
      refine one_ (i := 0) (N := some 35) b8A12 rfl rfl (one_of HT_.out (by kernel_rfl)) (by decide) (fun K hK => ?_)
      refine Kd.R_lit_step (Kd.int .i64) _ 3 ?hg (N := 35) ?hd (xs := ([] : List Int)) (inner := []) (ok := fun _ => True) (okp := fun _ => True) ?hr ?hp (fun _ hk => hk) trivial (Below.refl _ _) (Nat.le_refl _) (by simp) ?_; (case hd => rfl); (case hg => rfl); (case hr => first | (go_simp; done) | (go_simp; rfl)); (case hp => exact (Reps.none _ _))
      intro v271 w42 ho43 hb hg_ hnew_
      clear hg_ hnew_
      (first | rw [← Ny270.out] at ho43 | (simp only [Int.reduceToNat] at ho43; rw [← Ny270.out] at ho43))
      have n0_ := zK (Kd.R_elder' (Kd.qR HO279.out) (Kd.R_base ho43) hb)
      have n1_ := zK (Kd.R_lower (Kd.R_new' ho43 (Kd.R_lt (Kd.qR HO279.out))) (bZ (qB HB.out)))
      have n2_ := zK (bT (qB HB.out) hb)
      clear HO279
      clear HB
      have HO279 := n0_
      have HO272 := n1_
      have HB := n2_
      clear n0_ n1_ n2_
      clear hb ho43
      refine hK.out _ _ trivial (fun hHeld => ?_)
      clear hK K
      refine norm_ (a' := ?_) ?_ ?_
      rotate_left
      ·show Act.put _ (some 35) _ = _
       simp only [Act.put, sA, sZ, sS, i64_w, i32_w]
       rfl
      refine one_ (i := 4) (N := some 39) b8A8 rfl rfl (one_of HT_.out (by kernel_rfl)) (by decide) (fun K hK => ?_)
      refine Kd.R_append_rows_step (Kd.int .i64) (w0 := w) w.heap.size (by rfl) (.tmp 35) (.tmp 38) 24 3 (.int .i64 0) 8 rfl Try.underlying24 info3 rfl (by decide) (by omega) v271 y270 (l0.take (x5_1 : Int).toNat) _ _ _ (fun k_ => some k_ ≠ (v278 : Value).ownBlock) (fun _ => False) rfl rfl ?aO ?aR (fun _ _ h => h) (fun _ h => h.elim) ?aF ?aB ?aS ?aL ?_
      (case aR => first | ((exact Kd.qC (Kd.C_below HR273.out HB.out)); done) | (refine Eq.mp (congrArg (fun m_ => ReadsRow _ _ _ _ m_ _) (show (l0.take (x5_1 : Int).toNat).length = x5_1.toNat from (by rw [List.length_take]; have h_ : (x5_1 : Int) ≤ (l0.length : Int) := oD M1; omega))) ?_; exact Kd.qC (Kd.C_below HR273.out HB.out)))
      (case aB => exact (qB HB.out))
      (case aF => exact (fun k_ hk => Kd.fresh' (Kd.R_lt (Kd.qR HO279.out)) k_ hk))
      (case aO => exact (by (with_reducible repeat (first | apply Kd.RA | apply Kd.RN | apply Kd.RD)); exact Kd.R_mono HO272.out (fun _ hk => hk.2)))
      (case aS => exact (bZ (qB HB.out)))
      (case aL => have := LMc32.out; have hlx_ := (show (l0.take (x5_1 : Int).toNat).length = x5_1.toNat from (by rw [List.length_take]; have h_ : (x5_1 : Int) ≤ (l0.length : Int) := oD M1; omega)); omega)
      intro v275 w44 ho hb hg hat
      rw [← Ny274.out] at ho
      have n0_ := zK (Kd.R_after (ok := (fun _ => True)) (Kd.qR HO279.out) hg hat)
      have n1_ := zK (hb)
      have n2_ := zK (ho)
      clear HO279
      clear HB
      clear HO272
      have HO279 := n0_
      have HB := n1_
      have HO276 := n2_
      clear n0_ n1_ n2_
      clear ho hb hg hat
      refine hK.out _ _ trivial (fun hHeld => ?_)
      clear hK K
      refine norm_ (a' := ?_) ?_ ?_
      rotate_left
      ·show Act.put _ (some 39) _ = _
       simp only [Act.put, sA, sZ, sS, i64_w, i32_w]
       rfl
      exact norm_ M16 (hCont (v271, v275, v278) _ ⟨(Kd.qR HO276.out), (by (with_reducible repeat (first | apply Kd.RA | apply Kd.RN | apply Kd.RD)); exact Kd.R_mono HO279.out (fun _ hk => hk.2)), (qB HB.out)⟩)
     skip
     refine Kd.R_lit_step (Kd.int .i64) _ 3 ?hg (N := 35) ?hd (xs := ([] : List Int)) (inner := []) (ok := fun _ => True) (okp := fun _ => True) ?hr ?hp (fun _ hk => hk) trivial (Below.refl _ _) (Nat.le_refl _) (by simp) ?_; (case hd => rfl); (case hg => rfl); (case hr => first | (go_simp; done) | (go_simp; rfl)); (case hp => exact (Reps.none _ _))
     intro v271 w40 ho41 hb hg_ hnew_
     clear hg_ hnew_
     (first | rw [← Ny270.out] at ho41 | (simp only [Int.reduceToNat] at ho41; rw [← Ny270.out] at ho41))
     have n0_ := zK (Kd.R_lower ho41 (bZ (qB HB.out)))
     have n1_ := zK (bT (qB HB.out) hb)
     clear HB
     have HO272 := n0_
     have HB := n1_
     clear n0_ n1_
     clear hb ho41
     refine hK.out _ _ trivial (fun hHeld => ?_)
     clear hK K
     refine norm_ (a' := ?_) ?_ ?_
     rotate_left
     ·show Act.put _ (some 35) _ = _
      simp only [Act.put, sA, sZ, sS, i64_w, i32_w]
      rfl
     refine two_ (i := 4) (j := 6) (Ni := some 39) (Nj := some 41) b8A11 b8A12 rfl rfl rfl rfl (two_of HT_.out (by kernel_rfl)) (by decide) (by decide) (fun K hK => ?_) (fun K hK => ?_)
     ·skip
      refine Kd.R_append_rows_step (Kd.int .i64) (w0 := w) w.heap.size (by rfl) (.tmp 35) (.tmp 38) 24 3 (.int .i64 0) 8 rfl Try.underlying24 info3 rfl (by decide) (by omega) v271 y270 (l0.take (x5_1 : Int).toNat) _ _ _ (fun _ => True) (fun _ => False) rfl rfl ?aO ?aR (fun _ _ h => h) (fun _ h => h.elim) ?aF ?aB ?aS ?aL ?_
      (case aR => first | ((exact Kd.qC (Kd.C_below HR273.out HB.out)); done) | (refine Eq.mp (congrArg (fun m_ => ReadsRow _ _ _ _ m_ _) (show (l0.take (x5_1 : Int).toNat).length = x5_1.toNat from (by rw [List.length_take]; have h_ : (x5_1 : Int) ≤ (l0.length : Int) := oD M1; omega))) ?_; exact Kd.qC (Kd.C_below HR273.out HB.out)))
      (case aB => exact (qB HB.out))
      (case aF => exact (fun _ _ => trivial))
      (case aO => exact (Kd.qR HO272.out))
      (case aS => exact (bZ (qB HB.out)))
      (case aL => have := LMc32.out; have hlx_ := (show (l0.take (x5_1 : Int).toNat).length = x5_1.toNat from (by rw [List.length_take]; have h_ : (x5_1 : Int) ≤ (l0.length : Int) := oD M1; omega)); omega)
      intro v275 w42 ho hb hg hat
      rw [← Ny274.out] at ho
      have n0_ := zK (hb)
      have n1_ := zK (ho)
      clear HB
      clear HO272
      have HB := n0_
      have HO276 := n1_
      clear n0_ n1_
      clear ho hb hg hat
      refine hK.out _ _ trivial (fun hHeld => ?_)
      clear hK K
      refine norm_ (a' := ?_) ?_ ?_
      rotate_left
      ·show Act.put _ (some 39) _ = _
       simp only [Act.put, sA, sZ, sS, i64_w, i32_w]
       rfl
      refine one_ (i := 6) (N := some 41) b8A8 rfl rfl (one_of HT_.out (by kernel_rfl)) (by decide) (fun K hK => ?_)
      refine Kd.R_lit_step (Kd.int .i64) _ 3 ?hg (N := 41) ?hd (xs := ([a1] : List Int)) (inner := [.int .i64 a1]) (ok := fun _ => True) (okp := fun _ => True) ?hr ?hp (fun _ hk => hk) trivial (Below.refl _ _) (Nat.le_refl _) (by simp) ?_; (case hd => rfl); (case hg => rfl); (case hr => first | (go_simp; done) | (go_simp; rfl)); (case hp => exact (Reps.one (show Kd.M (Kd.int .i64) _ _ _ a1 [.int .i64 a1] from rfl) (Reps.none _ _)))
      intro v278 w43 ho44 hb hg_ hnew_
      clear hg_ hnew_
      (first | rw [← Ny277.out] at ho44 | (simp only [Int.reduceToNat] at ho44; rw [← Ny277.out] at ho44))
      have n0_ := zK (Kd.R_elder' (Kd.qR HO276.out) (Kd.R_base ho44) hb)
      have n1_ := zK (Kd.R_lower (Kd.R_new' ho44 (Kd.R_lt (Kd.qR HO276.out))) (bZ (qB HB.out)))
      have n2_ := zK (bT (qB HB.out) hb)
      clear HO276
      clear HB
      have HO276 := n0_
      have HO279 := n1_
      have HB := n2_
      clear n0_ n1_ n2_
      clear hb ho44
      refine hK.out _ _ trivial (fun hHeld => ?_)
      clear hK K
      refine norm_ (a' := ?_) ?_ ?_
      rotate_left
      ·show Act.put _ (some 41) _ = _
       simp only [Act.put, sA, sZ, sS, i64_w, i32_w]
       rfl
      exact norm_ M16 (hCont (v271, v275, v278) _ ⟨(by (with_reducible repeat (first | apply Kd.RA | apply Kd.RN | apply Kd.RD)); exact Kd.R_mono HO276.out (fun _ hk => hk.2)), (by (with_reducible repeat (first | apply Kd.RA | apply Kd.RN | apply Kd.RD)); exact Kd.R_mono HO279.out (fun _ hk => hk.2)), (qB HB.out)⟩)
     skip
     refine Kd.R_lit_step (Kd.int .i64) _ 3 ?hg (N := 41) ?hd (xs := ([a1] : List Int)) (inner := [.int .i64 a1]) (ok := fun _ => True) (okp := fun _ => True) ?hr ?hp (fun _ hk => hk) trivial (Below.refl _ _) (Nat.le_refl _) (by simp) ?_; (case hd => rfl); (case hg => rfl); (case hr => first | (go_simp; done) | (go_simp; rfl)); (case hp => exact (Reps.one (show Kd.M (Kd.int .i64) _ _ _ a1 [.int .i64 a1] from rfl) (Reps.none _ _)))
     intro v278 w42 ho43 hb hg_ hnew_
     clear hg_ hnew_
     (first | rw [← Ny277.out] at ho43 | (simp only [Int.reduceToNat] at ho43; rw [← Ny277.out] at ho43))
     have n0_ := zK (Kd.R_elder' (Kd.qR HO272.out) (Kd.R_base ho43) hb)
     have n1_ := zK (Kd.R_lower (Kd.R_new' ho43 (Kd.R_lt (Kd.qR HO272.out))) (bZ (qB HB.out)))
     have n2_ := zK (bT (qB HB.out) hb)
     clear HO272
     clear HB
     have HO272 := n0_
     have HO279 := n1_
     have HB := n2_
     clear n0_ n1_ n2_
     clear hb ho43
     refine hK.out _ _ trivial (fun hHeld => ?_)
     clear hK K
     refine norm_ (a' := ?_) ?_ ?_
     rotate_left
     ·show Act.put _ (some 41) _ = _
      simp only [Act.put, sA, sZ, sS, i64_w, i32_w]
      rfl
     refine one_ (i := 4) (N := some 39) b8A8 rfl rfl (one_of HT_.out (by kernel_rfl)) (by decide) (fun K hK => ?_)
     refine Kd.R_append_rows_step (Kd.int .i64) (w0 := w) w.heap.size (by rfl) (.tmp 35) (.tmp 38) 24 3 (.int .i64 0) 8 rfl Try.underlying24 info3 rfl (by decide) (by omega) v271 y270 (l0.take (x5_1 : Int).toNat) _ _ _ (fun k_ => some k_ ≠ (v278 : Value).ownBlock) (fun _ => False) rfl rfl ?aO ?aR (fun _ _ h => h) (fun _ h => h.elim) ?aF ?aB ?aS ?aL ?_
     (case aR => first | ((exact Kd.qC (Kd.C_below HR273.out HB.out)); done) | (refine Eq.mp (congrArg (fun m_ => ReadsRow _ _ _ _ m_ _) (show (l0.take (x5_1 : Int).toNat).length = x5_1.toNat from (by rw [List.length_take]; have h_ : (x5_1 : Int) ≤ (l0.length : Int) := oD M1; omega))) ?_; exact Kd.qC (Kd.C_below HR273.out HB.out)))
     (case aB => exact (qB HB.out))
     (case aF => exact (fun k_ hk => Kd.fresh' (Kd.R_lt (Kd.qR HO279.out)) k_ hk))
     (case aO => exact (by (with_reducible repeat (first | apply Kd.RA | apply Kd.RN | apply Kd.RD)); exact Kd.R_mono HO272.out (fun _ hk => hk.2)))
     (case aS => exact (bZ (qB HB.out)))
     (case aL => have := LMc32.out; have hlx_ := (show (l0.take (x5_1 : Int).toNat).length = x5_1.toNat from (by rw [List.length_take]; have h_ : (x5_1 : Int) ≤ (l0.length : Int) := oD M1; omega)); omega)
     intro v275 w44 ho hb hg hat
     rw [← Ny274.out] at ho
     have n0_ := zK (Kd.R_after (ok := (fun _ => True)) (Kd.qR HO279.out) hg hat)
     have n1_ := zK (hb)
     have n2_ := zK (ho)
     clear HO279
     clear HB
     clear HO272
     have HO279 := n0_
     have HB := n1_
     have HO276 := n2_
     clear n0_ n1_ n2_
     clear ho hb hg hat
     refine hK.out _ _ trivial (fun hHeld => ?_)
     clear hK K
     refine norm_ (a' := ?_) ?_ ?_
     rotate_left
     ·show Act.put _ (some 39) _ = _
      simp only [Act.put, sA, sZ, sS, i64_w, i32_w]
      rfl
     exact norm_ M16 (hCont (v271, v275, v278) _ ⟨(Kd.qR HO276.out), (by (with_reducible repeat (first | apply Kd.RA | apply Kd.RN | apply Kd.RD)); exact Kd.R_mono HO279.out (fun _ hk => hk.2)), (qB HB.out)⟩)
    rintro ⟨v271, v275, v278⟩ w45 ⟨h0_, h1_, h2_⟩
    have n0_ : Aside0 (Kd.R (Kd.int .i64) 3 w45 w.heap.size (fun k_ => some k_ ≠ (v278 : Value).ownBlock) v275 y274) := ⟨h0_⟩
    have n1_ : Aside0 (Kd.R (Kd.int .i64) 3 w45 w.heap.size (fun k_ => some k_ ≠ (v275 : Value).ownBlock) v278 y277) := ⟨h1_⟩
    have n2_ : Aside0 (Below w.heap.size w w45) := ⟨h2_⟩
    clear HB
    clear h0_ h1_ h2_
    have HO276 := n0_
    have HO279 := n1_
    have HB := n2_
    clear n0_ n1_ n2_
    have hHeld := trivial
    obtain ⟨Ao47, co47, eo47⟩ := Kd.R_slice HO279.out
    (first | subst eo47 | (injection eo47 with f1_ f2_ f3_; have f4_ := f1_.symm; have f5_ := f3_.symm; clear f1_ f2_ f3_; subst f4_; subst f5_))
    refine norm_ (a' := ?_) ?_ ?_
    rotate_left
    ·simp only [putAll, Act.put, sA, sZ, sS]
     rfl
    refine one_ (i := 7) (N := some 42) b8A13 rfl rfl (one_of HT_.out (by kernel_rfl)) (by decide) (fun K hK => ?_)
    refine Kd.R_append_rows_step (Kd.int .i64) (w0 := w) w.heap.size (by rfl) (.tmp 39) (.tmp 41) 24 3 (.int .i64 0) 8 rfl Try.underlying24 info3 rfl (by decide) (by omega) v275 y274 y277 _ _ _ (fun k_ => some k_ ≠ (.slice Ao47 y277.length co47 : Value).ownBlock) (fun _ => False) rfl rfl ?aO ?aR (fun _ _ h => h) (fun _ h => h.elim) ?aF ?aB ?aS ?aL ?_
    (case aR => exact Kd.qC (Kd.R_reads' HO279.out).2.2)
    (case aB => exact (qB HB.out))
    (case aF => exact (fun k_ hk => Kd.fresh' (Kd.R_lt (Kd.qR HO279.out)) k_ hk))
    (case aO => exact (Kd.qR HO276.out))
    (case aS => exact (bZ (qB HB.out)))
    (case aL => have := LMc33.out; omega)
    intro v281 w46 ho hb hg hat
    rw [← Ny280.out] at ho
    have n0_ := zK (Kd.R_after (ok := (fun _ => True)) (by (with_reducible repeat (first | apply Kd.RA | apply Kd.RN | apply Kd.RD)); exact Kd.R_mono HO279.out (fun _ hk => ⟨trivial, hk⟩)) hg hat)
    have n1_ := zK (hb)
    have n2_ := zK (ho)
    clear HO279
    clear HB
    clear HO276
    have HO279 := n0_
    have HB := n1_
    have HO282 := n2_
    clear n0_ n1_ n2_
    clear ho hb hg hat
    refine hK.out _ _ trivial (fun hHeld => ?_)
    clear hK K
    refine norm_ (a' := ?_) ?_ ?_
    rotate_left
    ·show Act.put _ (some 42) _ = _
     simp only [Act.put, sA, sZ, sS, i64_w, i32_w]
     rfl
    refine one_ (i := 11) (N := some 46) b8A14 rfl rfl (one_of HT_.out (by kernel_rfl)) (by decide) (fun K hK => ?_)
    refine Kd.R_append_rows_step (Kd.int .i64) (w0 := w) w.heap.size (by rfl) (.tmp 42) (.tmp 45) 24 3 (.int .i64 0) 8 rfl Try.underlying24 info3 rfl (by decide) (by omega) v281 y280 (l0.drop (x5_1 : Int).toNat) _ _ _ (fun k_ => some k_ ≠ (.slice Ao47 y277.length co47 : Value).ownBlock) (fun _ => False) rfl rfl ?aO ?aR (fun _ _ h => h) (fun _ h => h.elim) ?aF ?aB ?aS ?aL ?_
    (case aR => first | ((exact Kd.qC (Kd.C_below HR283.out HB.out)); done) | (rw [← show (l0.drop (x5_1 : Int).toNat).length = (l0.length - x5_1.toNat) from List.length_drop]; exact Kd.qC (Kd.C_below HR283.out HB.out)))
    (case aB => exact (qB HB.out))
    (case aF => exact (fun k_ hk => Kd.fresh' (Kd.R_lt (Kd.qR HO279.out)) k_ hk))
    (case aO => exact (Kd.qR HO282.out))
    (case aS => exact (bZ (qB HB.out)))
    (case aL => have := LMc36.out; have hlx_ := (show (l0.drop (x5_1 : Int).toNat).length = (l0.length - x5_1.toNat) from List.length_drop); omega)
    intro v285 w48 ho hb hg hat
    rw [← Ny284.out] at ho
    have n0_ := zK (Kd.R_after (ok := (fun _ => True)) (Kd.qR HO279.out) hg hat)
    have n1_ := zK (hb)
    have n2_ := zK (ho)
    clear HO279
    clear HB
    clear HO282
    have HO279 := n0_
    have HB := n1_
    have HO286 := n2_
    clear n0_ n1_ n2_
    clear ho hb hg hat
    refine hK.out _ _ trivial (fun hHeld => ?_)
    clear hK K
    refine norm_ (a' := ?_) ?_ ?_
    rotate_left
    ·show Act.put _ (some 46) _ = _
     simp only [Act.put, sA, sZ, sS, i64_w, i32_w]
     rfl
    refine pI 12 (some 4) b8A15 HT_ ?_
    refine done_ (done_of HT_.out (by kernel_rfl)) ?_
    try go_wp2
    go_ret
    exact ⟨_, by first | rfl | (simp [errW_none, errW_some] <;> rfl) | (simp [*, errW_none, errW_some] <;> rfl), by (with_reducible repeat (first | apply Kd.RA | apply Kd.RN | apply Kd.RD)); exact Kd.R_mono HO286.out (fun _ hk => trivial), by exact qB HB.out⟩
   rw [if_pos c3] at H
   have c3b0 : decide (x5_1 < (l0.length : Int)) = true := decide_eq_true c3
   clear c3
   by_cases c4 : 0 ≤ x5_1
   rotate_left
   ·rw [if_neg c4] at H
    exact absurd H (by simp)
   rw [if_pos c4] at H
   have c4b0 : decide (0 ≤ x5_1) = true := decide_eq_true c4
   clear c4
   by_cases c5 : (rd l0 x5_1) < a1
   ·rw [if_pos c5] at H
    have c5b0 : decide ((rd l0 x5_1) < a1) = true := decide_eq_true c5
    clear c5
    have H' := zK H
    clear H
    have p245 : 0 ≤ (x5_1 : Int) := oD M1
    have q245 : x5_1 < (l0.length : Int) := oD M1
    obtain ⟨ad245, e245, hx245_0⟩ := Kd.at_int HR0.out x5_1 p245 q245
    cases e245
    replace hx245_0 := (HB.out.cell (bL w hx245_0)).trans hx245_0
    replace p245 := eq_true p245
    replace q245 := eq_true q245
    go_wp2
    go_roundg k1
    case measure => have := HK1.out; omega
    case rel => exact ⟨(wrap64 (x5_1 + 1)), M3, H', ⟨by have := HK1.out; omega⟩, ⟨by exact qB HB.out⟩⟩
   rw [if_neg c5] at H
   have c5b0 : decide ((rd l0 x5_1) < a1) = false := decide_eq_false c5
   clear c5
   by_cases c6 : (rd l0 x5_1) = a1
   ·rw [if_pos c6] at H
    have c6b0 : ((rd l0 x5_1) == a1) = true := beq_iff_eq.mpr c6
    have c6b1 : ((rd l0 x5_1) != a1) = false := bne_eq_false_iff_eq.mpr c6
    clear c6
    obtain ⟨y247, hy247⟩ : ∃ y_ : List Int, y_ = (([] : List Int)) := ⟨_, rfl⟩
    replace H : (if y247.length + l0.length < 17592186044416 then (some (y247 ++ l0)) else (none)) = some r := by first | (rw [hy247]; with_reducible exact H) | (have H2_ := (Option.bind_some _ _).symm.trans H; rw [hy247]; with_reducible exact H2_) | (have H2_ := (Option.bind_some _ _).symm.trans H; with_reducible exact H2_) | with_reducible exact H | (rw [hy247]; exact H) | exact H
    have Ny247 := zK hy247
    clear hy247
    by_cases c7 : y247.length + l0.length < 17592186044416
    rotate_left
    ·rw [if_neg c7] at H
     exact absurd H (by simp)
    rw [if_pos c7] at H
    have LMc7 := zK c7
    clear c7
    obtain ⟨y250, hy250⟩ : ∃ y_ : List Int, y_ = (y247 ++ l0) := ⟨_, rfl⟩
    replace H : (some y250) = some r := by first | (rw [hy250]; with_reducible exact H) | (have H2_ := (Option.bind_some _ _).symm.trans H; rw [hy250]; with_reducible exact H2_) | (have H2_ := (Option.bind_some _ _).symm.trans H; with_reducible exact H2_) | with_reducible exact H | (rw [hy250]; exact H) | exact H
    have Ny250 := zK hy250
    clear hy250
    obtain rfl := Option.some.inj H
    have p245 : 0 ≤ (x5_1 : Int) := oD M1
    have q245 : x5_1 < (l0.length : Int) := oD M1
    obtain ⟨ad245, e245, hx245_0⟩ := Kd.at_int HR0.out x5_1 p245 q245
    cases e245
    replace hx245_0 := (HB.out.cell (bL w hx245_0)).trans hx245_0
    replace p245 := eq_true p245
    replace q245 := eq_true q245
    have p246 : 0 ≤ (x5_1 : Int) := oD M1
    have q246 : x5_1 < (l0.length : Int) := oD M1
    obtain ⟨ad246, e246, hx246_0⟩ := Kd.at_int HR0.out x5_1 p246 q246
    obtain rfl : ad245 = ad246 := (by injection e246)
    replace hx246_0 := (HB.out.cell (bL w hx246_0)).trans hx246_0
    replace p246 := eq_true p246
    replace q246 := eq_true q246
    go_wp2_with (first | ((with_reducible refine gate_dst (N := 32) rfl ?_); refine Kd.R_lit (Kd.int .i64) _ 3 ?hg (N := 32) ?hd (xs := ([] : List Int)) (inner := []) (ok := fun _ => True) (okp := fun _ => True) ?hr ?hp (fun _ hk => hk) trivial (Below.refl _ _) (Nat.le_refl _) (by simp) ?_; (case hd => rfl); (case hg => rfl); (case hr => first | (go_simp; done) | (go_simp; rfl)); (case hp => exact (Reps.none _ _)); intro v248 w8 ho9 hb hg_ hnew_; clear hg_ hnew_; (first | rw [← Ny247.out] at ho9 | (simp only [Int.reduceToNat] at ho9; rw [← Ny247.out] at ho9)); have n0_ := zK (Kd.R_lower ho9 (bZ (qB HB.out))); have n1_ := zK (bT (qB HB.out) hb); clear HB; have HO249 := n0_; have HB := n1_; clear n0_ n1_; clear hb ho9) | ((with_reducible refine gate_builtin (b := .append) (xs := #[.tmp 32, .tmp 33]) rfl ?_); at_builtin; refine Kd.R_append_rows (Kd.int .i64) (w0 := w) w.heap.size rfl (.tmp 32) (.tmp 33) 24 3 (.int .i64 0) 8 rfl Try.underlying24 info3 rfl (by decide) (by omega) v248 y247 l0 _ _ _ (fun _ => True) (fun _ => False) rfl rfl ?aO ?aR (fun _ _ h => h) (fun _ h => h.elim) ?aF ?aB ?aS ?aL ?_; (case aR => exact Kd.qC (Kd.C_below HR0.out HB.out)); (case aB => exact (qB HB.out)); (case aF => exact (fun _ _ => trivial)); (case aO => exact (Kd.qR HO249.out)); (case aS => exact (bZ (qB HB.out))); (case aL => have := LMc7.out; omega); intro v251 w10 ho hb hg hat; rw [← Ny250.out] at ho; have n0_ := zK (hb); have n1_ := zK (ho); clear HB HO249; have HB := n0_; have HO252 := n1_; clear n0_ n1_; clear ho hb hg hat))
    go_ret
    exact ⟨_, by first | rfl | (simp [errW_none, errW_some] <;> rfl) | (simp [*, errW_none, errW_some] <;> rfl), by exact Kd.qR HO252.out, by exact qB HB.out⟩
   rw [if_neg c6] at H
   have c6b0 : ((rd l0 x5_1) == a1) = false := beq_eq_false_iff_ne.mpr c6
   have c6b1 : ((rd l0 x5_1) != a1) = true := bne_iff_ne.mpr c6
   obtain ⟨y253, hy253⟩ : ∃ y_ : List Int, y_ = (([] : List Int)) := ⟨_, rfl⟩
   replace H : (if x5_1 ≤ (l0.length : Int) then (if y253.length + (l0.take (x5_1 : Int).toNat).length < 17592186044416 then ((some (y253 ++ (l0.take (x5_1 : Int).toNat) : List Int)).bind fun y257 => ((some (([a1] : List Int) : List Int)).bind fun y260 => (if y257.length + y260.length < 17592186044416 then ((some (y257 ++ y260 : List Int)).bind fun y263 => (if y263.length + (l0.drop (x5_1 : Int).toNat).length < 17592186044416 then (some (y263 ++ (l0.drop (x5_1 : Int).toNat))) else (none))) else (none)))) else (none)) else (none)) = some r := by first | (rw [hy253]; with_reducible exact H) | (have H2_ := (Option.bind_some _ _).symm.trans H; rw [hy253]; with_reducible exact H2_) | (have H2_ := (Option.bind_some _ _).symm.trans H; with_reducible exact H2_) | with_reducible exact H | (rw [hy253]; exact H) | exact H
   have Ny253 := zK hy253
   clear hy253
   have c11b0 := eq_true (oD M1 : 0 ≤ x5_1)
   by_cases c12 : x5_1 ≤ (l0.length : Int)
   rotate_left
   ·rw [if_neg c12] at H
    exact absurd H (by simp)
   rw [if_pos c12] at H
   have c12b0 := eq_true c12
   have c12b1 : decide (x5_1 ≤ (l0.length : Int)) = true := decide_eq_true c12
   clear c12
   by_cases c13 : y253.length + (l0.take (x5_1 : Int).toNat).length < 17592186044416
   rotate_left
   ·rw [if_neg c13] at H
    exact absurd H (by simp)
   rw [if_pos c13] at H
   have LMc13 := zK c13
   clear c13
   obtain ⟨y257, hy257⟩ : ∃ y_ : List Int, y_ = (y253 ++ (l0.take (x5_1 : Int).toNat)) := ⟨_, rfl⟩
   replace H : ((some (([a1] : List Int) : List Int)).bind fun y260 => (if y257.length + y260.length < 17592186044416 then ((some (y257 ++ y260 : List Int)).bind fun y263 => (if y263.length + (l0.drop (x5_1 : Int).toNat).length < 17592186044416 then (some (y263 ++ (l0.drop (x5_1 : Int).toNat))) else (none))) else (none))) = some r := by first | (rw [hy257]; with_reducible exact H) | (have H2_ := (Option.bind_some _ _).symm.trans H; rw [hy257]; with_reducible exact H2_) | (have H2_ := (Option.bind_some _ _).symm.trans H; with_reducible exact H2_) | with_reducible exact H | (rw [hy257]; exact H) | exact H
   have Ny257 := zK hy257
   clear hy257
   obtain ⟨y260, hy260⟩ : ∃ y_ : List Int, y_ = (([a1] : List Int)) := ⟨_, rfl⟩
   replace H : (if y257.length + y260.length < 17592186044416 then ((some (y257 ++ y260 : List Int)).bind fun y263 => (if y263.length + (l0.drop (x5_1 : Int).toNat).length < 17592186044416 then (some (y263 ++ (l0.drop (x5_1 : Int).toNat))) else (none))) else (none)) = some r := by first | (rw [hy260]; with_reducible exact H) | (have H2_ := (Option.bind_some _ _).symm.trans H; rw [hy260]; with_reducible exact H2_) | (have H2_ := (Option.bind_some _ _).symm.trans H; with_reducible exact H2_) | with_reducible exact H | (rw [hy260]; exact H) | exact H
   have Ny260 := zK hy260
   clear hy260
   by_cases c14 : y257.length + y260.length < 17592186044416
   rotate_left
   ·rw [if_neg c14] at H
    exact absurd H (by simp)
   rw [if_pos c14] at H
   have LMc14 := zK c14
   clear c14
   obtain ⟨y263, hy263⟩ : ∃ y_ : List Int, y_ = (y257 ++ y260) := ⟨_, rfl⟩
   replace H : (if y263.length + (l0.drop (x5_1 : Int).toNat).length < 17592186044416 then (some (y263 ++ (l0.drop (x5_1 : Int).toNat))) else (none)) = some r := by first | (rw [hy263]; with_reducible exact H) | (have H2_ := (Option.bind_some _ _).symm.trans H; rw [hy263]; with_reducible exact H2_) | (have H2_ := (Option.bind_some _ _).symm.trans H; with_reducible exact H2_) | with_reducible exact H | (rw [hy263]; exact H) | exact H
   have Ny263 := zK hy263
   clear hy263
   have c15b0 := eq_true (oD M1 : 0 ≤ x5_1)
   have c16b0 := eq_true (oD M1 : x5_1 ≤ (l0.length : Int))
   by_cases c17 : y263.length + (l0.drop (x5_1 : Int).toNat).length < 17592186044416
   rotate_left
   ·rw [if_neg c17] at H
    exact absurd H (by simp)
   rw [if_pos c17] at H
   have LMc17 := zK c17
   clear c17
   obtain ⟨y267, hy267⟩ : ∃ y_ : List Int, y_ = (y263 ++ (l0.drop (x5_1 : Int).toNat)) := ⟨_, rfl⟩
   replace H : (some y267) = some r := by first | (rw [hy267]; with_reducible exact H) | (have H2_ := (Option.bind_some _ _).symm.trans H; rw [hy267]; with_reducible exact H2_) | (have H2_ := (Option.bind_some _ _).symm.trans H; with_reducible exact H2_) | with_reducible exact H | (rw [hy267]; exact H) | exact H
   have Ny267 := zK hy267
   clear hy267
   obtain rfl := Option.some.inj H
   have p245 : 0 ≤ (x5_1 : Int) := oD M1
   have q245 : x5_1 < (l0.length : Int) := oD M1
   obtain ⟨ad245, e245, hx245_0⟩ := Kd.at_int HR0.out x5_1 p245 q245
   cases e245
   replace hx245_0 := (HB.out.cell (bL w hx245_0)).trans hx245_0
   replace p245 := eq_true p245
   replace q245 := eq_true q245
   have p246 : 0 ≤ (x5_1 : Int) := oD M1
   have q246 : x5_1 < (l0.length : Int) := oD M1
   obtain ⟨ad246, e246, hx246_0⟩ := Kd.at_int HR0.out x5_1 p246 q246
   obtain rfl : ad245 = ad246 := (by injection e246)
   replace hx246_0 := (HB.out.cell (bL w hx246_0)).trans hx246_0
   replace p246 := eq_true p246
   replace q246 := eq_true q246
   try go_wp2
   have n0_ := zK (b1 HB.out)
   clear HB
   have HB := n0_
   clear n0_
   obtain ⟨i019, hi019, _, hsz19, _⟩ := info_parts info3
   obtain ⟨hcut19, hA19, hC19⟩ := print_take_of (P := Try.prog) (Value.int .i64) 0 24 3 .i64 Try.underlying24 hi019 hsz19 (some ad245) c0 l0 x5_1 (oD M1) (oD M1) HC0.out
   have HR256 := zK (Kd.C_of_reads (h1 := fun _ => rfl) (hA19 _ (Kd.reads_of_C HR0.out)))
   have HC256 := zK hC19
   clear hA19 hC19 hi019 hsz19
   obtain ⟨i020, hi020, _, hsz20, _⟩ := info_parts info3
   obtain ⟨A20, hcut20, hA20, hC20⟩ := print_drop_of (P := Try.prog) (Value.int .i64) 0 24 3 .i64 Try.underlying24 hi020 hsz20 (some ad245) c0 l0 x5_1 (oD M1) (oD M1) HC0.out
   have HR266 := zK (Kd.C_of_reads (h1 := fun _ => rfl) (hA20 _ (Kd.reads_of_C HR0.out)))
   have HC266 := zK hC20
   clear hA20 hC20 hi020 hsz20
   refine start_ (n := 13) (S := fun w' => True) (ds := []) b8A0 (by kernel_rfl) rfl rfl trivial (fun hHeld => ?_); refine with_tabW spec_l9Put.tab6 spec_l9Put.bits6 (fun HT_ HW_ => ?_)
   generalize wr.drew = w18 at HB HR256 HR266 hHeld ⊢
   refine pI 1 (some 36) b8A1 HT_ ?_
   refine pI 2 (some 37) b8A2 HT_ ?_
   refine pI 3 (some 38) b8A3 HT_ ?_
   refine pI 5 (some 40) b8A4 HT_ ?_
   refine pI 8 (some 43) b8A5 HT_ ?_
   refine pI 9 (some 44) b8A6 HT_ ?_
   refine pI 10 (some 45) b8A7 HT_ ?_
   refine join_ (σ := Value × Value × Value) 3 b8A8 (fun s_ => [(35, s_.1), (39, s_.2.1), (41, s_.2.2)]) (fun s_ w' => (Kd.R (Kd.int .i64) 3 w' w.heap.size (fun k_ => some k_ ≠ (s_.2.2 : Value).ownBlock) s_.2.1 y257) ∧ (Kd.R (Kd.int .i64) 3 w' w.heap.size (fun k_ => some k_ ≠ (s_.2.1 : Value).ownBlock) s_.2.2 y260) ∧ (Below w.heap.size w w')) ?_ ?_
   rotate_left
   ·intro hCont
    refine two_ (i := 0) (j := 6) (Ni := some 35) (Nj := some 41) b8A9 b8A10 rfl rfl rfl rfl (two_of HT_.out (by kernel_rfl)) (by decide) (by decide) (fun K hK => ?_) (fun K hK => ?_)
    rotate_left
    ·skip
     refine Kd.R_lit_step (Kd.int .i64) _ 3 ?hg (N := 41) ?hd (xs := ([a1] : List Int)) (inner := [.int .i64 a1]) (ok := fun _ => True) (okp := fun _ => True) ?hr ?hp (fun _ hk => hk) trivial (Below.refl _ _) (Nat.le_refl _) (by simp) ?_; (case hd => rfl); (case hg => rfl); (case hr => first | (go_simp; done) | (go_simp; rfl)); (case hp => exact (Reps.one (show Kd.M (Kd.int .i64) _ _ _ a1 [.int .i64 a1] from rfl) (Reps.none _ _)))
     intro v261 w21 ho22 hb hg_ hnew_
     clear hg_ hnew_
     (first | rw [← Ny260.out] at ho22 | (simp only [Int.reduceToNat] at ho22; rw [← Ny260.out] at ho22))
     have n0_ := zK (Kd.R_lower ho22 (bZ (qB HB.out)))
     have n1_ := zK (bT (qB HB.out) hb)
     clear HB
     have HO262 := n0_
     have HB := n1_
     clear n0_ n1_
     clear hb ho22
     refine hK.out _ _ trivial (fun hHeld => ?_)
     clear hK K
     refine norm_ (a' := ?_) ?_ ?_
     rotate_left
     ·show Act.put _ (some 41) _ = _
      simp only [Act.put, sA, sZ, sS, i64_w, i32_w]
      rfl
     refine one_ (i := 0) (N := some 35) b8A12 rfl rfl (one_of HT_.out (by kernel_rfl)) (by decide) (fun K hK => ?_)
     refine Kd.R_lit_step (Kd.int .i64) _ 3 ?hg (N := 35) ?hd (xs := ([] : List Int)) (inner := []) (ok := fun _ => True) (okp := fun _ => True) ?hr ?hp (fun _ hk => hk) trivial (Below.refl _ _) (Nat.le_refl _) (by simp) ?_; (case hd => rfl); (case hg => rfl); (case hr => first | (go_simp; done) | (go_simp; rfl)); (case hp => exact (Reps.none _ _))
     intro v254 w23 ho24 hb hg_ hnew_
     clear hg_ hnew_
     (first | rw [← Ny253.out] at ho24 | (simp only [Int.reduceToNat] at ho24; rw [← Ny253.out] at ho24))
     have n0_ := zK (Kd.R_elder' (Kd.qR HO262.out) (Kd.R_base ho24) hb)
     have n1_ := zK (Kd.R_lower (Kd.R_new' ho24 (Kd.R_lt (Kd.qR HO262.out))) (bZ (qB HB.out)))
     have n2_ := zK (bT (qB HB.out) hb)
     clear HO262
     clear HB
     have HO262 := n0_
     have HO255 := n1_
     have HB := n2_
     clear n0_ n1_ n2_
     clear hb ho24
     refine hK.out _ _ trivial (fun hHeld => ?_)
     clear hK K
     refine norm_ (a' := ?_) ?_ ?_
     rotate_left
     ·show Act.put _ (some 35) _ = _
      simp only [Act.put, sA, sZ, sS, i64_w, i32_w]
      rfl
     refine one_ (i := 4) (N := some 39) b8A8 rfl rfl (one_of HT_.out (by kernel_rfl)) (by decide) (fun K hK => ?_)
     refine Kd.R_append_rows_step (Kd.int .i64) (w0 := w) w.heap.size (by rfl) (.tmp 35) (.tmp 38) 24 3 (.int .i64 0) 8 rfl Try.underlying24 info3 rfl (by decide) (by omega) v254 y253 (l0.take (x5_1 : Int).toNat) _ _ _ (fun k_ => some k_ ≠ (v261 : Value).ownBlock) (fun _ => False) rfl rfl ?aO ?aR (fun _ _ h => h) (fun _ h => h.elim) ?aF ?aB ?aS ?aL ?_
     (case aR => first | ((exact Kd.qC (Kd.C_below HR256.out HB.out)); done) | (refine Eq.mp (congrArg (fun m_ => ReadsRow _ _ _ _ m_ _) (show (l0.take (x5_1 : Int).toNat).length = x5_1.toNat from (by rw [List.length_take]; have h_ : (x5_1 : Int) ≤ (l0.length : Int) := oD M1; omega))) ?_; exact Kd.qC (Kd.C_below HR256.out HB.out)))
     (case aB => exact (qB HB.out))
     (case aF => exact (fun k_ hk => Kd.fresh' (Kd.R_lt (Kd.qR HO262.out)) k_ hk))
     (case aO => exact (by (with_reducible repeat (first | apply Kd.RA | apply Kd.RN | apply Kd.RD)); exact Kd.R_mono HO255.out (fun _ hk => hk.2)))
     (case aS => exact (bZ (qB HB.out)))
     (case aL => have := LMc13.out; have hlx_ := (show (l0.take (x5_1 : Int).toNat).length = x5_1.toNat from (by rw [List.length_take]; have h_ : (x5_1 : Int) ≤ (l0.length : Int) := oD M1; omega)); omega)
     intro v258 w25 ho hb hg hat
     rw [← Ny257.out] at ho
     have n0_ := zK (Kd.R_after (ok := (fun _ => True)) (Kd.qR HO262.out) hg hat)
     have n1_ := zK (hb)
     have n2_ := zK (ho)
     clear HO262
     clear HB
     clear HO255
     have HO262 := n0_
     have HB := n1_
     have HO259 := n2_
     clear n0_ n1_ n2_
     clear ho hb hg hat
     refine hK.out _ _ trivial (fun hHeld => ?_)
     clear hK K
     refine norm_ (a' := ?_) ?_ ?_
     rotate_left
     ·show Act.put _ (some 39) _ = _
      simp only [Act.put, sA, sZ, sS, i64_w, i32_w]
      rfl
     exact norm_ M16 (hCont (v254, v258, v261) _ ⟨(Kd.qR HO259.out), (by (with_reducible repeat (first | apply Kd.RA | apply Kd.RN | apply Kd.RD)); exact Kd.R_mono HO262.out (fun _ hk => hk.2)), (qB HB.out)⟩)
    skip
    refine Kd.R_lit_step (Kd.int .i64) _ 3 ?hg (N := 35) ?hd (xs := ([] : List Int)) (inner := []) (ok := fun _ => True) (okp := fun _ => True) ?hr ?hp (fun _ hk => hk) trivial (Below.refl _ _) (Nat.le_refl _) (by simp) ?_; (case hd => rfl); (case hg => rfl); (case hr => first | (go_simp; done) | (go_simp; rfl)); (case hp => exact (Reps.none _ _))
    intro v254 w21 ho22 hb hg_ hnew_
    clear hg_ hnew_
    (first | rw [← Ny253.out] at ho22 | (simp only [Int.reduceToNat] at ho22; rw [← Ny253.out] at ho22))
    have n0_ := zK (Kd.R_lower ho22 (bZ (qB HB.out)))
    have n1_ := zK (bT (qB HB.out) hb)
    clear HB
    have HO255 := n0_
    have HB := n1_
    clear n0_ n1_
    clear hb ho22
    refine hK.out _ _ trivial (fun hHeld => ?_)
    clear hK K
    refine norm_ (a' := ?_) ?_ ?_
    rotate_left
    ·show Act.put _ (some 35) _ = _
     simp only [Act.put, sA, sZ, sS, i64_w, i32_w]
     rfl
    refine two_ (i := 4) (j := 6) (Ni := some 39) (Nj := some 41) b8A11 b8A12 rfl rfl rfl rfl (two_of HT_.out (by kernel_rfl)) (by decide) (by decide) (fun K hK => ?_) (fun K hK => ?_)
    ·skip
     refine Kd.R_append_rows_step (Kd.int .i64) (w0 := w) w.heap.size (by rfl) (.tmp 35) (.tmp 38) 24 3 (.int .i64 0) 8 rfl Try.underlying24 info3 rfl (by decide) (by omega) v254 y253 (l0.take (x5_1 : Int).toNat) _ _ _ (fun _ => True) (fun _ => False) rfl rfl ?aO ?aR (fun _ _ h => h) (fun _ h => h.elim) ?aF ?aB ?aS ?aL ?_
     (case aR => first | ((exact Kd.qC (Kd.C_below HR256.out HB.out)); done) | (refine Eq.mp (congrArg (fun m_ => ReadsRow _ _ _ _ m_ _) (show (l0.take (x5_1 : Int).toNat).length = x5_1.toNat from (by rw [List.length_take]; have h_ : (x5_1 : Int) ≤ (l0.length : Int) := oD M1; omega))) ?_; exact Kd.qC (Kd.C_below HR256.out HB.out)))
     (case aB => exact (qB HB.out))
     (case aF => exact (fun _ _ => trivial))
     (case aO => exact (Kd.qR HO255.out))
     (case aS => exact (bZ (qB HB.out)))
     (case aL => have := LMc13.out; have hlx_ := (show (l0.take (x5_1 : Int).toNat).length = x5_1.toNat from (by rw [List.length_take]; have h_ : (x5_1 : Int) ≤ (l0.length : Int) := oD M1; omega)); omega)
     intro v258 w23 ho hb hg hat
     rw [← Ny257.out] at ho
     have n0_ := zK (hb)
     have n1_ := zK (ho)
     clear HB
     clear HO255
     have HB := n0_
     have HO259 := n1_
     clear n0_ n1_
     clear ho hb hg hat
     refine hK.out _ _ trivial (fun hHeld => ?_)
     clear hK K
     refine norm_ (a' := ?_) ?_ ?_
     rotate_left
     ·show Act.put _ (some 39) _ = _
      simp only [Act.put, sA, sZ, sS, i64_w, i32_w]
      rfl
     refine one_ (i := 6) (N := some 41) b8A8 rfl rfl (one_of HT_.out (by kernel_rfl)) (by decide) (fun K hK => ?_)
     refine Kd.R_lit_step (Kd.int .i64) _ 3 ?hg (N := 41) ?hd (xs := ([a1] : List Int)) (inner := [.int .i64 a1]) (ok := fun _ => True) (okp := fun _ => True) ?hr ?hp (fun _ hk => hk) trivial (Below.refl _ _) (Nat.le_refl _) (by simp) ?_; (case hd => rfl); (case hg => rfl); (case hr => first | (go_simp; done) | (go_simp; rfl)); (case hp => exact (Reps.one (show Kd.M (Kd.int .i64) _ _ _ a1 [.int .i64 a1] from rfl) (Reps.none _ _)))
     intro v261 w24 ho25 hb hg_ hnew_
     clear hg_ hnew_
     (first | rw [← Ny260.out] at ho25 | (simp only [Int.reduceToNat] at ho25; rw [← Ny260.out] at ho25))
     have n0_ := zK (Kd.R_elder' (Kd.qR HO259.out) (Kd.R_base ho25) hb)
     have n1_ := zK (Kd.R_lower (Kd.R_new' ho25 (Kd.R_lt (Kd.qR HO259.out))) (bZ (qB HB.out)))
     have n2_ := zK (bT (qB HB.out) hb)
     clear HO259
     clear HB
     have HO259 := n0_
     have HO262 := n1_
     have HB := n2_
     clear n0_ n1_ n2_
     clear hb ho25
     refine hK.out _ _ trivial (fun hHeld => ?_)
     clear hK K
     refine norm_ (a' := ?_) ?_ ?_
     rotate_left
     ·show Act.put _ (some 41) _ = _
      simp only [Act.put, sA, sZ, sS, i64_w, i32_w]
      rfl
     exact norm_ M16 (hCont (v254, v258, v261) _ ⟨(by (with_reducible repeat (first | apply Kd.RA | apply Kd.RN | apply Kd.RD)); exact Kd.R_mono HO259.out (fun _ hk => hk.2)), (by (with_reducible repeat (first | apply Kd.RA | apply Kd.RN | apply Kd.RD)); exact Kd.R_mono HO262.out (fun _ hk => hk.2)), (qB HB.out)⟩)
    skip
    refine Kd.R_lit_step (Kd.int .i64) _ 3 ?hg (N := 41) ?hd (xs := ([a1] : List Int)) (inner := [.int .i64 a1]) (ok := fun _ => True) (okp := fun _ => True) ?hr ?hp (fun _ hk => hk) trivial (Below.refl _ _) (Nat.le_refl _) (by simp) ?_; (case hd => rfl); (case hg => rfl); (case hr => first | (go_simp; done) | (go_simp; rfl)); (case hp => exact (Reps.one (show Kd.M (Kd.int .i64) _ _ _ a1 [.int .i64 a1] from rfl) (Reps.none _ _)))
    intro v261 w23 ho24 hb hg_ hnew_
    clear hg_ hnew_
    (first | rw [← Ny260.out] at ho24 | (simp only [Int.reduceToNat] at ho24; rw [← Ny260.out] at ho24))
    have n0_ := zK (Kd.R_elder' (Kd.qR HO255.out) (Kd.R_base ho24) hb)
    have n1_ := zK (Kd.R_lower (Kd.R_new' ho24 (Kd.R_lt (Kd.qR HO255.out))) (bZ (qB HB.out)))
    have n2_ := zK (bT (qB HB.out) hb)
    clear HO255
    clear HB
    have HO255 := n0_
    have HO262 := n1_
    have HB := n2_
    clear n0_ n1_ n2_
    clear hb ho24
    refine hK.out _ _ trivial (fun hHeld => ?_)
    clear hK K
    refine norm_ (a' := ?_) ?_ ?_
    rotate_left
    ·show Act.put _ (some 41) _ = _
     simp only [Act.put, sA, sZ, sS, i64_w, i32_w]
     rfl
    refine one_ (i := 4) (N := some 39) b8A8 rfl rfl (one_of HT_.out (by kernel_rfl)) (by decide) (fun K hK => ?_)
    refine Kd.R_append_rows_step (Kd.int .i64) (w0 := w) w.heap.size (by rfl) (.tmp 35) (.tmp 38) 24 3 (.int .i64 0) 8 rfl Try.underlying24 info3 rfl (by decide) (by omega) v254 y253 (l0.take (x5_1 : Int).toNat) _ _ _ (fun k_ => some k_ ≠ (v261 : Value).ownBlock) (fun _ => False) rfl rfl ?aO ?aR (fun _ _ h => h) (fun _ h => h.elim) ?aF ?aB ?aS ?aL ?_
    (case aR => first | ((exact Kd.qC (Kd.C_below HR256.out HB.out)); done) | (refine Eq.mp (congrArg (fun m_ => ReadsRow _ _ _ _ m_ _) (show (l0.take (x5_1 : Int).toNat).length = x5_1.toNat from (by rw [List.length_take]; have h_ : (x5_1 : Int) ≤ (l0.length : Int) := oD M1; omega))) ?_; exact Kd.qC (Kd.C_below HR256.out HB.out)))
    (case aB => exact (qB HB.out))
    (case aF => exact (fun k_ hk => Kd.fresh' (Kd.R_lt (Kd.qR HO262.out)) k_ hk))
    (case aO => exact (by (with_reducible repeat (first | apply Kd.RA | apply Kd.RN | apply Kd.RD)); exact Kd.R_mono HO255.out (fun _ hk => hk.2)))
    (case aS => exact (bZ (qB HB.out)))
    (case aL => have := LMc13.out; have hlx_ := (show (l0.take (x5_1 : Int).toNat).length = x5_1.toNat from (by rw [List.length_take]; have h_ : (x5_1 : Int) ≤ (l0.length : Int) := oD M1; omega)); omega)
    intro v258 w25 ho hb hg hat
    rw [← Ny257.out] at ho
    have n0_ := zK (Kd.R_after (ok := (fun _ => True)) (Kd.qR HO262.out) hg hat)
    have n1_ := zK (hb)
    have n2_ := zK (ho)
    clear HO262
    clear HB
    clear HO255
    have HO262 := n0_
    have HB := n1_
    have HO259 := n2_
    clear n0_ n1_ n2_
    clear ho hb hg hat
    refine hK.out _ _ trivial (fun hHeld => ?_)
    clear hK K
    refine norm_ (a' := ?_) ?_ ?_
    rotate_left
    ·show Act.put _ (some 39) _ = _
     simp only [Act.put, sA, sZ, sS, i64_w, i32_w]
     rfl
    exact norm_ M16 (hCont (v254, v258, v261) _ ⟨(Kd.qR HO259.out), (by (with_reducible repeat (first | apply Kd.RA | apply Kd.RN | apply Kd.RD)); exact Kd.R_mono HO262.out (fun _ hk => hk.2)), (qB HB.out)⟩)
   rintro ⟨v254, v258, v261⟩ w26 ⟨h0_, h1_, h2_⟩
   have n0_ : Aside0 (Kd.R (Kd.int .i64) 3 w26 w.heap.size (fun k_ => some k_ ≠ (v261 : Value).ownBlock) v258 y257) := ⟨h0_⟩
   have n1_ : Aside0 (Kd.R (Kd.int .i64) 3 w26 w.heap.size (fun k_ => some k_ ≠ (v258 : Value).ownBlock) v261 y260) := ⟨h1_⟩
   have n2_ : Aside0 (Below w.heap.size w w26) := ⟨h2_⟩
   clear HB
   clear h0_ h1_ h2_
   have HO259 := n0_
   have HO262 := n1_
   have HB := n2_
   clear n0_ n1_ n2_
   have hHeld := trivial
   obtain ⟨Ao28, co28, eo28⟩ := Kd.R_slice HO262.out
   (first | subst eo28 | (injection eo28 with f1_ f2_ f3_; have f4_ := f1_.symm; have f5_ := f3_.symm; clear f1_ f2_ f3_; subst f4_; subst f5_))
   refine norm_ (a' := ?_) ?_ ?_
   rotate_left
   ·simp only [putAll, Act.put, sA, sZ, sS]
    rfl
   refine one_ (i := 7) (N := some 42) b8A13 rfl rfl (one_of HT_.out (by kernel_rfl)) (by decide) (fun K hK => ?_)
   refine Kd.R_append_rows_step (Kd.int .i64) (w0 := w) w.heap.size (by rfl) (.tmp 39) (.tmp 41) 24 3 (.int .i64 0) 8 rfl Try.underlying24 info3 rfl (by decide) (by omega) v258 y257 y260 _ _ _ (fun k_ => some k_ ≠ (.slice Ao28 y260.length co28 : Value).ownBlock) (fun _ => False) rfl rfl ?aO ?aR (fun _ _ h => h) (fun _ h => h.elim) ?aF ?aB ?aS ?aL ?_
   (case aR => exact Kd.qC (Kd.R_reads' HO262.out).2.2)
   (case aB => exact (qB HB.out))
   (case aF => exact (fun k_ hk => Kd.fresh' (Kd.R_lt (Kd.qR HO262.out)) k_ hk))
   (case aO => exact (Kd.qR HO259.out))
   (case aS => exact (bZ (qB HB.out)))
   (case aL => have := LMc14.out; omega)
   intro v264 w27 ho hb hg hat
   rw [← Ny263.out] at ho
   have n0_ := zK (Kd.R_after (ok := (fun _ => True)) (by (with_reducible repeat (first | apply Kd.RA | apply Kd.RN | apply Kd.RD)); exact Kd.R_mono HO262.out (fun _ hk => ⟨trivial, hk⟩)) hg hat)
   have n1_ := zK (hb)
   have n2_ := zK (ho)
   clear HO262
   clear HB
   clear HO259
   have HO262 := n0_
   have HB := n1_
   have HO265 := n2_
   clear n0_ n1_ n2_
   clear ho hb hg hat
   refine hK.out _ _ trivial (fun hHeld => ?_)
   clear hK K
   refine norm_ (a' := ?_) ?_ ?_
   rotate_left
   ·show Act.put _ (some 42) _ = _
    simp only [Act.put, sA, sZ, sS, i64_w, i32_w]
    rfl
   refine one_ (i := 11) (N := some 46) b8A14 rfl rfl (one_of HT_.out (by kernel_rfl)) (by decide) (fun K hK => ?_)
   refine Kd.R_append_rows_step (Kd.int .i64) (w0 := w) w.heap.size (by rfl) (.tmp 42) (.tmp 45) 24 3 (.int .i64 0) 8 rfl Try.underlying24 info3 rfl (by decide) (by omega) v264 y263 (l0.drop (x5_1 : Int).toNat) _ _ _ (fun k_ => some k_ ≠ (.slice Ao28 y260.length co28 : Value).ownBlock) (fun _ => False) rfl rfl ?aO ?aR (fun _ _ h => h) (fun _ h => h.elim) ?aF ?aB ?aS ?aL ?_
   (case aR => first | ((exact Kd.qC (Kd.C_below HR266.out HB.out)); done) | (rw [← show (l0.drop (x5_1 : Int).toNat).length = (l0.length - x5_1.toNat) from List.length_drop]; exact Kd.qC (Kd.C_below HR266.out HB.out)))
   (case aB => exact (qB HB.out))
   (case aF => exact (fun k_ hk => Kd.fresh' (Kd.R_lt (Kd.qR HO262.out)) k_ hk))
   (case aO => exact (Kd.qR HO265.out))
   (case aS => exact (bZ (qB HB.out)))
   (case aL => have := LMc17.out; have hlx_ := (show (l0.drop (x5_1 : Int).toNat).length = (l0.length - x5_1.toNat) from List.length_drop); omega)
   intro v268 w29 ho hb hg hat
   rw [← Ny267.out] at ho
   have n0_ := zK (Kd.R_after (ok := (fun _ => True)) (Kd.qR HO262.out) hg hat)
   have n1_ := zK (hb)
   have n2_ := zK (ho)
   clear HO262
   clear HB
   clear HO265
   have HO262 := n0_
   have HB := n1_
   have HO269 := n2_
   clear n0_ n1_ n2_
   clear ho hb hg hat
   refine hK.out _ _ trivial (fun hHeld => ?_)
   clear hK K
   refine norm_ (a' := ?_) ?_ ?_
   rotate_left
   ·show Act.put _ (some 46) _ = _
    simp only [Act.put, sA, sZ, sS, i64_w, i32_w]
    rfl
   refine pI 12 (some 4) b8A15 HT_ ?_
   refine done_ (done_of HT_.out (by kernel_rfl)) ?_
   try go_wp2
   go_ret
   exact ⟨_, by first | rfl | (simp [errW_none, errW_some] <;> rfl) | (simp [*, errW_none, errW_some] <;> rfl), by (with_reducible repeat (first | apply Kd.RA | apply Kd.RN | apply Kd.RD)); exact Kd.R_mono HO269.out (fun _ hk => trivial), by exact qB HB.out⟩
end Go.Proofs.Ytejhjenlodclpaa.PFnExactSendAll
