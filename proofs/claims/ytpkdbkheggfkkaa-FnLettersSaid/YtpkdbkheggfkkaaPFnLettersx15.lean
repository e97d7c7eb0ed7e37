/- Walks of functions that FnLetters reaches, shortened. -/
import Derived.Test.YtpkdbkheggfkkaaPFnLettersx0
import Derived.Test.YtpkdbkheggfkkaaPFnLettersx1
import Derived.Test.YtpkdbkheggfkkaaPFnLettersx3
namespace Go.Proofs.Ytpkdbkheggfkkaa.PFnLetters
open Go.RowKit Go.Proofs.YtpkdbkheggfkkaaW.PrintWords Go.Proofs.YtpkdbkheggfkkaaW.PrintLast Go.Proofs.YtpkdbkheggfkkaaW.PrintMore
attribute [local go_sem] max2_int min2_int max_two min_two max_three min_three max_four min_four
set_option linter.unusedVariables false
set_option linter.unusedSimpArgs false

/-! ### spec_DrawMayWrite: function 124 -/
def spec_DrawMayWrite.f (k : Nat) (l0 : List Int) : Option ((List (S81)) × Int × Int × Int) := (spec_l1New.f k l0).bind fun bt637 => ((spec_l23Any.f k bt637.1 bt637.2.1 bt637.2.2).bind fun bt641 => ((spec_l1Below.f bt637.1 bt641.2.1 bt641.2.2 5).bind fun bt646 => ((spec_l1Below.f bt637.1 bt646.2.1 bt646.2.2 7).bind fun bt649 => ((spec_l1Int.f bt637.1 bt649.2.1 bt649.2.2 (([0, 300, 500, 900, 100000, 100001] : List Int))).bind fun bt655 => (some (bt641.1, wrap64 (3 * bt646.1), wrap64 (2 * bt649.1), bt655.1))))))
set_option maxHeartbeats 8000000 in
set_option maxRecDepth 100000 in
theorem spec_DrawMayWrite.calls (k : Nat) (A0 : Option Addr) (c0 : Nat) (l0 : List Int) (r1 : List (S81)) (r2 : Int) (r3 : Int) (r4 : Int) (w : World) (hr0 : Kd.C (Kd.int .u8) w A0 l0.length l0) (hc0 : l0.length ≤ c0) (h : spec_DrawMayWrite.f k l0 = some (r1, r2, r3, r4)) :
  Calls Try.prog 124 #[.slice A0 l0.length c0] w fun e w' => ∃ v0_ : Value, e = .returned (.tuple #[v0_, .int .i64 r2, .int .i64 r3, .int .i64 r4]) ∧ Kd.R k81 81 w' w.heap.size (fun _ => True) v0_ r1 ∧ Below w.heap.size w w' := by
 have HR0 := zK hr0
 have HC0 := zK hc0
 clear hr0 hc0
 have HB := zK (Below.refl w.heap.size w)
 have H : ((spec_l1New.f k l0).bind fun bt637 => ((spec_l23Any.f k bt637.1 bt637.2.1 bt637.2.2).bind fun bt641 => ((spec_l1Below.f bt637.1 bt641.2.1 bt641.2.2 5).bind fun bt646 => ((spec_l1Below.f bt637.1 bt646.2.1 bt646.2.2 7).bind fun bt649 => ((spec_l1Int.f bt637.1 bt649.2.1 bt649.2.2 (([0, 300, 500, 900, 100000, 100001] : List Int))).bind fun bt655 => (some (bt641.1, wrap64 (3 * bt646.1), wrap64 (2 * bt649.1), bt655.1))))))) = some (r1, r2, r3, r4) := h
 clear h
 replace H := Option.bind_eq_some_iff.mp H
 obtain ⟨⟨t637, t638, t639⟩, A20, H⟩ := H
 try dsimp only at H
 have A2 := zK A20
 clear A20
 replace H := Option.bind_eq_some_iff.mp H
 obtain ⟨⟨t641, t644, t645⟩, A30, H⟩ := H
 try dsimp only at H
 have A3 := zK A30
 clear A30
 replace H := Option.bind_eq_some_iff.mp H
 obtain ⟨⟨t646, t647, t648⟩, A40, H⟩ := H
 try dsimp only at H
 have A4 := zK A40
 clear A40
 replace H := Option.bind_eq_some_iff.mp H
 obtain ⟨⟨t649, t650, t651⟩, A50, H⟩ := H
 try dsimp only at H
 have A5 := zK A50
 clear A50
 obtain ⟨y652, hy652⟩ : ∃ y_ : List Int, y_ = (([0, 300, 500, 900, 100000, 100001] : List Int)) := ⟨_, rfl⟩
 replace H : ((spec_l1Int.f t637 t650 t651 y652).bind fun bt655 => (some (t641, wrap64 (3 * t646), wrap64 (2 * t649), bt655.1))) = some (r1, r2, r3, r4) := by first | (rw [hy652]; with_reducible exact H) | (have H2_ := (Option.bind_some _ _).symm.trans H; rw [hy652]; with_reducible exact H2_) | (have H2_ := (Option.bind_some _ _).symm.trans H; with_reducible exact H2_) | with_reducible exact H | (rw [hy652]; exact H) | exact H
 have Ny652 := zK hy652
 clear hy652
 replace H := Option.bind_eq_some_iff.mp H
 obtain ⟨⟨t655, t656, t657⟩, A60, H⟩ := H
 try dsimp only at H
 have A6 := zK A60
 clear A60
 simp only [Option.some.injEq, Prod.mk.injEq] at H
 obtain ⟨rfl, rfl, rfl, rfl⟩ := H
 go_enter Try.func124, Try.ntmps124
 go_wp2_with (first | ((with_reducible refine gate_callee (f := 96) rfl ?_); refine goesL_ (some 11) rfl rfl Try.func96 (by kernel_rfl) rfl #[.slice A0 l0.length c0] rfl M0 ?_; (with_reducible refine (spec_l1New.calls k _ _ l0 t637 t638 t639 w _ ?side1 ?side2 ?side3 A2.o).mono ?_); (case side1 => repeat (first | (with_reducible first | exact HB.o | apply bA | apply bN | apply below_drew1) | exact HB.o)); (case side2 => exact HR0.o); (case side3 => exact HC0.o); rintro e w7 ⟨g640, rfl, hi, hb, hb2⟩; refine ⟨_, rfl, ?_⟩; have _ := zK (hb); have _ := zK (hi); clear HB; rename_i HB HI640; (try clear hb); (try clear hb2); (try clear hk); (try clear hi)) | ((with_reducible refine gate_callee (f := 111) rfl ?_); refine goesL_ (some 13) rfl rfl Try.func111 (by kernel_rfl) rfl #[.pointer (some ⟨g640, 0, none⟩)] rfl M0 ?_; (with_reducible refine (spec_l23Any.calls k g640 t637 t638 t639 t641 t644 t645 w _ ?side1 ?side2 A3.o).mono ?_); (case side1 => repeat (first | (with_reducible first | exact HI640.o | apply IsS187.alloc | apply IsS187.drewN | apply IsS187.drew | apply IsS187.set_1 | apply IsS187.set_2) | exact HI640.o)); (case side2 => repeat (first | (with_reducible first | exact HB.o | apply bA | apply bN | apply below_drew1 | refine bS ?_ (IsS187.ge HI640.o)) | exact HB.o)); rintro e w8 ⟨v642, rfl, ho0, hi, hb, hk⟩; refine ⟨_, rfl, ?_⟩; have _ := zK (Kd.R_lower ho0 (bZ (Q21))); have _ := zK (hb); have _ := zK (hi); clear HB HI640; rename_i HO643 HB HI640; (try clear hb); (try clear hb2); (try clear hk); (try clear hi); (try clear ho0)) | ((with_reducible refine gate_callee (f := 98) rfl ?_); refine goesL_ (some 15) rfl rfl Try.func98 (by kernel_rfl) rfl #[.pointer (some ⟨g640, 0, none⟩), .int .i64 5] rfl M0 ?_; (with_reducible refine (spec_l1Below.calls g640 t637 t644 t645 5 t646 t647 t648 w _ ?side1 ?side2 A4.o).mono ?_); (case side1 => repeat (first | (with_reducible first | exact HI640.o | apply IsS187.alloc | apply IsS187.drewN | apply IsS187.drew | apply IsS187.set_1 | apply IsS187.set_2) | exact HI640.o)); (case side2 => repeat (first | (with_reducible first | exact HB.o | apply bA | apply bN | apply below_drew1 | refine bS ?_ (IsS187.ge HI640.o)) | exact HB.o)); rintro e w9 ⟨rfl, hi, hb, hk⟩; refine ⟨_, rfl, ?_⟩; have _ := zK (Kd.R_mono (Kd.R_keep (IsS187.apart (show IsS187 w _ g640 t637 t644 t645 from Q15) (Kd.qR HO643.o) (by decide)) hk (fun _ h => h.2)) (fun _ h => h.1)); have _ := zK (hb); have _ := zK (hi); clear HO643 HB HI640; rename_i HO643 HB HI640; (try clear hb); (try clear hb2); (try clear hk); (try clear hi)) | ((with_reducible refine gate_callee (f := 98) rfl ?_); refine goesL_ (some 18) rfl rfl Try.func98 (by kernel_rfl) rfl #[.pointer (some ⟨g640, 0, none⟩), .int .i64 7] rfl M0 ?_; (with_reducible refine (spec_l1Below.calls g640 t637 t647 t648 7 t649 t650 t651 w _ ?side1 ?side2 A5.o).mono ?_); (case side1 => repeat (first | (with_reducible first | exact HI640.o | apply IsS187.alloc | apply IsS187.drewN | apply IsS187.drew | apply IsS187.set_1 | apply IsS187.set_2) | exact HI640.o)); (case side2 => repeat (first | (with_reducible first | exact HB.o | apply bA | apply bN | apply below_drew1 | refine bS ?_ (IsS187.ge HI640.o)) | exact HB.o)); rintro e w10 ⟨rfl, hi, hb, hk⟩; refine ⟨_, rfl, ?_⟩; have _ := zK (Kd.R_mono (Kd.R_keep (IsS187.apart (show IsS187 w _ g640 t637 t647 t648 from Q15) (Kd.qR HO643.o) (by decide)) hk (fun _ h => h.2)) (fun _ h => h.1)); have _ := zK (hb); have _ := zK (hi); clear HO643 HB HI640; rename_i HO643 HB HI640; (try clear hb); (try clear hb2); (try clear hk); (try clear hi)) | ((with_reducible refine gate_dst (N := 24) rfl ?_); refine Kd.R_lit (Kd.int .i64) _ 3 ?hg (N := 24) ?hd (xs := ([0, 300, 500, 900, 100000, 100001] : List Int)) (inner := [.int .i64 0, .int .i64 300, .int .i64 500, .int .i64 900, .int .i64 100000, .int .i64 100001]) (ok := fun _ => True) (okp := fun _ => True) ?hr ?hp (fun _ hk => hk) trivial (Below.refl _ _) (Nat.le_refl _) (by simp) ?_; (case hd => rfl); (case hg => rfl); (case hr => first | (go_simp; done) | (go_simp; rfl)); (case hp => exact (Reps.one (show Kd.M (Kd.int .i64) _ _ _ 0 [.int .i64 0] from rfl) (Reps.one (show Kd.M (Kd.int .i64) _ _ _ 300 [.int .i64 300] from rfl) (Reps.one (show Kd.M (Kd.int .i64) _ _ _ 500 [.int .i64 500] from rfl) (Reps.one (show Kd.M (Kd.int .i64) _ _ _ 900 [.int .i64 900] from rfl) (Reps.one (show Kd.M (Kd.int .i64) _ _ _ 100000 [.int .i64 100000] from rfl) (Reps.one (show Kd.M (Kd.int .i64) _ _ _ 100001 [.int .i64 100001] from rfl) (Reps.none _ _)))))))); intro v653 w11 ho12 hb hg_ hnew_; clear hg_ hnew_; (first | rw [← Ny652.o] at ho12 | (simp only [Int.reduceToNat] at ho12; rw [← Ny652.o] at ho12)); have _ := zK (Kd.R_below (Kd.qR HO643.o) hb); have _ := zK (Kd.R_lower ho12 (bZ (Q21))); have _ := zK (IsS187.below (Q15) hb); have _ := zK (bT (Q21) hb); clear HO643 HI640 HB; rename_i HO643 HO654 HI640 HB; clear hb ho12; obtain ⟨Ao13, co13, eo13⟩ := Kd.R_slice HO654.o; subst eo13) | ((with_reducible refine gate_callee (f := 99) rfl ?_); refine goesL_ (some 25) rfl rfl Try.func99 (by kernel_rfl) rfl #[.pointer (some ⟨g640, 0, none⟩), .slice Ao13 y652.length co13] rfl M0 ?_; (with_reducible refine (spec_l1Int.calls g640 t637 t650 t651 _ _ y652 t655 t656 t657 w _ ?side1 ?side2 ?side3 ?side4 ?side5 A6.o).mono ?_); (case side1 => repeat (first | (with_reducible first | exact HI640.o | apply IsS187.alloc | apply IsS187.drewN | apply IsS187.drew | apply IsS187.set_1 | apply IsS187.set_2) | exact HI640.o)); (case side2 => repeat (first | (with_reducible first | exact HB.o | apply bA | apply bN | apply below_drew1 | refine bS ?_ (IsS187.ge HI640.o)) | exact HB.o)); (case side3 => exact Kd.qC (Kd.R_reads' HO654.o).2.2); (case side4 => exact (Kd.R_reads' HO654.o).2.1); (case side5 => exact far_slice (IsS187.own_ne HI640.o HO654.o (by decide))); rintro e w14 ⟨rfl, hi, hb, hk⟩; refine ⟨_, rfl, ?_⟩; have _ := zK (Kd.R_mono (Kd.R_keep (IsS187.apart (show IsS187 w _ g640 t637 t650 t651 from Q15) (Kd.qR HO643.o) (by decide)) hk (fun _ h => h.2)) (fun _ h => h.1)); have _ := zK (Kd.R_mono (Kd.R_keep (IsS187.apart (show IsS187 w _ g640 t637 t650 t651 from Q15) (Kd.qR HO654.o) (by decide)) hk (fun _ h => h.2)) (fun _ h => h.1)); have _ := zK (hb); have _ := zK (hi); clear HO643 HO654 HB HI640; rename_i HO643 HO654 HB HI640; (try clear hb); (try clear hb2); (try clear hk); (try clear hi)))
 refine bodyPost_ret (results_list (rs := [.tmp 2, .tmp 3, .tmp 4, .tmp 5]) rfl (by simp) (.tmp (.tmp (.tmp (.tmp .nil))))) rfl ?_
 exact ⟨_, by first | rfl | (simp [errW_none, errW_some] <;> rfl) | (simp [*, errW_none, errW_some] <;> rfl), by exact Kd.qR HO643.o, Q21⟩
/-! ### spec_DrawWriteLetter: function 58 -/
def spec_DrawWriteLetter.f (k : Nat) (l0 : List Int) : Option ((List (S81)) × Int × Int × Int) := (spec_DrawMayWrite.f k l0).bind fun bt658 => (some (bt658.1, bt658.2.1, bt658.2.2.1, bt658.2.2.2))
set_option maxHeartbeats 8000000 in
set_option maxRecDepth 100000 in
theorem spec_DrawWriteLetter.calls (k : Nat) (A0 : Option Addr) (c0 : Nat) (l0 : List Int) (r1 : List (S81)) (r2 : Int) (r3 : Int) (r4 : Int) (w : World) (hr0 : Kd.C (Kd.int .u8) w A0 l0.length l0) (hc0 : l0.length ≤ c0) (h : spec_DrawWriteLetter.f k l0 = some (r1, r2, r3, r4)) :
  Calls Try.prog 58 #[.slice A0 l0.length c0] w fun e w' => ∃ v0_ : Value, e = .returned (.tuple #[v0_, .int .i64 r2, .int .i64 r3, .int .i64 r4]) ∧ Kd.R k81 81 w' w.heap.size (fun _ => True) v0_ r1 ∧ Below w.heap.size w w' := by
 have HR0 := zK hr0
 have HC0 := zK hc0
 clear hr0 hc0
 have HB := zK (Below.refl w.heap.size w)
 have H : ((spec_DrawMayWrite.f k l0).bind fun bt658 => (some (bt658.1, bt658.2.1, bt658.2.2.1, bt658.2.2.2))) = some (r1, r2, r3, r4) := h
 clear h
 replace H := Option.bind_eq_some_iff.mp H
 obtain ⟨⟨t658, t659, t660, t661⟩, A20, H⟩ := H
 try dsimp only at H
 have A2 := zK A20
 clear A20
 simp only [Option.some.injEq, Prod.mk.injEq] at H
 obtain ⟨rfl, rfl, rfl, rfl⟩ := H
 go_enter Try.func58, Try.ntmps58
 go_wp2_with (first | ((with_reducible refine gate_callee (f := 124) rfl ?_); refine goesL_ (some 7) rfl rfl Try.func124 (by kernel_rfl) rfl #[.slice A0 l0.length c0] rfl M0 ?_; (with_reducible refine (spec_DrawMayWrite.calls k _ _ l0 t658 t659 t660 t661 _ ?side1 ?side2 A2.o).mono ?_); (case side1 => exact Kd.qC HR0.o); (case side2 => exact HC0.o); rintro e w3 ⟨v662, rfl, ho0, hb⟩; refine ⟨_, rfl, ?_⟩; have _ := zK (Kd.R_lower ho0 (bZ (qB HB.o))); have _ := zK (bT (qB HB.o) hb); clear HB; rename_i HO663 HB; (try clear hb); (try clear hb2); (try clear hk); (try clear hi); (try clear ho0)))
 refine bodyPost_ret (results_list (rs := [.tmp 2, .tmp 3, .tmp 4, .tmp 5]) rfl (by simp) (.tmp (.tmp (.tmp (.tmp .nil))))) rfl ?_
 exact ⟨_, by first | rfl | (simp [errW_none, errW_some] <;> rfl) | (simp [*, errW_none, errW_some] <;> rfl), by exact Kd.qR HO663.o, by exact qB HB.o⟩
/-! ### impl_LastLetter: function 61 -/
def impl_LastLetter.l0 : Nat → Int → Int → List (S81) → Int → Int → Option (Int)
 | 0, _, _, _, _, _ => none
 | k + 1, x1, x5, x8, x9, x10 => if x10 < x9 then (if 0 ≤ x10 then (if x10 < (x8.length : Int) then (if ((rd_T81 x8 x10).f0) = x1 then (impl_LastLetter.l0 k x1 ((rd_T81 x8 x10).f2) x8 x9 (wrap64 (x10 + 1))) else (impl_LastLetter.l0 k x1 x5 x8 x9 (wrap64 (x10 + 1)))) else (none)) else (none)) else (some x5)
def impl_LastLetter.f (k : Nat) (l0 : List (S81)) (a1 : Int) : Option (Int) := impl_LastLetter.l0 k a1 (-1) l0 (l0.length : Int) 0
set_option maxHeartbeats 8000000 in
set_option maxRecDepth 100000 in
theorem impl_LastLetter.calls (k : Nat) (A0 : Option Addr) (c0 : Nat) (l0 : List (S81)) (a1 : Int) (r : Int) (w : World) (hr0 : Kd.C k81 w A0 l0.length l0) (hc0 : l0.length ≤ c0) (h : impl_LastLetter.f k l0 a1 = some r) :
  Calls Try.prog 61 #[.slice A0 l0.length c0, .int .i64 a1] w fun e w' => e = .returned (.int .i64 r) ∧ Below w.heap.size w w' := by
 have hu81 := Try.underlying81
 have HR0 := zK hr0
 have HC0 := zK hc0
 clear hr0 hc0
 have HB := zK (Below.refl w.heap.size w)
 have H : (impl_LastLetter.l0 k a1 (-1) l0 (l0.length : Int) 0) = some r := h
 clear h
 have H' := zK H
 clear H
 go_enter Try.func61, Try.ntmps61
 go_wp2
 go_loopg [5, 10] k (fun kq v5 v10 w' => ∃ (x5_1 : Int) (x10_1 : Int), v5 = .int .i64 x5_1 ∧ v10 = .int .i64 x10_1 ∧ Aside0 (impl_LastLetter.l0 kq a1 x5_1 l0 (l0.length : Int) x10_1 = some r) ∧ Aside0 (kq ≤ k) ∧ Aside0 (Below w.heap.size w w'))
 case atStart => exact ⟨((-1)), (0), M7, M7, H', ⟨Nat.le_refl _⟩, ⟨by exact qB HB.o⟩⟩
 case round =>
  clear H'
  try clear p2
  obtain ⟨x5_1, x10_1, rfl, rfl, HA, HK1, HB⟩ := hrel
  cases gk with
  | zero => exact absurd HA.o (by simp [impl_LastLetter.l0])
  | succ k1 =>
   have H := HA.o
   clear HA
   simp only [impl_LastLetter.l0] at H
   by_cases c3 : x10_1 < (l0.length : Int)
   rotate_left
   ·rw [if_neg c3] at H
    have c3b0 : decide (x10_1 < (l0.length : Int)) = false := decide_eq_false c3
    clear c3
    obtain rfl := Option.some.inj H
    go_wp2
    go_ret
    exact ⟨by first | rfl | (simp [errW_none, errW_some] <;> rfl) | (simp [*, errW_none, errW_some] <;> rfl), by exact qB HB.o⟩

   rw [if_pos c3] at H
   have c3b0 : decide (x10_1 < (l0.length : Int)) = true := decide_eq_true c3
   clear c3
   by_cases c4 : 0 ≤ x10_1
   rotate_left
   ·rw [if_neg c4] at H
    exact absurd H (by simp)
   rw [if_pos c4] at H
   have c4b0 : decide (0 ≤ x10_1) = true := decide_eq_true c4
   clear c4
   by_cases c5 : x10_1 < (l0.length : Int)
   rotate_left
   ·rw [if_neg c5] at H
    exact absurd H (by simp)
   rw [if_pos c5] at H
   have c5b0 : decide (x10_1 < (l0.length : Int)) = true := decide_eq_true c5
   clear c5
   by_cases c6 : ((rd_T81 l0 x10_1).f0) = a1
   rotate_left
   ·rw [if_neg c6] at H
    have c6b0 : (((rd_T81 l0 x10_1).f0) == a1) = false := beq_eq_false_iff_ne.mpr c6
    have c6b1 : (((rd_T81 l0 x10_1).f0) != a1) = true := bne_iff_ne.mpr c6
    have H' := zK H
    clear H
    have p664 : 0 ≤ (x10_1 : Int) := oD M3
    have q664 : x10_1 < (l0.length : Int) := oD M3
    obtain ⟨ad664, e664, hx664_0, hx664_1, hx664_2⟩ := at_T81 HR0.o x10_1 p664 q664
    cases e664
    replace hx664_0 := cB HB.o hx664_0
    replace hx664_1 := cB HB.o hx664_1
    replace hx664_2 := cB HB.o hx664_2
    replace p664 := eq_true p664
    replace q664 := eq_true q664
    go_wp2_with (first | ((with_reducible refine gate_dst (N := 7) rfl ?_); refine box_event ?hg (N := 7) ?hd (cs := #[.int .i64 0, .int .i64 0, .int .i64 0]) (t := 81) ?hr ?_; (case hd => rfl); (case hg => rfl); (case hr => first | (go_simp; done) | (go_simp; rfl)); intro gb665 hg w9 hbox hb; have _ := zK (bT (qB HB.o) hb); have _ := zK (hbox); have _ := zK ((by rw [hg]; exact (bZ (qB HB.o)) : w.heap.size ≤ gb665)); have _ := zK ((by rw [hg]; exact (bZ (qB HB.o)) : w.heap.size ≤ gb665)); clear HB; rename_i HB BK665 GW665 GE665; clear hb hbox hg; obtain ⟨hcz10_0, hcz10_1, hcz10_2, hfz10_0, hfz10_1, hfz10_2⟩ := bx3 BK665.o))
    go_roundg k1
    case measure => have := HK1.o; omega
    case rel => exact ⟨(x5_1), (wrap64 (x10_1 + 1)), M7, M7, H', ⟨by have := HK1.o; omega⟩, ⟨by exact qX HB.o⟩⟩
   rw [if_pos c6] at H
   have c6b0 : (((rd_T81 l0 x10_1).f0) == a1) = true := beq_iff_eq.mpr c6
   have c6b1 : (((rd_T81 l0 x10_1).f0) != a1) = false := bne_eq_false_iff_eq.mpr c6
   clear c6
   have H' := zK H
   clear H
   have p664 : 0 ≤ (x10_1 : Int) := oD M3
   have q664 : x10_1 < (l0.length : Int) := oD M3
   obtain ⟨ad664, e664, hx664_0, hx664_1, hx664_2⟩ := at_T81 HR0.o x10_1 p664 q664
   cases e664
   replace hx664_0 := cB HB.o hx664_0
   replace hx664_1 := cB HB.o hx664_1
   replace hx664_2 := cB HB.o hx664_2
   replace p664 := eq_true p664
   replace q664 := eq_true q664
   go_wp2_with (first | ((with_reducible refine gate_dst (N := 7) rfl ?_); refine box_event ?hg (N := 7) ?hd (cs := #[.int .i64 0, .int .i64 0, .int .i64 0]) (t := 81) ?hr ?_; (case hd => rfl); (case hg => rfl); (case hr => first | (go_simp; done) | (go_simp; rfl)); intro gb665 hg w7 hbox hb; have _ := zK (bT (qB HB.o) hb); have _ := zK (hbox); have _ := zK ((by rw [hg]; exact (bZ (qB HB.o)) : w.heap.size ≤ gb665)); have _ := zK ((by rw [hg]; exact (bZ (qB HB.o)) : w.heap.size ≤ gb665)); clear HB; rename_i HB BK665 GW665 GE665; clear hb hbox hg; obtain ⟨hcz8_0, hcz8_1, hcz8_2, hfz8_0, hfz8_1, hfz8_2⟩ := bx3 BK665.o))
   go_roundg k1
   case measure => have := HK1.o; omega
   case rel => exact ⟨((rd_T81 l0 x10_1).f2), (wrap64 (x10_1 + 1)), M7, M7, H', ⟨by have := HK1.o; omega⟩, ⟨by exact qX HB.o⟩⟩
end Go.Proofs.Ytpkdbkheggfkkaa.PFnLetters
