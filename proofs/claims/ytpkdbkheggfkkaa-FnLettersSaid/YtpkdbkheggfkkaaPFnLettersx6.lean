/- Walks of functions that FnLetters reaches, shortened. -/
import Derived.Test.YtpkdbkheggfkkaaPFnLettersx0
import Derived.Test.YtpkdbkheggfkkaaPFnLettersx1
import Derived.Test.YtpkdbkheggfkkaaPFnLettersx3
import Derived.Test.YtpkdbkheggfkkaaPFnLettersx4
import Derived.Test.YtpkdbkheggfkkaaPFnLettersx5
namespace Go.Proofs.Ytpkdbkheggfkkaa.PFnLetters
open Go.RowKit Go.Proofs.YtpkdbkheggfkkaaW.PrintWords Go.Proofs.YtpkdbkheggfkkaaW.PrintLast Go.Proofs.YtpkdbkheggfkkaaW.PrintMore
attribute [local go_sem] max2_int min2_int max_two min_two max_three min_three max_four min_four
set_option linter.unusedVariables false
set_option linter.unusedSimpArgs false

abbrev b6A0 : Array Bool := #[O, O, O, O, O, O, O, O, O, O, O, O, O, O, O, O, O, O]
abbrev b6A1 : Array Bool := #[I, O, O, O, O, O, O, O, O, O, O, O, O, O, O, O, O, O]
abbrev b6A2 : Array Bool := #[I, I, O, O, O, O, O, O, O, O, O, O, O, O, O, O, O, O]
abbrev b6A3 : Array Bool := #[I, I, I, O, O, O, O, O, O, O, O, O, O, O, O, O, O, O]
abbrev b6A4 : Array Bool := #[I, I, I, I, O, O, O, O, O, O, O, O, O, O, O, O, O, O]
abbrev b6A5 : Array Bool := #[I, I, I, I, I, O, O, O, O, O, O, O, O, O, O, O, O, O]
abbrev b6A6 : Array Bool := #[I, I, I, I, I, I, O, O, O, O, O, O, O, O, O, O, O, O]
abbrev b6A7 : Array Bool := #[I, I, I, I, I, I, I, O, O, O, O, O, O, O, O, O, O, O]
abbrev b6A8 : Array Bool := #[I, I, I, I, I, I, I, O, O, O, I, O, O, O, O, O, O, O]
abbrev b6A9 : Array Bool := #[I, I, I, I, I, I, I, O, O, O, I, I, O, O, O, O, O, O]
abbrev b6A10 : Array Bool := #[I, I, I, I, I, I, I, O, O, O, I, I, I, O, O, O, O, O]
abbrev b6A11 : Array Bool := #[I, I, I, I, I, I, I, O, O, O, I, I, I, I, O, O, O, O]
abbrev b6A12 : Array Bool := #[I, I, I, I, I, I, I, O, O, O, I, I, I, I, I, O, O, O]
abbrev b6A13 : Array Bool := #[I, I, I, I, I, I, I, I, O, O, I, I, I, I, I, O, O, O]
abbrev b6A14 : Array Bool := #[I, I, I, I, I, I, I, I, I, O, I, I, I, I, I, O, O, O]
abbrev b6A15 : Array Bool := #[I, I, I, I, I, I, I, I, I, I, I, I, I, I, I, O, O, O]
abbrev b6A16 : Array Bool := #[I, I, I, I, I, I, I, I, I, I, I, I, I, I, I, I, O, O]
abbrev b6A17 : Array Bool := #[I, I, I, I, I, I, I, I, I, I, I, I, I, I, I, I, I, O]
abbrev b6A18 : Array Bool := #[I, I, I, I, I, I, I, I, I, I, I, I, I, I, I, I, I, I]
/-! ### spec_DrawLettersFor: function 51 -/
mutual
def spec_DrawLettersFor.l0 : Nat → List (S81) → List (S126) → List (S87) → Int → List Int → Int → Int → Option ((List (S81)) × (List (S87)) × (List (S126)) × Int)
 | 0, _, _, _, _, _, _, _ => none
 | k + 1, x7, x8, x9, x10, x473000, x473001, x473002 => if x10 < (x9.length : Int) then (spec_DrawLettersFor.j1 k x7 x8 x9 x10 (decide ((x8.length : Int) > 0)) x473000 x473001 x473002) else (spec_DrawLettersFor.j1 k x7 x8 x9 x10 false x473000 x473001 x473002)
def spec_DrawLettersFor.j1 : Nat → List (S81) → List (S126) → List (S87) → Int → Bool → List Int → Int → Int → Option ((List (S81)) × (List (S87)) × (List (S126)) × Int)
 | 0, _, _, _, _, _, _, _, _ => none
 | k + 1, x7, x8, x9, x10, x27, x473000, x473001, x473002 => if x27 = true then ((spec_l1Once.f x473000 x473001 x473002 3).bind fun bt494 => (if bt494.1 = true then (spec_DrawLettersFor.l0 k x7 x8 x9 (wrap64 (x10 + 1)) x473000 bt494.2.1 bt494.2.2) else ((spec_l1Below.f x473000 bt494.2.1 bt494.2.2 (x8.length : Int)).bind fun bt497 => (if 0 ≤ bt497.1 then (if bt497.1 < (x8.length : Int) then (if 0 ≤ x10 then (if x10 < (x9.length : Int) then ((spec_l8For.f k x473000 bt497.2.1 bt497.2.2 ((rd_T126 x8 bt497.1).f0.f0) ((rd_T126 x8 bt497.1).f0.f1) ((rd_T126 x8 bt497.1).f0.f2) ((rd_T126 x8 bt497.1).f0.f3) ((rd_T126 x8 bt497.1).f0.f4) ((rd_T126 x8 bt497.1).f1) ((rd_T126 x8 bt497.1).f2) ((rd_T126 x8 bt497.1).f3) ((rd_T87 x9 x10).f0)).bind fun bt502 => (spec_DrawLettersFor.l0 k x7 x8 (x9.set (x10 : Int).toNat (⟨bt502.1, bt502.2.1, bt502.2.2.1, bt502.2.2.2.1, bt502.2.2.2.2.1, bt502.2.2.2.2.2.1, (⟨bt502.2.2.2.2.2.2.1, bt502.2.2.2.2.2.2.2.1⟩ : S85)⟩ : S87)) (wrap64 (x10 + 1)) x473000 bt502.2.2.2.2.2.2.2.2.1 bt502.2.2.2.2.2.2.2.2.2)) else (none)) else (none)) else (none)) else (none))))) else ((spec_l1Int.f x473000 x473001 x473002 (([0, 400, 900, 1500, 100001] : List Int))).bind fun bt491 => (some (x7, x9, x8, bt491.1)))
end
def spec_DrawLettersFor.f (k : Nat) (l0 : List Int) : Option ((List (S81)) × (List (S87)) × (List (S126)) × Int) := (spec_l1New.f k l0).bind fun bt469 => ((spec_l23Any.f k bt469.1 bt469.2.1 bt469.2.2).bind fun bt473 => ((spec_l6List.f k bt469.1 bt473.2.1 bt473.2.2).bind fun bt478 => ((spec_l7List.f k bt469.1 bt478.2.1 bt478.2.2).bind fun bt483 => (spec_DrawLettersFor.l0 k bt473.1 bt478.1 bt483.1 0 bt469.1 bt483.2.1 bt483.2.2))))
def spec_DrawLettersFor.T9 : Bool × List (List Nat × List Nat) := (true, [([], []), ([], []), ([], []), ([], []), ([], []), ([], []), ([5], [5]), ([4, 6], [4, 6]), ([3, 7], [3, 7]), ([8], [8]), ([], []), ([], []), ([10, 11], [10, 11]), ([12], [12]), ([13], [13]), ([2, 9, 14, 7], [2, 9, 14]), ([0, 1, 0, 1, 2, 3, 4, 5, 6, 7, 8, 9, 10, 11, 12, 13, 14, 15], [0, 1]), ([16, 15, 15, 0, 1, 2, 3, 4, 5, 6, 7, 8, 9, 10, 11, 12, 13, 14, 15], [15, 16])])
def spec_DrawLettersFor.B9 : List Nat := [0, 0, 0, 0, 0, 0, 32, 112, 248, 504, 0, 0, 3072, 7168, 15360, 32764, 65535, 131071]
theorem spec_DrawLettersFor.tab9 : rtab .any (opsOf Try.f51 9) = spec_DrawLettersFor.T9 := by kernel_rfl
theorem spec_DrawLettersFor.bits9 : waitsOk spec_DrawLettersFor.T9.2 spec_DrawLettersFor.B9 = true := by kernel_rfl
set_option maxHeartbeats 8000000 in
set_option maxRecDepth 100000 in
theorem spec_DrawLettersFor.calls (k : Nat) (A0 : Option Addr) (c0 : Nat) (l0 : List Int) (r1 : List (S81)) (r2 : List (S87)) (r3 : List (S126)) (r4 : Int) (w : World) (hr0 : Kd.C (Kd.int .u8) w A0 l0.length l0) (hc0 : l0.length ≤ c0) (h : spec_DrawLettersFor.f k l0 = some (r1, r2, r3, r4)) :
  Calls Try.prog 51 #[.slice A0 l0.length c0] w fun e w' => ∃ v0_ v1_ v2_ : Value, e = .returned (.tuple #[v0_, v1_, v2_, .int .i64 r4]) ∧ Kd.R k81 81 w' w.heap.size (fun k_ => (w.heap.size ≤ k_)) v0_ r1 ∧ Kd.N k87 87 w' w.heap.size (fun k_ => (w.heap.size ≤ k_) ∧ some k_ ≠ (v0_ : Value).ownBlock ∧ some k_ ≠ (v2_ : Value).ownBlock) v1_ r2 ∧ Kd.R k126 126 w' w.heap.size (fun k_ => (w.heap.size ≤ k_)) v2_ r3 ∧ Below w.heap.size w w' := by
 have hu126 := Try.underlying126
 have hu87 := Try.underlying87
 have HR0 := zK hr0
 have HC0 := zK hc0
 clear hr0 hc0
 have HB := zK (Below.refl w.heap.size w)
 have H : ((spec_l1New.f k l0).bind fun bt469 => ((spec_l23Any.f k bt469.1 bt469.2.1 bt469.2.2).bind fun bt473 => ((spec_l6List.f k bt469.1 bt473.2.1 bt473.2.2).bind fun bt478 => ((spec_l7List.f k bt469.1 bt478.2.1 bt478.2.2).bind fun bt483 => (spec_DrawLettersFor.l0 k bt473.1 bt478.1 bt483.1 0 bt469.1 bt483.2.1 bt483.2.2))))) = some (r1, r2, r3, r4) := h
 clear h
 replace H := Option.bind_eq_some_iff.mp H
 obtain ⟨⟨t469, t470, t471⟩, A20, H⟩ := H
 try dsimp only at H
 have A2 := zK A20
 clear A20
 replace H := Option.bind_eq_some_iff.mp H
 obtain ⟨⟨t473, t476, t477⟩, A30, H⟩ := H
 try dsimp only at H
 have A3 := zK A30
 clear A30
 replace H := Option.bind_eq_some_iff.mp H
 obtain ⟨⟨t478, t481, t482⟩, A40, H⟩ := H
 try dsimp only at H
 have A4 := zK A40
 clear A40
 replace H := Option.bind_eq_some_iff.mp H
 obtain ⟨⟨t483, t486, t487⟩, A50, H⟩ := H
 try dsimp only at H
 have A5 := zK A50
 clear A50
 have H' := zK H
 clear H
 go_enter Try.func51, Try.ntmps51
 go_wp2_with (first | ((with_reducible refine gate_callee (f := 96) rfl ?_); refine goesL_ (some 12) rfl rfl Try.func96 (by kernel_rfl) rfl #[.slice A0 l0.length c0] rfl M0 ?_; (with_reducible refine (spec_l1New.calls k _ _ l0 t469 t470 t471 w _ ?side1 ?side2 ?side3 A2.o).mono ?_); (case side1 => repeat (first | (with_reducible first | exact HB.o | apply bA | apply bN | apply below_drew1) | exact HB.o)); (case side2 => exact HR0.o); (case side3 => exact HC0.o); rintro e w6 ⟨g472, rfl, hi, hb, hb2⟩; refine ⟨_, rfl, ?_⟩; have _ := zK (hb); have _ := zK (hi); clear HB; rename_i HB HI472; (try clear hb); (try clear hb2); (try clear hk); (try clear hi)) | ((with_reducible refine gate_callee (f := 111) rfl ?_); refine goesL_ (some 14) rfl rfl Try.func111 (by kernel_rfl) rfl #[.pointer (some ⟨g472, 0, none⟩)] rfl M0 ?_; (with_reducible refine (spec_l23Any.calls k g472 t469 t470 t471 t473 t476 t477 w _ ?side1 ?side2 A3.o).mono ?_); (case side1 => repeat (first | (with_reducible first | exact HI472.o | apply IsS187.alloc | apply IsS187.drewN | apply IsS187.drew | apply IsS187.set_1 | apply IsS187.set_2) | exact HI472.o)); (case side2 => repeat (first | (with_reducible first | exact HB.o | apply bA | apply bN | apply below_drew1 | refine bS ?_ (IsS187.ge HI472.o)) | exact HB.o)); rintro e w7 ⟨v474, rfl, ho0, hi, hb, hk⟩; refine ⟨_, rfl, ?_⟩; have _ := zK (Kd.R_lower (Kd.R_newM (M := fun k_ => (w.heap.size ≤ k_)) ho0 (bZ M17) (fun k_ h_ => h_)) (bZ M17)); have _ := zK (hb); have _ := zK (hi); clear HB HI472; rename_i HO475 HB HI472; (try clear hb); (try clear hb2); (try clear hk); (try clear hi); (try clear ho0)) | ((with_reducible refine gate_callee (f := 112) rfl ?_); refine goesL_ (some 16) rfl rfl Try.func112 (by kernel_rfl) rfl #[.pointer (some ⟨g472, 0, none⟩)] rfl M0 ?_; (with_reducible refine (spec_l6List.calls k g472 t469 t476 t477 t478 t481 t482 w _ ?side1 ?side2 A4.o).mono ?_); (case side1 => repeat (first | (with_reducible first | exact HI472.o | apply IsS187.alloc | apply IsS187.drewN | apply IsS187.drew | apply IsS187.set_1 | apply IsS187.set_2) | exact HI472.o)); (case side2 => repeat (first | (with_reducible first | exact HB.o | apply bA | apply bN | apply below_drew1 | refine bS ?_ (IsS187.ge HI472.o)) | exact HB.o)); rintro e w8 ⟨v479, rfl, ho0, hi, hb, hk⟩; refine ⟨_, rfl, ?_⟩; have _ := zK (Kd.R_mono (Kd.R_keep (IsS187.apart (show IsS187 w _ g472 t469 t476 t477 from Q5) (Kd.qR HO475.o) (by decide)) hk (fun _ h => h.2)) (fun _ h => h.1)); have _ := zK (Kd.R_lower (Kd.R_newM (M := fun k_ => (w.heap.size ≤ k_)) ho0 (bZ M17) (fun k_ h_ => h_)) (bZ M17)); have _ := zK (hb); have _ := zK (hi); clear HO475 HB HI472; rename_i HO475 HO480 HB HI472; (try clear hb); (try clear hb2); (try clear hk); (try clear hi); (try clear ho0)) | ((with_reducible refine gate_callee (f := 113) rfl ?_); refine goesL_ (some 18) rfl rfl Try.func113 (by kernel_rfl) rfl #[.pointer (some ⟨g472, 0, none⟩)] rfl M0 ?_; (with_reducible refine (spec_l7List.calls k g472 t469 t481 t482 t483 t486 t487 w _ ?side1 ?side2 A5.o).mono ?_); (case side1 => repeat (first | (with_reducible first | exact HI472.o | apply IsS187.alloc | apply IsS187.drewN | apply IsS187.drew | apply IsS187.set_1 | apply IsS187.set_2) | exact HI472.o)); (case side2 => repeat (first | (with_reducible first | exact HB.o | apply bA | apply bN | apply below_drew1 | refine bS ?_ (IsS187.ge HI472.o)) | exact HB.o)); rintro e w9 ⟨v484, rfl, ho0, hi, hb, hk⟩; refine ⟨_, rfl, ?_⟩; have _ := zK (Kd.R_mono (Kd.R_keep (IsS187.apart (show IsS187 w _ g472 t469 t481 t482 from Q5) (Kd.qR HO475.o) (by decide)) hk (fun _ h => h.2)) (fun _ h => h.1)); have _ := zK (Kd.R_mono (Kd.R_keep (IsS187.apart (show IsS187 w _ g472 t469 t481 t482 from Q5) (Kd.qR HO480.o) (by decide)) hk (fun _ h => h.2)) (fun _ h => h.1)); have _ := zK (Kd.N_lower (Kd.N_mono (ok' := fun k_ => (w.heap.size ≤ k_) ∧ some k_ ≠ (v474 : Value).ownBlock ∧ some k_ ≠ (v479 : Value).ownBlock ∧ k_ ≠ g472) (Kd.S_N (Kd.S_bound ho0)) (fun k_ hk_ => ⟨(Nat.le_trans (bZ M17) hk_.2.1), (Kd.fresh' (Kd.R_lt (Kd.qR HO475.o)) k_ hk_.2.1), (Kd.fresh' (Kd.R_lt (Kd.qR HO480.o)) k_ hk_.2.1), (IsS187.fresh (Q5) k_ hk_.2.1)⟩)) (bZ M17)); have _ := zK (hb); have _ := zK (hi); clear HO475 HO480 HB HI472; rename_i HO475 HO480 HO485 HB HI472; (try clear hb); (try clear hb2); (try clear hk); (try clear hi); (try clear ho0)))
 go_loopg [10] k (fun kq v10 w' => ∃ (x9_1 : List (S87)) (x10_1 : Int) (x473001_1 : Int) (x473002_1 : Int), v10 = .int .i64 x10_1 ∧ Aside0 (spec_DrawLettersFor.l0 kq t473 t478 x9_1 x10_1 t469 x473001_1 x473002_1 = some (r1, r2, r3, r4)) ∧ Aside0 (kq ≤ k) ∧ Aside0 (Kd.R k81 81 w' w.heap.size (fun k_ => (w.heap.size ≤ k_)) v474 t473) ∧ Aside0 (Kd.R k126 126 w' w.heap.size (fun k_ => (w.heap.size ≤ k_)) v479 t478) ∧ Aside0 (Kd.N k87 87 w' w.heap.size (fun k_ => (w.heap.size ≤ k_) ∧ some k_ ≠ (v474 : Value).ownBlock ∧ some k_ ≠ (v479 : Value).ownBlock ∧ k_ ≠ g472) v484 x9_1) ∧ Aside0 (IsS187 w w' g472 t469 x473001_1 x473002_1) ∧ Aside0 (Below w.heap.size w w'))
 case atStart => exact ⟨(t483), (0), (t486), (t487), M7, H', ⟨Nat.le_refl _⟩, ⟨by (with_reducible repeat (first | apply Kd.RA | apply Kd.RN | apply Kd.RD)); exact Kd.R_mono HO475.o (fun _ hk => hk.1)⟩, ⟨by (with_reducible repeat (first | apply Kd.RA | apply Kd.RN | apply Kd.RD)); exact Kd.R_mono HO480.o (fun _ hk => hk.1)⟩, ⟨by (with_reducible repeat (first | apply Kd.N_alloc | apply Kd.N_drewN | apply Kd.N_drew)); exact HO485.o⟩, ⟨Q5⟩, ⟨Q16⟩⟩
 case round =>
  clear H'
  try clear c1
  try clear p2
  try clear c5
  try clear c9
  obtain ⟨x9_1, x10_1, x473001_1, x473002_1, rfl, HA, HK1, HO_7, HO_8, HO_9, HI472, HB⟩ := hrel
  cases gk with
  | zero => exact absurd HA.o (by simp [spec_DrawLettersFor.l0])
  | succ k1 =>
   have H := HA.o
   clear HA
   simp only [spec_DrawLettersFor.l0] at H
   have HC10 := zK H
   clear H
   go_upto_region 6 with (fail)
   go_cut [27] (fun v27 wc => ∃ (kq : Nat) (x27_9 : Bool), v27 = .bool x27_9 ∧ Aside0 (spec_DrawLettersFor.j1 kq t473 t478 x9_1 x10_1 x27_9 t469 x473001_1 x473002_1 = some (r1, r2, r3, r4)) ∧ Aside0 (kq ≤ k1) ∧ Aside0 (Kd.R k81 81 wc w.heap.size (fun k_ => (w.heap.size ≤ k_)) v474 t473) ∧ Aside0 (Kd.R k126 126 wc w.heap.size (fun k_ => (w.heap.size ≤ k_)) v479 t478) ∧ Aside0 (Kd.N k87 87 wc w.heap.size (fun k_ => (w.heap.size ≤ k_) ∧ some k_ ≠ (v474 : Value).ownBlock ∧ some k_ ≠ (v479 : Value).ownBlock ∧ k_ ≠ g472) v484 x9_1) ∧ Aside0 (IsS187 w wc g472 t469 x473001_1 x473002_1) ∧ Aside0 (Below w.heap.size w wc))
   case first =>
    have H := HC10.o
    clear HC10
    by_cases c11 : x10_1 < (x9_1.length : Int)
    rotate_left
    ·rw [if_neg c11] at H
     have c11b0 : decide (x10_1 < (x9_1.length : Int)) = false := decide_eq_false c11
     clear c11
     (first | rw [c11b0] | rw [c11b1] | (simp only [i64_w, i32_w]; rw [c11b0]) | skip)
     have H' := zK H
     clear H
     obtain ⟨Ao14, co14, eo14⟩ := Kd.N_slice HO_9.o
     subst eo14
     go_wp2
     go_meet
     case rel => exact ⟨_, (false), M7, H', ⟨by have := HK1.o; first | omega | exact Nat.le_refl _⟩, ⟨by exact Kd.qR HO_7.o⟩, ⟨by exact Kd.qR HO_8.o⟩, ⟨by (with_reducible repeat (first | apply Kd.N_alloc | apply Kd.N_drewN | apply Kd.N_drew)); exact HO_9.o⟩, ⟨Q5⟩, ⟨Q16⟩⟩
    rw [if_pos c11] at H
    have c11b0 : decide (x10_1 < (x9_1.length : Int)) = true := decide_eq_true c11
    clear c11
    (first | rw [c11b0] | rw [c11b1] | (simp only [i64_w, i32_w]; rw [c11b0]) | skip)
    have H' := zK H
    clear H
    obtain ⟨Ao12, co12, eo12⟩ := Kd.N_slice HO_9.o
    subst eo12
    obtain ⟨Ao13, co13, eo13⟩ := Kd.R_slice HO_8.o
    subst eo13
    go_wp2
    go_meet
    case rel => exact ⟨_, (decide ((t478.length : Int) > 0)), M7, H', ⟨by have := HK1.o; first | omega | exact Nat.le_refl _⟩, ⟨by exact Kd.qR HO_7.o⟩, ⟨by exact Kd.qR HO_8.o⟩, ⟨by (with_reducible repeat (first | apply Kd.N_alloc | apply Kd.N_drewN | apply Kd.N_drew)); exact HO_9.o⟩, ⟨Q5⟩, ⟨Q16⟩⟩
   case rest =>
    clear HC10
    try clear c1
    try clear p2
    try clear c5
    try clear c9
    try clear c11
    try clear c11b0
    try clear p2
    obtain ⟨kq, x27_9, rfl, HA, HJ9, HO_7, HO_8, HO_9, HI472, HB⟩ := hcut
    cases kq with
    | zero => exact absurd HA.o (by simp [spec_DrawLettersFor.j1])
    | succ kj9 =>
     have H := HA.o
     clear HA
     simp only [spec_DrawLettersFor.j1] at H
     by_cases c15 : x27_9 = true
     rotate_left
     ·replace c15 := Bool.eq_false_iff.mpr c15
      subst c15
      have H1 : ((spec_l1Int.f t469 x473001_1 x473002_1 (([0, 400, 900, 1500, 100001] : List Int))).bind fun bt491 => (some (t473, x9_1, t478, bt491.1))) = some (r1, r2, r3, r4) := by rw [if_neg (show ¬ (false = true) by decide)] at H; exact H
      clear H
      have H := H1
      clear H1
      obtain ⟨y488, hy488⟩ : ∃ y_ : List Int, y_ = (([0, 400, 900, 1500, 100001] : List Int)) := ⟨_, rfl⟩
      replace H : ((spec_l1Int.f t469 x473001_1 x473002_1 y488).bind fun bt491 => (some (t473, x9_1, t478, bt491.1))) = some (r1, r2, r3, r4) := by first | (rw [hy488]; with_reducible exact H) | (have H2_ := (Option.bind_some _ _).symm.trans H; rw [hy488]; with_reducible exact H2_) | (have H2_ := (Option.bind_some _ _).symm.trans H; with_reducible exact H2_) | with_reducible exact H | (rw [hy488]; exact H) | exact H
      have Ny488 := zK hy488
      clear hy488
      replace H := Option.bind_eq_some_iff.mp H
      obtain ⟨⟨t491, t492, t493⟩, A330, H⟩ := H
      try dsimp only at H
      have A33 := zK A330
      clear A330
      simp only [Option.some.injEq, Prod.mk.injEq] at H
      obtain ⟨rfl, rfl, rfl, rfl⟩ := H
      go_wp2_with (first | ((with_reducible refine gate_dst (N := 54) rfl ?_); (try (refine gate_guard (by rfl) ?_; dsimp only)); refine Kd.R_lit (Kd.int .i64) _ 3 ?hg (N := 54) ?hd (xs := ([0, 400, 900, 1500, 100001] : List Int)) (inner := [.int .i64 0, .int .i64 400, .int .i64 900, .int .i64 1500, .int .i64 100001]) (ok := fun _ => True) (okp := fun _ => True) ?hr ?hp (fun _ hk => hk) trivial (Below.refl _ _) (Nat.le_refl _) (by simp) ?_; (case hd => rfl); (case hg => rfl); (case hr => first | (go_simp; done) | (go_simp; rfl)); (case hp => exact (Reps.one (show Kd.M (Kd.int .i64) _ _ _ 0 [.int .i64 0] from rfl) (Reps.one (show Kd.M (Kd.int .i64) _ _ _ 400 [.int .i64 400] from rfl) (Reps.one (show Kd.M (Kd.int .i64) _ _ _ 900 [.int .i64 900] from rfl) (Reps.one (show Kd.M (Kd.int .i64) _ _ _ 1500 [.int .i64 1500] from rfl) (Reps.one (show Kd.M (Kd.int .i64) _ _ _ 100001 [.int .i64 100001] from rfl) (Reps.none _ _))))))); intro v489 w34 ho35 hb hg_ hnew_; clear hg_ hnew_; (first | rw [← Ny488.o] at ho35 | (simp only [Int.reduceToNat] at ho35; rw [← Ny488.o] at ho35)); have _ := zK (Kd.R_below (Kd.qR HO_7.o) hb); have _ := zK (Kd.R_below (Kd.qR HO_8.o) hb); have _ := zK (Kd.N_elder' M48 (Kd.R_base ho35) hb); have _ := zK (Kd.R_lower (Kd.R_newM (M := fun k_ => (w.heap.size ≤ k_)) ho35 (bZ M17) (fun k_ h_ => h_)) (bZ M17)); have _ := zK (IsS187.below (Q5) hb); have _ := zK (bT M17 hb); clear HO_7 HO_8 HO_9 HI472 HB; rename_i HO_7 HO_8 HO_9 HO490 HI472 HB; clear hb ho35; obtain ⟨Ao36, co36, eo36⟩ := Kd.R_slice HO490.o; subst eo36) | ((with_reducible refine gate_callee (f := 99) rfl ?_); refine goesL_ (some 55) rfl rfl Try.func99 (by kernel_rfl) rfl #[.pointer (some ⟨g472, 0, none⟩), .slice Ao36 y488.length co36] rfl M0 ?_; (with_reducible refine (spec_l1Int.calls g472 t469 x473001_1 x473002_1 _ _ y488 t491 t492 t493 w _ ?side1 ?side2 ?side3 ?side4 ?side5 A33.o).mono ?_); (case side1 => repeat (first | (with_reducible first | exact HI472.o | apply IsS187.alloc | apply IsS187.drewN | apply IsS187.drew | apply IsS187.set_1 | apply IsS187.set_2) | exact HI472.o)); (case side2 => repeat (first | (with_reducible first | exact HB.o | apply bA | apply bN | apply below_drew1 | refine bS ?_ (IsS187.ge HI472.o)) | exact HB.o)); (case side3 => exact Kd.qC (Kd.R_reads' HO490.o).2.2); (case side4 => exact (Kd.R_reads' HO490.o).2.1); (case side5 => exact far_slice (IsS187.own_ne HI472.o HO490.o (by decide))); rintro e w37 ⟨rfl, hi, hb, hk⟩; refine ⟨_, rfl, ?_⟩; have _ := zK (Kd.R_mono (Kd.R_keep (IsS187.apart (show IsS187 w _ g472 t469 x473001_1 x473002_1 from Q5) (Kd.qR HO_7.o) (by decide)) hk (fun _ h => h.2)) (fun _ h => h.1)); have _ := zK (Kd.R_mono (Kd.R_keep (IsS187.apart (show IsS187 w _ g472 t469 x473001_1 x473002_1 from Q5) (Kd.qR HO_8.o) (by decide)) hk (fun _ h => h.2)) (fun _ h => h.1)); have _ := zK (Kd.N_mono (Kd.N_keep (Kd.N_mono (ok := fun k_ => ((((w.heap.size ≤ k_)) ∧ (some k_ ≠ (v474 : Value).ownBlock ∧ (some k_ ≠ (v479 : Value).ownBlock ∧ k_ ≠ g472))) ∧ some k_ ≠ (.slice Ao36 y488.length co36 : Value).ownBlock)) M48 (fun k_ hk_ => (⟨hk_, hk_.1.2.2.2⟩ : _ ∧ k_ ≠ g472))) hk (fun _ h => h.2)) (fun _ h => h.1)); have _ := zK (Kd.R_mono (Kd.R_keep (IsS187.apart (show IsS187 w _ g472 t469 x473001_1 x473002_1 from Q5) (Kd.qR HO490.o) (by decide)) hk (fun _ h => h.2)) (fun _ h => h.1)); have _ := zK (hb); have _ := zK (hi); clear HO_7 HO_8 HO_9 HO490 HB HI472; rename_i HO_7 HO_8 HO_9 HO490 HB HI472; (try clear hb); (try clear hb2); (try clear hk); (try clear hi)))
      refine bodyPost_ret (results_list (rs := [.tmp 2, .tmp 3, .tmp 4, .tmp 5]) rfl (by simp) (.tmp (.tmp (.tmp (.tmp .nil))))) rfl ?_
      exact ⟨_, _, _, by first | rfl | (simp [errW_none, errW_some] <;> rfl) | (simp [*, errW_none, errW_some] <;> rfl), by exact Kd.qR HO_7.o, by (with_reducible repeat (first | apply Kd.N_alloc | apply Kd.N_drewN | apply Kd.N_drew)); exact Kd.N_mono HO_9.o (fun _ hk => ⟨hk.1.1, ⟨hk.1.2.1, hk.1.2.2.1⟩⟩), by exact Kd.qR HO_8.o, Q16⟩
     subst c15
     have H1 : ((spec_l1Once.f t469 x473001_1 x473002_1 3).bind fun bt494 => (if bt494.1 = true then (spec_DrawLettersFor.l0 kj9 t473 t478 x9_1 (wrap64 (x10_1 + 1)) t469 bt494.2.1 bt494.2.2) else ((spec_l1Below.f t469 bt494.2.1 bt494.2.2 (t478.length : Int)).bind fun bt497 => (if 0 ≤ bt497.1 then (if bt497.1 < (t478.length : Int) then (if 0 ≤ x10_1 then (if x10_1 < (x9_1.length : Int) then ((spec_l8For.f kj9 t469 bt497.2.1 bt497.2.2 ((rd_T126 t478 bt497.1).f0.f0) ((rd_T126 t478 bt497.1).f0.f1) ((rd_T126 t478 bt497.1).f0.f2) ((rd_T126 t478 bt497.1).f0.f3) ((rd_T126 t478 bt497.1).f0.f4) ((rd_T126 t478 bt497.1).f1) ((rd_T126 t478 bt497.1).f2) ((rd_T126 t478 bt497.1).f3) ((rd_T87 x9_1 x10_1).f0)).bind fun bt502 => (spec_DrawLettersFor.l0 kj9 t473 t478 (x9_1.set (x10_1 : Int).toNat (⟨bt502.1, bt502.2.1, bt502.2.2.1, bt502.2.2.2.1, bt502.2.2.2.2.1, bt502.2.2.2.2.2.1, (⟨bt502.2.2.2.2.2.2.1, bt502.2.2.2.2.2.2.2.1⟩ : S85)⟩ : S87)) (wrap64 (x10_1 + 1)) t469 bt502.2.2.2.2.2.2.2.2.1 bt502.2.2.2.2.2.2.2.2.2)) else (none)) else (none)) else (none)) else (none))))) = some (r1, r2, r3, r4) := by rw [if_pos rfl] at H; exact H
     clear H
     have H := H1
     clear H1
     replace H := Option.bind_eq_some_iff.mp H
     obtain ⟨⟨t494, t495, t496⟩, A160, H⟩ := H
     try dsimp only at H
     have A16 := zK A160
     clear A160
     by_cases c17 : t494 = true
     ·subst c17
      have H1 : (spec_DrawLettersFor.l0 kj9 t473 t478 x9_1 (wrap64 (x10_1 + 1)) t469 t495 t496) = some (r1, r2, r3, r4) := by rw [if_pos rfl] at H; exact H
      clear H
      have H := H1
      clear H1
      have H' := zK H
      clear H
      go_wp2_with (first | ((with_reducible refine gate_callee (f := 114) rfl ?_); refine goesL_ (some 31) rfl rfl Try.func114 (by kernel_rfl) rfl #[.pointer (some ⟨g472, 0, none⟩), .int .i64 3] rfl M0 ?_; (with_reducible refine (spec_l1Once.calls g472 t469 x473001_1 x473002_1 3 true t495 t496 w _ ?side1 ?side2 A16.o).mono ?_); (case side1 => repeat (first | (with_reducible first | exact HI472.o | apply IsS187.alloc | apply IsS187.drewN | apply IsS187.drew | apply IsS187.set_1 | apply IsS187.set_2) | exact HI472.o)); (case side2 => repeat (first | (with_reducible first | exact HB.o | apply bA | apply bN | apply below_drew1 | refine bS ?_ (IsS187.ge HI472.o)) | exact HB.o)); rintro e w18 ⟨rfl, hi, hb, hk⟩; refine ⟨_, rfl, ?_⟩; have _ := zK (Kd.R_mono (Kd.R_keep (IsS187.apart (show IsS187 w _ g472 t469 x473001_1 x473002_1 from Q5) (Kd.qR HO_7.o) (by decide)) hk (fun _ h => h.2)) (fun _ h => h.1)); have _ := zK (Kd.R_mono (Kd.R_keep (IsS187.apart (show IsS187 w _ g472 t469 x473001_1 x473002_1 from Q5) (Kd.qR HO_8.o) (by decide)) hk (fun _ h => h.2)) (fun _ h => h.1)); have _ := zK (Kd.N_mono (Kd.N_keep (Kd.N_mono (ok := fun k_ => (((w.heap.size ≤ k_)) ∧ (some k_ ≠ (v474 : Value).ownBlock ∧ (some k_ ≠ (v479 : Value).ownBlock ∧ k_ ≠ g472)))) M48 (fun k_ hk_ => (⟨hk_, hk_.2.2.2⟩ : _ ∧ k_ ≠ g472))) hk (fun _ h => h.2)) (fun _ h => h.1)); have _ := zK (hb); have _ := zK (hi); clear HO_7 HO_8 HO_9 HB HI472; rename_i HO_7 HO_8 HO_9 HB HI472; (try clear hb); (try clear hb2); (try clear hk); (try clear hi)))
      go_roundg kj9
      case measure => have := HK1.o; have := HJ9.o; omega
      case rel => exact ⟨(x9_1), (wrap64 (x10_1 + 1)), (t495), (t496), M7, H', ⟨by have := HK1.o; have := HJ9.o; omega⟩, ⟨by exact Kd.qR HO_7.o⟩, ⟨by exact Kd.qR HO_8.o⟩, ⟨by (with_reducible repeat (first | apply Kd.N_alloc | apply Kd.N_drewN | apply Kd.N_drew)); exact HO_9.o⟩, ⟨Q5⟩, ⟨Q16⟩⟩
     replace c17 := Bool.eq_false_iff.mpr c17
     subst c17
     have H1 : ((spec_l1Below.f t469 t495 t496 (t478.length : Int)).bind fun bt497 => (if 0 ≤ bt497.1 then (if bt497.1 < (t478.length : Int) then (if 0 ≤ x10_1 then (if x10_1 < (x9_1.length : Int) then ((spec_l8For.f kj9 t469 bt497.2.1 bt497.2.2 ((rd_T126 t478 bt497.1).f0.f0) ((rd_T126 t478 bt497.1).f0.f1) ((rd_T126 t478 bt497.1).f0.f2) ((rd_T126 t478 bt497.1).f0.f3) ((rd_T126 t478 bt497.1).f0.f4) ((rd_T126 t478 bt497.1).f1) ((rd_T126 t478 bt497.1).f2) ((rd_T126 t478 bt497.1).f3) ((rd_T87 x9_1 x10_1).f0)).bind fun bt502 => (spec_DrawLettersFor.l0 kj9 t473 t478 (x9_1.set (x10_1 : Int).toNat (⟨bt502.1, bt502.2.1, bt502.2.2.1, bt502.2.2.2.1, bt502.2.2.2.2.1, bt502.2.2.2.2.2.1, (⟨bt502.2.2.2.2.2.2.1, bt502.2.2.2.2.2.2.2.1⟩ : S85)⟩ : S87)) (wrap64 (x10_1 + 1)) t469 bt502.2.2.2.2.2.2.2.2.1 bt502.2.2.2.2.2.2.2.2.2)) else (none)) else (none)) else (none)) else (none))) = some (r1, r2, r3, r4) := by rw [if_neg (show ¬ (false = true) by decide)] at H; exact H
     clear H
     have H := H1
     clear H1
     replace H := Option.bind_eq_some_iff.mp H
     obtain ⟨⟨t497, t498, t499⟩, A190, H⟩ := H
     try dsimp only at H
     have A19 := zK A190
     clear A190
     by_cases c20 : 0 ≤ t497
     rotate_left
     ·rw [if_neg c20] at H
      exact absurd H (by simp)
     rw [if_pos c20] at H
     have c20b0 : decide (0 ≤ t497) = true := decide_eq_true c20
     clear c20
     by_cases c21 : t497 < (t478.length : Int)
     rotate_left
     ·rw [if_neg c21] at H
      exact absurd H (by simp)
     rw [if_pos c21] at H
     have c21b0 : decide (t497 < (t478.length : Int)) = true := decide_eq_true c21
     clear c21
     by_cases c22 : 0 ≤ x10_1
     rotate_left
     ·rw [if_neg c22] at H
      exact absurd H (by simp)
     rw [if_pos c22] at H
     have c22b0 : decide (0 ≤ x10_1) = true := decide_eq_true c22
     clear c22
     by_cases c23 : x10_1 < (x9_1.length : Int)
     rotate_left
     ·rw [if_neg c23] at H
      exact absurd H (by simp)
     rw [if_pos c23] at H
     have c23b0 : decide (x10_1 < (x9_1.length : Int)) = true := decide_eq_true c23
     clear c23
     replace H := Option.bind_eq_some_iff.mp H
     obtain ⟨⟨t502, t503, t504, t507, t508, t509, t512, t513, t514, t515⟩, A240, H⟩ := H
     try dsimp only at H
     have A24 := zK A240
     clear A240
     obtain ⟨y516, hy516⟩ : ∃ y_ : List (S87), y_ = (x9_1.set (x10_1 : Int).toNat (⟨t502, t503, t504, t507, t508, t509, (⟨t512, t513⟩ : S85)⟩ : S87)) := ⟨_, rfl⟩
     replace H : (spec_DrawLettersFor.l0 kj9 t473 t478 y516 (wrap64 (x10_1 + 1)) t469 t514 t515) = some (r1, r2, r3, r4) := by first | (rw [hy516]; with_reducible exact H) | (have H2_ := (Option.bind_some _ _).symm.trans H; rw [hy516]; with_reducible exact H2_) | (have H2_ := (Option.bind_some _ _).symm.trans H; with_reducible exact H2_) | with_reducible exact H | (rw [hy516]; exact H) | exact H
     have Ny516 := zK hy516
     clear hy516
     have H' := zK H
     clear H
     try go_wp2_with (first | ((with_reducible refine gate_callee (f := 114) rfl ?_); refine goesL_ (some 31) rfl rfl Try.func114 (by kernel_rfl) rfl #[.pointer (some ⟨g472, 0, none⟩), .int .i64 3] rfl M0 ?_; (with_reducible refine (spec_l1Once.calls g472 t469 x473001_1 x473002_1 3 false t495 t496 w _ ?side1 ?side2 A16.o).mono ?_); (case side1 => repeat (first | (with_reducible first | exact HI472.o | apply IsS187.alloc | apply IsS187.drewN | apply IsS187.drew | apply IsS187.set_1 | apply IsS187.set_2) | exact HI472.o)); (case side2 => repeat (first | (with_reducible first | exact HB.o | apply bA | apply bN | apply below_drew1 | refine bS ?_ (IsS187.ge HI472.o)) | exact HB.o)); rintro e w26 ⟨rfl, hi, hb, hk⟩; refine ⟨_, rfl, ?_⟩; have _ := zK (Kd.R_mono (Kd.R_keep (IsS187.apart (show IsS187 w _ g472 t469 x473001_1 x473002_1 from Q5) (Kd.qR HO_7.o) (by decide)) hk (fun _ h => h.2)) (fun _ h => h.1)); have _ := zK (Kd.R_mono (Kd.R_keep (IsS187.apart (show IsS187 w _ g472 t469 x473001_1 x473002_1 from Q5) (Kd.qR HO_8.o) (by decide)) hk (fun _ h => h.2)) (fun _ h => h.1)); have _ := zK (Kd.N_mono (Kd.N_keep (Kd.N_mono (ok := fun k_ => (((w.heap.size ≤ k_)) ∧ (some k_ ≠ (v474 : Value).ownBlock ∧ (some k_ ≠ (v479 : Value).ownBlock ∧ k_ ≠ g472)))) M48 (fun k_ hk_ => (⟨hk_, hk_.2.2.2⟩ : _ ∧ k_ ≠ g472))) hk (fun _ h => h.2)) (fun _ h => h.1)); have _ := zK (hb); have _ := zK (hi); clear HO_7 HO_8 HO_9 HB HI472; rename_i HO_7 HO_8 HO_9 HB HI472; (try clear hb); (try clear hb2); (try clear hk); (try clear hi)))
     have n0_ := zK (Kd.RD HO_7.o)
     have n1_ := zK (Kd.RD HO_8.o)
     have n2_ := zK (Kd.N_drew HO_9.o)
     have n3_ := zK (IsS187.drew HI472.o)
     have n4_ := zK (below_drew1 HB.o)
     clear HO_7
     clear HO_8
     clear HO_9
     clear HI472
     clear HB
     have HO_7 := n0_
     have HO_8 := n1_
     have HO_9 := n2_
     have HI472 := n3_
     have HB := n4_
     clear n0_ n1_ n2_ n3_ n4_
     obtain ⟨Ao28, co28, eo28⟩ := Kd.R_slice HO_8.o
     (first | subst eo28 | (injection eo28 with f1_ f2_ f3_; have f4_ := f1_.symm; have f5_ := f3_.symm; clear f1_ f2_ f3_; subst f4_; subst f5_))
     obtain ⟨Ao29, co29, eo29⟩ := Kd.N_slice HO_9.o
     (first | subst eo29 | (injection eo29 with f1_ f2_ f3_; have f4_ := f1_.symm; have f5_ := f3_.symm; clear f1_ f2_ f3_; subst f4_; subst f5_))
     have p501 : 0 ≤ (x10_1 : Int) := oD M3
     have q501 : x10_1 < (x9_1.length : Int) := oD M3
     obtain ⟨ad501, A501_2, c501_2, A501_5, c501_5, e501, hx501_0, hx501_1, hx501_2, hx501_3, hx501_4, hx501_5, hx501_6, hx501_7, hl501_2, hi501_2, hl501_5, hi501_5⟩ := at_T87 (Kd.N_reads' HO_9.o).2.2 x10_1 p501 q501
     cases e501
     obtain ⟨ce501, hce501, hMe501, hcc501⟩ := Kd.N_get HO_9.o z87 x10_1 p501 (by first | exact q501 | exact oD M3 | (have e_ := (Kd.N_reads' HO_9.o).1; omega))
     obtain ⟨ua501_2, uc501_2, ua501_5, uc501_5, rfl, ul501_2, ge501_2, ul501_5, ge501_5⟩ := k87_openF hMe501
     have hv501_2 := hcc501 2 _ rfl
     rw [add_field _ _ 2 (by omega)] at hv501_2
     replace hv501_2 := Option.some.inj (hv501_2.symm.trans hx501_2)
     injection hv501_2 with hva_ hvn_ hvc_
     rw [hva_] at ge501_2
     rw [hvc_] at ul501_2
     have HL501_2 := zK (show Kd.V (Kd.int .i64) 3 _ w.heap.size _ _ ((rd_T87 x9_1 x10_1).f2) from Kd.V_mk ul501_2 ge501_2)
     clear hva_ hvn_ hvc_ ge501_2 ul501_2
     have hv501_5 := hcc501 5 _ rfl
     rw [add_field _ _ 5 (by omega)] at hv501_5
     replace hv501_5 := Option.some.inj (hv501_5.symm.trans hx501_5)
     injection hv501_5 with hva_ hvn_ hvc_
     rw [hva_] at ge501_5
     rw [hvc_] at ul501_5
     have HL501_5 := zK (show Kd.V (Kd.int .i64) 3 _ w.heap.size _ _ ((rd_T87 x9_1 x10_1).f5) from Kd.V_mk ul501_5 ge501_5)
     clear hva_ hvn_ hvc_ ge501_5 ul501_5
     clear hcc501 hce501
     have HR501_2 := zK hi501_2
     have HC501_2 := zK hl501_2
     clear hi501_2 hl501_2
     have HR501_5 := zK hi501_5
     have HC501_5 := zK hl501_5
     clear hi501_5 hl501_5
     replace p501 := eq_true p501
     replace q501 := eq_true q501
     have p500 : 0 ≤ (t497 : Int) := oD M3
     have q500 : t497 < (t478.length : Int) := oD M3
     obtain ⟨ad500, e500, hx500_0, hx500_1, hx500_2, hx500_3, hx500_4, hx500_5, hx500_6, hx500_7⟩ := at_T126 (Kd.R_reads' HO_8.o).2.2 t497 p500 q500
     cases e500
     replace p500 := eq_true p500
     replace q500 := eq_true q500
     refine start_ (n := 18) (S := fun w' => w'.cell? (ad501.add ((x10_1).toNat * 8)) = some (.int .i64 ((rd_T87 x9_1 x10_1).f0)) ∧ w'.cell? ⟨(ad501.add ((x10_1).toNat * 8)).block, (ad501.add ((x10_1).toNat * 8)).off + 1, none⟩ = some (.int .i64 ((rd_T87 x9_1 x10_1).f1)) ∧ w'.cell? ⟨(ad501.add ((x10_1).toNat * 8)).block, (ad501.add ((x10_1).toNat * 8)).off + 2, none⟩ = some (.slice A501_2 ((rd_T87 x9_1 x10_1).f2).length c501_2) ∧ w'.cell? ⟨(ad501.add ((x10_1).toNat * 8)).block, (ad501.add ((x10_1).toNat * 8)).off + 3, none⟩ = some (.int .i64 ((rd_T87 x9_1 x10_1).f3)) ∧ w'.cell? ⟨(ad501.add ((x10_1).toNat * 8)).block, (ad501.add ((x10_1).toNat * 8)).off + 4, none⟩ = some (.int .i64 ((rd_T87 x9_1 x10_1).f4)) ∧ w'.cell? ⟨(ad501.add ((x10_1).toNat * 8)).block, (ad501.add ((x10_1).toNat * 8)).off + 5, none⟩ = some (.slice A501_5 ((rd_T87 x9_1 x10_1).f5).length c501_5) ∧ w'.cell? ⟨(ad501.add ((x10_1).toNat * 8)).block, (ad501.add ((x10_1).toNat * 8)).off + 6, none⟩ = some (.int .i64 ((rd_T87 x9_1 x10_1).f6.f0)) ∧ w'.cell? ⟨(ad501.add ((x10_1).toNat * 8)).block, (ad501.add ((x10_1).toNat * 8)).off + 7, none⟩ = some (.int .i64 ((rd_T87 x9_1 x10_1).f6.f1)) ∧ w'.cell? (ad500.add ((t497).toNat * 8)) = some (.int .i64 ((rd_T126 t478 t497).f0.f0)) ∧ w'.cell? ⟨(ad500.add ((t497).toNat * 8)).block, (ad500.add ((t497).toNat * 8)).off + 1, none⟩ = some (.int .i64 ((rd_T126 t478 t497).f0.f1)) ∧ w'.cell? ⟨(ad500.add ((t497).toNat * 8)).block, (ad500.add ((t497).toNat * 8)).off + 2, none⟩ = some (.int .i64 ((rd_T126 t478 t497).f0.f2)) ∧ w'.cell? ⟨(ad500.add ((t497).toNat * 8)).block, (ad500.add ((t497).toNat * 8)).off + 3, none⟩ = some (.int .i64 ((rd_T126 t478 t497).f0.f3)) ∧ w'.cell? ⟨(ad500.add ((t497).toNat * 8)).block, (ad500.add ((t497).toNat * 8)).off + 4, none⟩ = some (.int .i64 ((rd_T126 t478 t497).f0.f4)) ∧ w'.cell? ⟨(ad500.add ((t497).toNat * 8)).block, (ad500.add ((t497).toNat * 8)).off + 5, none⟩ = some (.int .i64 ((rd_T126 t478 t497).f1)) ∧ w'.cell? ⟨(ad500.add ((t497).toNat * 8)).block, (ad500.add ((t497).toNat * 8)).off + 6, none⟩ = some (.int .i64 ((rd_T126 t478 t497).f2)) ∧ w'.cell? ⟨(ad500.add ((t497).toNat * 8)).block, (ad500.add ((t497).toNat * 8)).off + 7, none⟩ = some (.int .i64 ((rd_T126 t478 t497).f3))) (ds := [17]) b6A0 (by kernel_rfl) rfl rfl ⟨hx501_0, hx501_1, hx501_2, hx501_3, hx501_4, hx501_5, hx501_6, hx501_7, hx500_0, hx500_1, hx500_2, hx500_3, hx500_4, hx500_5, hx500_6, hx500_7⟩ (fun hHeld => ?_); refine with_tabW spec_DrawLettersFor.tab9 spec_DrawLettersFor.bits9 (fun HT_ HW_ => ?_)
     generalize w26.drew = w27 at HO_7 HO_8 HO_9 HI472 HB HL501_2 HL501_5 HR501_2 HR501_5 hx500_0 hx500_1 hx500_2 hx500_3 hx500_4 hx500_5 hx500_6 hx500_7 hx501_0 hx501_1 hx501_2 hx501_3 hx501_4 hx501_5 hx501_6 hx501_7 hHeld ⊢
     refine pI 0 (some 33) b6A1 HT_ ?_
     refine pI 1 (some 34) b6A2 HT_ ?_
     refine pI 2 (some 35) b6A3 HT_ ?_
     refine pI 3 (some 36) b6A4 HT_ ?_
     refine pI 4 (some 37) b6A5 HT_ ?_
     refine pI 5 (some 38) b6A6 HT_ ?_
     refine pI 6 (some 39) b6A7 HT_ ?_
     refine pI 10 (some 43) b6A8 HT_ ?_
     refine pI 11 (some 44) b6A9 HT_ ?_
     refine pI 12 (some 45) b6A10 HT_ ?_
     refine pI 13 (some 46) b6A11 HT_ ?_
     refine tI 14 (some 47) b6A12 HT_ HW_ hHeld rfl rfl (Or.inl ⟨by rfl, by rintro w' ⟨s0, s1, s2, s3, s4, s5, s6, s7, s8, s9, s10, s11, s12, s13, s14, s15⟩; go_simp; with_reducible rfl⟩) ?_
     refine one_ (i := 7) (N := some 40) b6A13 rfl rfl (one_of HT_.o (by kernel_rfl)) (by decide) (fun K hK => ?_)
     refine goes_ Try.func98 (by kernel_rfl) rfl #[.pointer (some ⟨g472, 0, none⟩), .int .i64 (t478.length : Int)] (by rfl) rfl rfl M0 ?_
     with_reducible refine (spec_l1Below.calls g472 t469 t495 t496 (t478.length : Int) t497 t498 t499 w _ ?side1 ?side2 A19.o).mono ?_
     (case side1 => repeat (first | (with_reducible first | exact HI472.o | apply IsS187.alloc | apply IsS187.drewN | apply IsS187.drew | apply IsS187.set_1 | apply IsS187.set_2) | exact HI472.o))
     (case side2 => repeat (first | (with_reducible first | exact HB.o | apply bA | apply bN | apply below_drew1 | refine bS ?_ (IsS187.ge HI472.o)) | exact HB.o))
     rintro e w30 ⟨rfl, hi, hb, hk⟩
     have HS0_ := keep_cell hk (hHeld.1) M9
     have HS1_ := keep_cell hk (hHeld.2.1) M9
     have HS2_ := keep_cell hk (hHeld.2.2.1) M9
     have HS3_ := keep_cell hk (hHeld.2.2.2.1) M9
     have HS4_ := keep_cell hk (hHeld.2.2.2.2.1) M9
     have HS5_ := keep_cell hk (hHeld.2.2.2.2.2.1) M9
     have HS6_ := keep_cell hk (hHeld.2.2.2.2.2.2.1) M9
     have HS7_ := keep_cell hk (hHeld.2.2.2.2.2.2.2.1) M9
     have HS8_ := keep_cell hk (hHeld.2.2.2.2.2.2.2.2.1) M10
     have HS9_ := keep_cell hk (hHeld.2.2.2.2.2.2.2.2.2.1) M10
     have HS10_ := keep_cell hk (hHeld.2.2.2.2.2.2.2.2.2.2.1) M10
     have HS11_ := keep_cell hk (hHeld.2.2.2.2.2.2.2.2.2.2.2.1) M10
     have HS12_ := keep_cell hk (hHeld.2.2.2.2.2.2.2.2.2.2.2.2.1) M10
     have HS13_ := keep_cell hk (hHeld.2.2.2.2.2.2.2.2.2.2.2.2.2.1) M10
     have HS14_ := keep_cell hk (hHeld.2.2.2.2.2.2.2.2.2.2.2.2.2.2.1) M10
     have HS15_ := keep_cell hk (hHeld.2.2.2.2.2.2.2.2.2.2.2.2.2.2.2) M10
     refine ⟨_, rfl, ?_⟩
     have n0_ := zK (Kd.R_mono (Kd.R_keep (IsS187.apart (show IsS187 w _ g472 t469 t495 t496 from Q5) (Kd.qR HO_7.o) (by decide)) hk (fun _ h => h.2)) (fun _ h => h.1))
     have n1_ := zK (Kd.R_mono (Kd.R_keep (IsS187.apart (show IsS187 w _ g472 t469 t495 t496 from Q5) (Kd.qR HO_8.o) (by decide)) hk (fun _ h => h.2)) (fun _ h => h.1))
     have n2_ := zK (Kd.N_mono (Kd.N_keep (Kd.N_mono (ok := fun k_ => (((w.heap.size ≤ k_)) ∧ (some k_ ≠ (v474 : Value).ownBlock ∧ (some k_ ≠ (.slice (some ad500) t478.length co28 : Value).ownBlock ∧ k_ ≠ g472)))) M48 (fun k_ hk_ => (⟨hk_, hk_.2.2.2⟩ : _ ∧ k_ ≠ g472))) hk (fun _ h => h.2)) (fun _ h => h.1))
     have n3_ := zK (Kd.V_mono (Kd.V_keep (Kd.V_mono (ok := fun k_ => ((((w.heap.size ≤ k_)) ∧ (some k_ ≠ (v474 : Value).ownBlock ∧ (some k_ ≠ (.slice (some ad500) t478.length co28 : Value).ownBlock ∧ k_ ≠ g472))) ∧ some k_ ≠ (.slice (some ad501) x9_1.length co29 : Value).ownBlock)) (by (with_reducible repeat (first | apply Kd.V_alloc | apply Kd.V_drewN | apply Kd.V_drew)); exact HL501_2.o) (fun k_ hk_ => (⟨hk_, hk_.1.2.2.2⟩ : _ ∧ k_ ≠ g472))) hk (fun _ h => h.2)) (fun _ h => h.1))
     have n4_ := zK (Kd.V_mono (Kd.V_keep (Kd.V_mono (ok := fun k_ => ((((w.heap.size ≤ k_)) ∧ (some k_ ≠ (v474 : Value).ownBlock ∧ (some k_ ≠ (.slice (some ad500) t478.length co28 : Value).ownBlock ∧ k_ ≠ g472))) ∧ some k_ ≠ (.slice (some ad501) x9_1.length co29 : Value).ownBlock)) (by (with_reducible repeat (first | apply Kd.V_alloc | apply Kd.V_drewN | apply Kd.V_drew)); exact HL501_5.o) (fun k_ hk_ => (⟨hk_, hk_.1.2.2.2⟩ : _ ∧ k_ ≠ g472))) hk (fun _ h => h.2)) (fun _ h => h.1))
     have n5_ := zK (hb)
     have n6_ := zK (hi)
     clear HO_7
     clear HO_8
     clear HO_9
     clear HL501_2
     clear HL501_5
     clear HB
     clear HI472
     have HO_7 := n0_
     have HO_8 := n1_
     have HO_9 := n2_
     have HL501_2 := n3_
     have HL501_5 := n4_
     have HB := n5_
     have HI472 := n6_
     clear n0_ n1_ n2_ n3_ n4_ n5_ n6_
     (try clear hb)
     (try clear hb2)
     (try clear hk)
     (try clear hi)
     refine hK.out _ _ ⟨HS0_, HS1_, HS2_, HS3_, HS4_, HS5_, HS6_, HS7_, HS8_, HS9_, HS10_, HS11_, HS12_, HS13_, HS14_, HS15_⟩ (fun hHeld => ?_)
     clear hK K
     refine norm_ (a' := ?_) ?_ ?_
     rotate_left
     ·show Act.put _ (some 40) _ = _
      simp only [Act.put, sA, sZ, sS, i64_w, i32_w]
      rfl
     refine pI 8 (some 41) b6A14 HT_ ?_
     refine tI 9 (some 42) b6A15 HT_ HW_ hHeld rfl rfl (Or.inl ⟨by rfl, by rintro w' ⟨s0, s1, s2, s3, s4, s5, s6, s7, s8, s9, s10, s11, s12, s13, s14, s15⟩; go_simp; with_reducible rfl⟩) ?_
     refine one_ (i := 15) (N := some 48) b6A16 rfl rfl (one_of HT_.o (by kernel_rfl)) (by decide) (fun K hK => ?_)
     refine goes_ Try.func115 (by kernel_rfl) rfl #[.pointer (some ⟨g472, 0, none⟩), .agg #[.int .i64 ((rd_T126 t478 t497).f0.f0), .int .i64 ((rd_T126 t478 t497).f0.f1), .int .i64 ((rd_T126 t478 t497).f0.f2), .int .i64 ((rd_T126 t478 t497).f0.f3), .int .i64 ((rd_T126 t478 t497).f0.f4), .int .i64 ((rd_T126 t478 t497).f1), .int .i64 ((rd_T126 t478 t497).f2), .int .i64 ((rd_T126 t478 t497).f3)], .int .i64 ((rd_T87 x9_1 x10_1).f0)] (by rfl) rfl rfl M0 ?_
     with_reducible refine (spec_l8For.calls kj9 g472 t469 t498 t499 ((rd_T126 t478 t497).f0.f0) ((rd_T126 t478 t497).f0.f1) ((rd_T126 t478 t497).f0.f2) ((rd_T126 t478 t497).f0.f3) ((rd_T126 t478 t497).f0.f4) ((rd_T126 t478 t497).f1) ((rd_T126 t478 t497).f2) ((rd_T126 t478 t497).f3) ((rd_T87 x9_1 x10_1).f0) t502 t503 t504 t507 t508 t509 t512 t513 t514 t515 w _ ?side1 ?side2 A24.o).mono ?_
     (case side1 => repeat (first | (with_reducible first | exact HI472.o | apply IsS187.alloc | apply IsS187.drewN | apply IsS187.drew | apply IsS187.set_1 | apply IsS187.set_2) | exact HI472.o))
     (case side2 => repeat (first | (with_reducible first | exact HB.o | apply bA | apply bN | apply below_drew1 | refine bS ?_ (IsS187.ge HI472.o)) | exact HB.o))
     rintro e w31 ⟨v505, v510, rfl, ho0, ho1, hi, hb, hk⟩
     have HS0_ := keep_cell hk (hHeld.1) M9
     have HS1_ := keep_cell hk (hHeld.2.1) M9
     have HS2_ := keep_cell hk (hHeld.2.2.1) M9
     have HS3_ := keep_cell hk (hHeld.2.2.2.1) M9
     have HS4_ := keep_cell hk (hHeld.2.2.2.2.1) M9
     have HS5_ := keep_cell hk (hHeld.2.2.2.2.2.1) M9
     have HS6_ := keep_cell hk (hHeld.2.2.2.2.2.2.1) M9
     have HS7_ := keep_cell hk (hHeld.2.2.2.2.2.2.2.1) M9
     have HS8_ := keep_cell hk (hHeld.2.2.2.2.2.2.2.2.1) M10
     have HS9_ := keep_cell hk (hHeld.2.2.2.2.2.2.2.2.2.1) M10
     have HS10_ := keep_cell hk (hHeld.2.2.2.2.2.2.2.2.2.2.1) M10
     have HS11_ := keep_cell hk (hHeld.2.2.2.2.2.2.2.2.2.2.2.1) M10
     have HS12_ := keep_cell hk (hHeld.2.2.2.2.2.2.2.2.2.2.2.2.1) M10
     have HS13_ := keep_cell hk (hHeld.2.2.2.2.2.2.2.2.2.2.2.2.2.1) M10
     have HS14_ := keep_cell hk (hHeld.2.2.2.2.2.2.2.2.2.2.2.2.2.2.1) M10
     have HS15_ := keep_cell hk (hHeld.2.2.2.2.2.2.2.2.2.2.2.2.2.2.2) M10
     refine ⟨_, rfl, ?_⟩
     have n0_ := zK (Kd.R_mono (Kd.R_keep (IsS187.apart (show IsS187 w _ g472 t469 t498 t499 from Q5) (Kd.qR HO_7.o) (by decide)) hk (fun _ h => h.2)) (fun _ h => h.1))
     have n1_ := zK (Kd.R_mono (Kd.R_keep (IsS187.apart (show IsS187 w _ g472 t469 t498 t499 from Q5) (Kd.qR HO_8.o) (by decide)) hk (fun _ h => h.2)) (fun _ h => h.1))
     have n2_ := zK (Kd.N_mono (Kd.N_told (Kd.N_told (Kd.N_oldK (Kd.N_mono (ok := fun k_ => (((w.heap.size ≤ k_)) ∧ (some k_ ≠ (v474 : Value).ownBlock ∧ (some k_ ≠ (.slice (some ad500) t478.length co28 : Value).ownBlock ∧ k_ ≠ g472)))) M48 (fun k_ hk_ => (⟨hk_, hk_.2.2.2⟩ : _ ∧ k_ ≠ g472))) hk) (Kd.R_base ho0)) (Kd.R_base ho1)) (fun _ h_ => h_.1))
     have n3_ := zK (Kd.V_mono (Kd.V_told (Kd.V_told (Kd.V_oldK (Kd.V_mono (ok := fun k_ => ((((w.heap.size ≤ k_)) ∧ (some k_ ≠ (v474 : Value).ownBlock ∧ (some k_ ≠ (.slice (some ad500) t478.length co28 : Value).ownBlock ∧ k_ ≠ g472))) ∧ some k_ ≠ (.slice (some ad501) x9_1.length co29 : Value).ownBlock)) (by (with_reducible repeat (first | apply Kd.V_alloc | apply Kd.V_drewN | apply Kd.V_drew)); exact HL501_2.o) (fun k_ hk_ => (⟨hk_, hk_.1.2.2.2⟩ : _ ∧ k_ ≠ g472))) hk) (Kd.R_base ho0)) (Kd.R_base ho1)) (fun _ h_ => h_.1))
     have n4_ := zK (Kd.V_mono (Kd.V_told (Kd.V_told (Kd.V_oldK (Kd.V_mono (ok := fun k_ => ((((w.heap.size ≤ k_)) ∧ (some k_ ≠ (v474 : Value).ownBlock ∧ (some k_ ≠ (.slice (some ad500) t478.length co28 : Value).ownBlock ∧ k_ ≠ g472))) ∧ some k_ ≠ (.slice (some ad501) x9_1.length co29 : Value).ownBlock)) (by (with_reducible repeat (first | apply Kd.V_alloc | apply Kd.V_drewN | apply Kd.V_drew)); exact HL501_5.o) (fun k_ hk_ => (⟨hk_, hk_.1.2.2.2⟩ : _ ∧ k_ ≠ g472))) hk) (Kd.R_base ho0)) (Kd.R_base ho1)) (fun _ h_ => h_.1))
     have n5_ := zK (Kd.R_lower (Kd.R_newM (M := fun k_ => (w.heap.size ≤ k_)) ho0 (bZ M17) (fun k_ h_ => h_)) (bZ M17))
     have n6_ := zK (Kd.R_lower (Kd.R_newM (M := fun k_ => (w.heap.size ≤ k_)) ho1 (bZ M17) (fun k_ h_ => h_)) (bZ M17))
     have n7_ := zK (hb)
     have n8_ := zK (hi)
     clear HO_7
     clear HO_8
     clear HO_9
     clear HL501_2
     clear HL501_5
     clear HB
     clear HI472
     have HO_7 := n0_
     have HO_8 := n1_
     have HO_9 := n2_
     have HL501_2 := n3_
     have HL501_5 := n4_
     have HO506 := n5_
     have HO511 := n6_
     have HB := n7_
     have HI472 := n8_
     clear n0_ n1_ n2_ n3_ n4_ n5_ n6_ n7_ n8_
     (try clear hb)
     (try clear hb2)
     (try clear hk)
     (try clear hi)
     (try clear ho0)
     (try clear ho1)
     have p25 : 0 ≤ (x10_1 : Int) := oD M3
     have q25 : (x10_1 : Int) < ((x9_1.length : Int) : Int) := oD M3
     obtain ⟨go25, co25, eo25, gb25, gl25, cl25, HG25⟩ := Kd.N_form HO_9.o (by omega)
     (first | cases eo25 | (injection eo25 with ea_ en_ ec_; (first | subst ea_ | (injection ea_ with ea_; subst ea_)); subst ec_; clear en_))
     have GB25 := zK gb25
     have GG25 := zK HG25
     clear gb25 gl25 HG25
     (first | simp only [add_plain] at hx501_0 | skip)
     (first | simp only [add_plain] at hx501_1 | skip)
     (first | simp only [add_plain] at hx501_2 | skip)
     (first | simp only [add_plain] at hx501_3 | skip)
     (first | simp only [add_plain] at hx501_4 | skip)
     (first | simp only [add_plain] at hx501_5 | skip)
     (first | simp only [add_plain] at hx501_6 | skip)
     (first | simp only [add_plain] at hx501_7 | skip)
     obtain ⟨ce25, hcl25, hM25, hcc25, hfr25⟩ := Kd.N_elem HO_9.o z87 (x10_1 : Int) p25 q25
     obtain ⟨ua25_2, uc25_2, ua25_5, uc25_5, rfl, ul25_2, ge25_2, ul25_5, ge25_5⟩ := k87_openF hM25
     have hx25_0 : World.cell? _ ⟨go25, (x10_1 : Int).toNat * 8, none⟩ = some (.int .i64 ((rd_T87 x9_1 x10_1).f0)) := hcc25 0 _ rfl
     have hx25_1 : World.cell? _ ⟨go25, (x10_1 : Int).toNat * 8 + 1, none⟩ = some (.int .i64 ((rd_T87 x9_1 x10_1).f1)) := hcc25 1 _ rfl
     have hx25_2 : World.cell? _ ⟨go25, (x10_1 : Int).toNat * 8 + 2, none⟩ = some (.slice ua25_2 ((rd_T87 x9_1 x10_1).f2).length uc25_2) := hcc25 2 _ rfl
     have hx25_3 : World.cell? _ ⟨go25, (x10_1 : Int).toNat * 8 + 3, none⟩ = some (.int .i64 ((rd_T87 x9_1 x10_1).f3)) := hcc25 3 _ rfl
     have hx25_4 : World.cell? _ ⟨go25, (x10_1 : Int).toNat * 8 + 4, none⟩ = some (.int .i64 ((rd_T87 x9_1 x10_1).f4)) := hcc25 4 _ rfl
     have hx25_5 : World.cell? _ ⟨go25, (x10_1 : Int).toNat * 8 + 5, none⟩ = some (.slice ua25_5 ((rd_T87 x9_1 x10_1).f5).length uc25_5) := hcc25 5 _ rfl
     have hx25_6 : World.cell? _ ⟨go25, (x10_1 : Int).toNat * 8 + 6, none⟩ = some (.int .i64 ((rd_T87 x9_1 x10_1).f6.f0)) := hcc25 6 _ rfl
     have hx25_7 : World.cell? _ ⟨go25, (x10_1 : Int).toNat * 8 + 7, none⟩ = some (.int .i64 ((rd_T87 x9_1 x10_1).f6.f1)) := hcc25 7 _ rfl
     have hf25_0 : World.frozen? _ ⟨go25, (x10_1 : Int).toNat * 8, none⟩ = false := hfr25 0
     have hf25_1 : World.frozen? _ ⟨go25, (x10_1 : Int).toNat * 8 + 1, none⟩ = false := hfr25 1
     have hf25_2 : World.frozen? _ ⟨go25, (x10_1 : Int).toNat * 8 + 2, none⟩ = false := hfr25 2
     have hf25_3 : World.frozen? _ ⟨go25, (x10_1 : Int).toNat * 8 + 3, none⟩ = false := hfr25 3
     have hf25_4 : World.frozen? _ ⟨go25, (x10_1 : Int).toNat * 8 + 4, none⟩ = false := hfr25 4
     have hf25_5 : World.frozen? _ ⟨go25, (x10_1 : Int).toNat * 8 + 5, none⟩ = false := hfr25 5
     have hf25_6 : World.frozen? _ ⟨go25, (x10_1 : Int).toNat * 8 + 6, none⟩ = false := hfr25 6
     have hf25_7 : World.frozen? _ ⟨go25, (x10_1 : Int).toNat * 8 + 7, none⟩ = false := hfr25 7
     clear hcl25 hcc25 hfr25 hM25
     replace p25 := eq_true p25
     replace q25 := eq_true q25
     have HN472_go25 := zK (show g472 ≠ go25 from by have h_ := IsS187.own_neN HI472.o HO_9.o (by decide); intro e_; exact h_ (by rw [e_]; rfl))
     have HX32 := zK (show Kd.N k87 87 _ w.heap.size (fun k_ => (w.heap.size ≤ k_) ∧ some k_ ≠ (v474 : Value).ownBlock ∧ some k_ ≠ (.slice (some ad500) t478.length co28 : Value).ownBlock ∧ some k_ ≠ (v505 : Value).ownBlock ∧ some k_ ≠ (v510 : Value).ownBlock ∧ k_ ≠ g472) (.slice (some ⟨go25, 0, none⟩) x9_1.length co29) x9_1 from (Kd.N_mono (HO_9.o) (fun k_ hk => ⟨hk.1.1.1, ⟨hk.1.1.2.1, ⟨hk.1.1.2.2.1, ⟨hk.1.2, ⟨hk.2, hk.1.1.2.2.2⟩⟩⟩⟩⟩)))
     replace HX32 := zK (show Kd.N k87 87 _ w.heap.size (fun k_ => (w.heap.size ≤ k_) ∧ some k_ ≠ (v474 : Value).ownBlock ∧ some k_ ≠ (.slice (some ad500) t478.length co28 : Value).ownBlock ∧ k_ ≠ g472) (.slice (some ⟨go25, 0, none⟩) x9_1.length co29) x9_1 from Kd.N_mono HX32.o (fun k_ hk => ⟨hk.1, ⟨hk.2.1, ⟨hk.2.2.1, hk.2.2.2.2.2⟩⟩⟩))
     obtain ⟨ce32, hcl32, hM32, hcc32, hfr32⟩ := Kd.N_elem HX32.o z87 (x10_1 : Int) (oD M3) (by have h_ : (x10_1 : Int) < ((x9_1.length : Int) : Int) := oD M3; first | exact h_ | (have e_ := (Kd.N_reads' HO_9.o).1; omega) | simpa using h_)
     obtain ⟨ua32_2, uc32_2, ua32_5, uc32_5, rfl, ul32_2, ge32_2, ul32_5, ge32_5⟩ := k87_openF hM32
     obtain ⟨Av505, cv505, ev505⟩ := Kd.R_slice (v := v505) (Aside0.out (by assumption))
     subst ev505
     obtain ⟨Av510, cv510, ev510⟩ := Kd.R_slice (v := v510) (Aside0.out (by assumption))
     subst ev510
     have zh0_ := IsS187.apart HI472.o (Kd.R_apart' (Kd.R_apart' (Kd.R_apart' (HO506.o) (Kd.R_typed HO_7.o) (by decide)) (Kd.R_typed HO_8.o) (by decide)) (Kd.N_typed HO_9.o) (by decide)) (by decide)
     have zh1_ := IsS187.apart HI472.o (Kd.R_apart' (Kd.R_apart' (Kd.R_apart' (HO511.o) (Kd.R_typed HO_7.o) (by decide)) (Kd.R_typed HO_8.o) (by decide)) (Kd.N_typed HO_9.o) (by decide)) (by decide)
     have HP32 := (Kd.N_seg HX32.o (x10_1 : Int) (oD M3) (by have h_ : (x10_1 : Int) < ((x9_1.length : Int) : Int) := oD M3; first | exact h_ | (have e_ := (Kd.N_reads' HO_9.o).1; omega) | simpa using h_) (seg := [.int .i64 t502, .int .i64 t503, (.slice Av505 t504.length cv505 : Value), .int .i64 t507, .int .i64 t508, (.slice Av510 t509.length cv510 : Value), .int .i64 t512, .int .i64 t513]) (j := 0) hcl32 hcc32 (show 8 ≤ 8 from by decide) (x' := (⟨t502, t503, t504, t507, t508, t509, (⟨t512, t513⟩ : S85)⟩ : S87)) (k87_mkF _ _ (⟨t502, t503, t504, t507, t508, t509, (⟨t512, t513⟩ : S85)⟩ : S87) (Kd.R_reads' (Kd.R_mono (ok' := (fun k_ => ((fun k_ => (w.heap.size ≤ k_) ∧ some k_ ≠ (v474 : Value).ownBlock ∧ some k_ ≠ (.slice (some ad500) t478.length co28 : Value).ownBlock ∧ k_ ≠ g472)) k_ ∧ k_ ≠ go25)) zh0_ (fun k_ hk => ⟨⟨hk.1.1.1.1.1, ⟨hk.1.1.1.2, ⟨hk.1.1.2, hk.2⟩⟩⟩, fun e_ => (hk.1.2) (by rw [e_]; rfl)⟩))).2.1 (Kd.R_F (Kd.R_mono (ok' := (fun k_ => ((fun k_ => (w.heap.size ≤ k_) ∧ some k_ ≠ (v474 : Value).ownBlock ∧ some k_ ≠ (.slice (some ad500) t478.length co28 : Value).ownBlock ∧ k_ ≠ g472)) k_ ∧ k_ ≠ go25)) zh0_ (fun k_ hk => ⟨⟨hk.1.1.1.1.1, ⟨hk.1.1.1.2, ⟨hk.1.1.2, hk.2⟩⟩⟩, fun e_ => (hk.1.2) (by rw [e_]; rfl)⟩))) (Kd.R_reads' (Kd.R_mono (ok' := (fun k_ => ((fun k_ => (w.heap.size ≤ k_) ∧ some k_ ≠ (v474 : Value).ownBlock ∧ some k_ ≠ (.slice (some ad500) t478.length co28 : Value).ownBlock ∧ k_ ≠ g472)) k_ ∧ k_ ≠ go25)) zh1_ (fun k_ hk => ⟨⟨hk.1.1.1.1.1, ⟨hk.1.1.1.2, ⟨hk.1.1.2, hk.2⟩⟩⟩, fun e_ => (hk.1.2) (by rw [e_]; rfl)⟩))).2.1 (Kd.R_F (Kd.R_mono (ok' := (fun k_ => ((fun k_ => (w.heap.size ≤ k_) ∧ some k_ ≠ (v474 : Value).ownBlock ∧ some k_ ≠ (.slice (some ad500) t478.length co28 : Value).ownBlock ∧ k_ ≠ g472)) k_ ∧ k_ ≠ go25)) zh1_ (fun k_ hk => ⟨⟨hk.1.1.1.1.1, ⟨hk.1.1.1.2, ⟨hk.1.1.2, hk.2⟩⟩⟩, fun e_ => (hk.1.2) (by rw [e_]; rfl)⟩)))) (fun _ hk => hk)).1
     clear zh0_ zh1_
     rw [← Ny516.o] at HP32
     have HQ32 := zK HP32
     clear hcl32 hcc32 hfr32 hM32 HP32
     refine hK.out _ _ ⟨HS0_, HS1_, HS2_, HS3_, HS4_, HS5_, HS6_, HS7_, HS8_, HS9_, HS10_, HS11_, HS12_, HS13_, HS14_, HS15_⟩ (fun hHeld => ?_)
     clear hK K
     refine norm_ (a' := ?_) ?_ ?_
     rotate_left
     ·show Act.put _ (some 48) _ = _
      simp only [Act.put, sA, sZ, sS, i64_w, i32_w]
      rfl
     refine pI 16 (some 49) b6A17 HT_ ?_
     refine last_ (i := 17) (N := none) b6A18 rfl rfl (one_of HT_.o (by kernel_rfl)) (by decide) (fun K hK => ?_)
     refine skip_ (w1 := ?_) (by rfl) rfl ?_ ?_
     rotate_left
     ·go_simp
      rfl
     refine hK.out _ _ ?_
     clear hK K
     refine done_ (done_of HT_.o (by kernel_rfl)) ?_
     try go_wp2
     go_roundg kj9
     case measure => have := HK1.o; have := HJ9.o; omega
     case rel => exact ⟨(y516), (wrap64 (x10_1 + 1)), (t514), (t515), M7, H', ⟨by have := HK1.o; have := HJ9.o; omega⟩, ⟨by (with_reducible repeat (first | apply Kd.RA | apply Kd.RN | apply Kd.RD)); exact Kd.R_mono (Kd.R_far (p := ⟨go25, (x10_1 : Int).toNat * 8 + 7, none⟩) (Kd.R_far (p := ⟨go25, (x10_1 : Int).toNat * 8 + 6, none⟩) (Kd.R_far (p := ⟨go25, (x10_1 : Int).toNat * 8 + 5, none⟩) (Kd.R_far (p := ⟨go25, (x10_1 : Int).toNat * 8 + 4, none⟩) (Kd.R_far (p := ⟨go25, (x10_1 : Int).toNat * 8 + 3, none⟩) (Kd.R_far (p := ⟨go25, (x10_1 : Int).toNat * 8 + 2, none⟩) (Kd.R_far (p := ⟨go25, (x10_1 : Int).toNat * 8 + 1, none⟩) (Kd.R_far (p := ⟨go25, (x10_1 : Int).toNat * 8, none⟩) (Kd.R_types HO_7.o GG25.o (by decide)) (fun _ hk => hk.2) (.int .i64 t502)) (fun _ hk => hk.2) (.int .i64 t503)) (fun _ hk => hk.2) ((.slice Av505 t504.length cv505 : Value))) (fun _ hk => hk.2) (.int .i64 t507)) (fun _ hk => hk.2) (.int .i64 t508)) (fun _ hk => hk.2) ((.slice Av510 t509.length cv510 : Value))) (fun _ hk => hk.2) (.int .i64 t512)) (fun _ hk => hk.2) (.int .i64 t513)) (fun _ hk => hk.1)⟩, ⟨by (with_reducible repeat (first | apply Kd.RA | apply Kd.RN | apply Kd.RD)); exact Kd.R_mono (Kd.R_far (p := ⟨go25, (x10_1 : Int).toNat * 8 + 7, none⟩) (Kd.R_far (p := ⟨go25, (x10_1 : Int).toNat * 8 + 6, none⟩) (Kd.R_far (p := ⟨go25, (x10_1 : Int).toNat * 8 + 5, none⟩) (Kd.R_far (p := ⟨go25, (x10_1 : Int).toNat * 8 + 4, none⟩) (Kd.R_far (p := ⟨go25, (x10_1 : Int).toNat * 8 + 3, none⟩) (Kd.R_far (p := ⟨go25, (x10_1 : Int).toNat * 8 + 2, none⟩) (Kd.R_far (p := ⟨go25, (x10_1 : Int).toNat * 8 + 1, none⟩) (Kd.R_far (p := ⟨go25, (x10_1 : Int).toNat * 8, none⟩) (Kd.R_types HO_8.o GG25.o (by decide)) (fun _ hk => hk.2) (.int .i64 t502)) (fun _ hk => hk.2) (.int .i64 t503)) (fun _ hk => hk.2) ((.slice Av505 t504.length cv505 : Value))) (fun _ hk => hk.2) (.int .i64 t507)) (fun _ hk => hk.2) (.int .i64 t508)) (fun _ hk => hk.2) ((.slice Av510 t509.length cv510 : Value))) (fun _ hk => hk.2) (.int .i64 t512)) (fun _ hk => hk.2) (.int .i64 t513)) (fun _ hk => hk.1)⟩, ⟨by (with_reducible repeat (first | apply Kd.N_alloc | apply Kd.N_drewN | apply Kd.N_drew)); exact HQ32.o⟩, ⟨by repeat (first | (with_reducible first | exact HI472.o | apply IsS187.alloc | apply IsS187.drewN | apply IsS187.drew | apply IsS187.set_1 | apply IsS187.set_2 | refine IsS187.far ?_ HN472_go25.o _ | refine IsS187.far ?_ HN472_go25.o _ | refine IsS187.far ?_ HN472_go25.o _ | refine IsS187.far ?_ HN472_go25.o _ | refine IsS187.far ?_ HN472_go25.o _ | refine IsS187.far ?_ HN472_go25.o _ | refine IsS187.far ?_ HN472_go25.o _ | refine IsS187.far ?_ HN472_go25.o _) | exact HI472.o)⟩, ⟨by repeat (first | (with_reducible first | exact HB.o | apply bA | apply bN | apply below_drew1 | refine bS ?_ GB25.o | refine bS ?_ GB25.o | refine bS ?_ GB25.o | refine bS ?_ GB25.o | refine bS ?_ GB25.o | refine bS ?_ GB25.o | refine bS ?_ GB25.o | refine bS ?_ GB25.o | refine bS ?_ (IsS187.ge HI472.o)) | exact HB.o)⟩⟩
/-! ### impl_InRange: function 120 -/
def impl_InRange.f (a0 : Int) (a1 : Int) (a2 : Int) : Option (Bool) := if a1 ≤ a0 then (some (decide (a0 ≤ a2))) else (some false)
set_option maxHeartbeats 8000000 in
set_option maxRecDepth 100000 in
theorem impl_InRange.calls (a0 : Int) (a1 : Int) (a2 : Int) (r : Bool) (w : World) (h : impl_InRange.f a0 a1 a2 = some r) :
  Calls Try.prog 120 #[.int .i64 a0, .int .i64 a1, .int .i64 a2] w fun e w' => e = .returned (.bool r) ∧ Drawn0 w w' := by
 have H : (if a1 ≤ a0 then (some (decide (a0 ≤ a2))) else (some false)) = some r := h
 clear h
 by_cases c4 : a1 ≤ a0
 ·rw [if_pos c4] at H
  have c4b0 : decide (a1 ≤ a0) = true := decide_eq_true c4
  clear c4
  obtain rfl := Option.some.inj H
  go_enter Try.func120, Try.ntmps120
  go_wp2
  go_ret
  exact ⟨by first | rfl | (simp; done) | (simp [*]; done), Q10⟩
 rw [if_neg c4] at H
 have c4b0 : decide (a1 ≤ a0) = false := decide_eq_false c4
 clear c4
 obtain rfl := Option.some.inj H
 go_enter Try.func120, Try.ntmps120
 go_wp2
 go_ret
 exact ⟨by first | rfl | (simp; done) | (simp [*]; done), Q10⟩

end Go.Proofs.Ytpkdbkheggfkkaa.PFnLetters
