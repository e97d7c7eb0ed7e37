/- Walks of functions that FnExactLettersFor reaches: written by a tool of the kit for this claim, then shortened by a program of ours. -/
import Derived.Test.YtpkdbkheggfkkaaPFnExactLettersForx0
import Derived.Test.YtpkdbkheggfkkaaPFnExactLettersForx10
/- narrow -/
namespace Go.Proofs.Ytpkdbkheggfkkaa.PFnExactLettersFor
open Go.RowKit Go.Proofs.YtpkdbkheggfkkaaW.PrintWords Go.Proofs.YtpkdbkheggfkkaaW.PrintLast Go.Proofs.YtpkdbkheggfkkaaW.PrintMore
attribute [local go_sem] max2_int min2_int max_two min_two max_three min_three max_four min_four   -- for this text's walks alone
set_option linter.unusedVariables false
set_option linter.unusedSimpArgs false

/-! ### spec_l7Ids: function 210 -/
def spec_l7Ids.l0 : Nat → List Int → Int → Int → Int → Option (Bool)
 | 0, _, _, _, _ => none
 | k + 1, x0, x1, x2, x7 => if x7 < (x0.length : Int) then (if 0 ≤ x7 then ((spec_l1In.f (rd x0 x7) x1 x2).bind fun t254 => (if t254 = true then (if x7 > 0 then (if 0 ≤ (wrap64 (x7 - 1)) then (if (wrap64 (x7 - 1)) < (x0.length : Int) then (if (rd x0 (wrap64 (x7 - 1))) ≥ (rd x0 x7) then (some false) else (spec_l7Ids.l0 k x0 x1 x2 (wrap64 (x7 + 1)))) else (none)) else (none)) else (spec_l7Ids.l0 k x0 x1 x2 (wrap64 (x7 + 1)))) else (some false))) else (none)) else (some true)
def spec_l7Ids.f (k : Nat) (l0 : List Int) (a1 : Int) (a2 : Int) : Option (Bool) := spec_l7Ids.l0 k l0 a1 a2 0
set_option maxHeartbeats 8000000 in
set_option maxRecDepth 100000 in
theorem spec_l7Ids.calls (k : Nat) (A0 : Option Addr) (c0 : Nat) (l0 : List Int) (a1 : Int) (a2 : Int) (r : Bool) (w : World) (hr0 : Kd.C (Kd.int .i64) w A0 l0.length l0) (hc0 : l0.length ≤ c0) (h : spec_l7Ids.f k l0 a1 a2 = some r) :
  Calls Try.prog 210 #[.slice A0 l0.length c0, .int .i64 a1, .int .i64 a2] w fun e w' => e = .returned (.bool r) ∧ Drawn0 w w' := by
 have HR0 := zK hr0
 have HC0 := zK hc0
 clear hr0 hc0
 have H : (spec_l7Ids.l0 k l0 a1 a2 0) = some r := h
 clear h
 have H' := zK H
 clear H
 go_enter Try.func210, Try.ntmps210
 go_wp2
 repeat (go_quiet (fail); try go_wp2)
 go_loopg [7] k (fun kq v7 w' => ∃ (x7_1 : Int), v7 = .int .i64 x7_1 ∧ Aside0 (spec_l7Ids.l0 kq l0 a1 a2 x7_1 = some r) ∧ Aside0 (kq ≤ k) ∧ Drawn0 w w')
 case atStart => exact ⟨(0), M3, H', ⟨Nat.le_refl _⟩, by repeat (first | exact Drawn0.refl _ | apply Drawn0.step)⟩
 case round =>
  clear H'
  try clear c2
  try clear p2
  obtain ⟨x7_1, rfl, HA, HK1, ⟨m1, rfl⟩⟩ := hrel
  cases gk with
  | zero => exact absurd HA.o (by simp [spec_l7Ids.l0])
  | succ k1 =>
   have H := HA.o
   clear HA
   simp only [spec_l7Ids.l0] at H
   by_cases c4 : x7_1 < (l0.length : Int)
   rotate_left
   ·rw [if_neg c4] at H
    have c4b0 : decide (x7_1 < (l0.length : Int)) = false := decide_eq_false c4
    clear c4
    obtain rfl := Option.some.inj H
    go_wp2
    repeat (go_quiet (fail); try go_wp2)
    go_ret
    exact ⟨by first | rfl | (simp; done) | (simp [*]; done), by repeat (first | exact Drawn0.refl _ | apply Drawn0.step)⟩
   rw [if_pos c4] at H
   have c4b0 : decide (x7_1 < (l0.length : Int)) = true := decide_eq_true c4
   clear c4
   by_cases c5 : 0 ≤ x7_1
   rotate_left
   ·rw [if_neg c5] at H
    exact absurd H (by simp)
   rw [if_pos c5] at H
   have c5b0 : decide (0 ≤ x7_1) = true := decide_eq_true c5
   clear c5
   replace H := Option.bind_eq_some_iff.mp H
   obtain ⟨t254, A60, H⟩ := H
   try dsimp only at H
   have A6 := zK A60
   clear A60
   by_cases c7 : t254 = true
   rotate_left
   ·replace c7 := Bool.eq_false_iff.mpr c7
    subst c7
    have H1 : (some false) = some r := by rw [if_neg (show ¬ (false = true) by decide)] at H; exact H
    clear H
    have H := H1
    clear H1
    obtain rfl := Option.some.inj H
    have p253 : 0 ≤ (x7_1 : Int) := oD M1
    have q253 : x7_1 < (l0.length : Int) := oD M1
    obtain ⟨ad253, e253, hx253_0⟩ := Kd.at_int HR0.o x7_1 p253 q253
    cases e253
    replace p253 := eq_true p253
    replace q253 := eq_true q253
    go_wp2_with (first | (go_at_call 95; (with_reducible refine (spec_l1In.calls (rd l0 x7_1) a1 a2 false _ A6.o).mono ?_); rintro e w' ⟨rfl, ⟨nd, rfl⟩⟩; (try first | exact ⟨rfl, _, World.drewN_drewN _ _ _⟩ | exact ⟨rfl, _, Eq.trans (World.drewN_drewN _ _ _) (congrArg (World.drewN _) (Nat.add_assoc _ _ _))⟩)))
    repeat (go_quiet (first | (go_at_call 95; (with_reducible refine (spec_l1In.calls (rd l0 x7_1) a1 a2 false _ A6.o).mono ?_); rintro e w' ⟨rfl, ⟨nd, rfl⟩⟩; (try first | exact ⟨rfl, _, World.drewN_drewN _ _ _⟩ | exact ⟨rfl, _, Eq.trans (World.drewN_drewN _ _ _) (congrArg (World.drewN _) (Nat.add_assoc _ _ _))⟩))); try go_wp2_with (first | (go_at_call 95; (with_reducible refine (spec_l1In.calls (rd l0 x7_1) a1 a2 false _ A6.o).mono ?_); rintro e w' ⟨rfl, ⟨nd, rfl⟩⟩; (try first | exact ⟨rfl, _, World.drewN_drewN _ _ _⟩ | exact ⟨rfl, _, Eq.trans (World.drewN_drewN _ _ _) (congrArg (World.drewN _) (Nat.add_assoc _ _ _))⟩))))
    go_ret
    exact ⟨by first | rfl | (simp; done) | (simp [*]; done), by repeat (first | exact Drawn0.refl _ | apply Drawn0.step)⟩
   subst c7
   have H1 : (if x7_1 > 0 then (if 0 ≤ (wrap64 (x7_1 - 1)) then (if (wrap64 (x7_1 - 1)) < (l0.length : Int) then (if (rd l0 (wrap64 (x7_1 - 1))) ≥ (rd l0 x7_1) then (some false) else (spec_l7Ids.l0 k1 l0 a1 a2 (wrap64 (x7_1 + 1)))) else (none)) else (none)) else (spec_l7Ids.l0 k1 l0 a1 a2 (wrap64 (x7_1 + 1)))) = some r := by rw [if_pos rfl] at H; exact H
   clear H
   have H := H1
   clear H1
   by_cases c8 : x7_1 > 0
   rotate_left
   ·rw [if_neg c8] at H
    have c8b0 : decide (0 < x7_1) = false := decide_eq_false c8
    clear c8
    have H' := zK H
    clear H
    have p253 : 0 ≤ (x7_1 : Int) := oD M1
    have q253 : x7_1 < (l0.length : Int) := oD M1
    obtain ⟨ad253, e253, hx253_0⟩ := Kd.at_int HR0.o x7_1 p253 q253
    cases e253
    replace p253 := eq_true p253
    replace q253 := eq_true q253
    go_wp2_with (first | (go_at_call 95; (with_reducible refine (spec_l1In.calls (rd l0 x7_1) a1 a2 true _ A6.o).mono ?_); rintro e w' ⟨rfl, ⟨nd, rfl⟩⟩; (try first | exact ⟨rfl, _, World.drewN_drewN _ _ _⟩ | exact ⟨rfl, _, Eq.trans (World.drewN_drewN _ _ _) (congrArg (World.drewN _) (Nat.add_assoc _ _ _))⟩)))
    repeat (go_quiet (first | (go_at_call 95; (with_reducible refine (spec_l1In.calls (rd l0 x7_1) a1 a2 true _ A6.o).mono ?_); rintro e w' ⟨rfl, ⟨nd, rfl⟩⟩; (try first | exact ⟨rfl, _, World.drewN_drewN _ _ _⟩ | exact ⟨rfl, _, Eq.trans (World.drewN_drewN _ _ _) (congrArg (World.drewN _) (Nat.add_assoc _ _ _))⟩))); try go_wp2_with (first | (go_at_call 95; (with_reducible refine (spec_l1In.calls (rd l0 x7_1) a1 a2 true _ A6.o).mono ?_); rintro e w' ⟨rfl, ⟨nd, rfl⟩⟩; (try first | exact ⟨rfl, _, World.drewN_drewN _ _ _⟩ | exact ⟨rfl, _, Eq.trans (World.drewN_drewN _ _ _) (congrArg (World.drewN _) (Nat.add_assoc _ _ _))⟩))))
    go_roundg k1
    case measure => have := HK1.o; omega
    case rel => exact ⟨(wrap64 (x7_1 + 1)), M3, H', ⟨by have := HK1.o; omega⟩, by repeat (first | exact Drawn0.refl _ | apply Drawn0.step)⟩
   rw [if_pos c8] at H
   have c8b0 : decide (0 < x7_1) = true := decide_eq_true c8
   clear c8
   obtain ⟨ji9, hji9⟩ : ∃ j_ : Int, (wrap64 (x7_1 - 1)) = j_ := ⟨_, rfl⟩
   replace H : (if 0 ≤ (ji9) then (if (ji9) < (l0.length : Int) then (if (rd l0 (ji9)) ≥ (rd l0 x7_1) then (some false) else (spec_l7Ids.l0 k1 l0 a1 a2 (wrap64 (x7_1 + 1)))) else (none)) else (none)) = some r := by first | (rw [hji9] at H; exact H) | (simp only [hji9] at H ⊢; exact H)
   (try rw [hji9] at A6)
   have hji9w : (IntKind.i64.wrap (x7_1 - 1)) = ji9 := (i64_w _).trans hji9
   by_cases c10 : 0 ≤ (ji9)
   rotate_left
   ·rw [if_neg c10] at H
    exact absurd H (by simp)
   rw [if_pos c10] at H
   have c10b0 : decide (0 ≤ (ji9)) = true := decide_eq_true c10
   clear c10
   by_cases c11 : (ji9) < (l0.length : Int)
   rotate_left
   ·rw [if_neg c11] at H
    exact absurd H (by simp)
   rw [if_pos c11] at H
   have c11b0 : decide ((ji9) < (l0.length : Int)) = true := decide_eq_true c11
   clear c11
   by_cases c12 : (rd l0 (ji9)) ≥ (rd l0 x7_1)
   ·rw [if_pos c12] at H
    have c12b0 : decide ((rd l0 x7_1) ≤ (rd l0 (ji9))) = true := decide_eq_true c12
    clear c12
    obtain rfl := Option.some.inj H
    have p253 : 0 ≤ (x7_1 : Int) := oD M1
    have q253 : x7_1 < (l0.length : Int) := oD M1
    obtain ⟨ad253, e253, hx253_0⟩ := Kd.at_int HR0.o x7_1 p253 q253
    cases e253
    replace p253 := eq_true p253
    replace q253 := eq_true q253
    go_wp2_with (first | (go_at_call 95; (with_reducible refine (spec_l1In.calls (rd l0 x7_1) a1 a2 true _ A6.o).mono ?_); rintro e w' ⟨rfl, ⟨nd, rfl⟩⟩; (try first | exact ⟨rfl, _, World.drewN_drewN _ _ _⟩ | exact ⟨rfl, _, Eq.trans (World.drewN_drewN _ _ _) (congrArg (World.drewN _) (Nat.add_assoc _ _ _))⟩); have p255 : 0 ≤ ((ji9) : Int) := oD M1; have q255 : (ji9) < (l0.length : Int) := oD M1; obtain ⟨ad255, e255, hx255_0⟩ := Kd.at_int HR0.o (ji9) p255 q255; obtain rfl : ad253 = ad255 := (by injection e255); replace p255 := eq_true p255; replace q255 := eq_true q255; have p256 : 0 ≤ (x7_1 : Int) := oD M1; have q256 : x7_1 < (l0.length : Int) := oD M1; obtain ⟨ad256, e256, hx256_0⟩ := Kd.at_int HR0.o x7_1 p256 q256; obtain rfl : ad253 = ad256 := (by injection e256); replace p256 := eq_true p256; replace q256 := eq_true q256))
    repeat (go_quiet (first | (go_at_call 95; (with_reducible refine (spec_l1In.calls (rd l0 x7_1) a1 a2 true _ A6.o).mono ?_); rintro e w' ⟨rfl, ⟨nd, rfl⟩⟩; (try first | exact ⟨rfl, _, World.drewN_drewN _ _ _⟩ | exact ⟨rfl, _, Eq.trans (World.drewN_drewN _ _ _) (congrArg (World.drewN _) (Nat.add_assoc _ _ _))⟩); have p255 : 0 ≤ ((ji9) : Int) := oD M1; have q255 : (ji9) < (l0.length : Int) := oD M1; obtain ⟨ad255, e255, hx255_0⟩ := Kd.at_int HR0.o (ji9) p255 q255; obtain rfl : ad253 = ad255 := (by injection e255); replace p255 := eq_true p255; replace q255 := eq_true q255; have p256 : 0 ≤ (x7_1 : Int) := oD M1; have q256 : x7_1 < (l0.length : Int) := oD M1; obtain ⟨ad256, e256, hx256_0⟩ := Kd.at_int HR0.o x7_1 p256 q256; obtain rfl : ad253 = ad256 := (by injection e256); replace p256 := eq_true p256; replace q256 := eq_true q256)); try go_wp2_with (first | (go_at_call 95; (with_reducible refine (spec_l1In.calls (rd l0 x7_1) a1 a2 true _ A6.o).mono ?_); rintro e w' ⟨rfl, ⟨nd, rfl⟩⟩; (try first | exact ⟨rfl, _, World.drewN_drewN _ _ _⟩ | exact ⟨rfl, _, Eq.trans (World.drewN_drewN _ _ _) (congrArg (World.drewN _) (Nat.add_assoc _ _ _))⟩); have p255 : 0 ≤ ((ji9) : Int) := oD M1; have q255 : (ji9) < (l0.length : Int) := oD M1; obtain ⟨ad255, e255, hx255_0⟩ := Kd.at_int HR0.o (ji9) p255 q255; obtain rfl : ad253 = ad255 := (by injection e255); replace p255 := eq_true p255; replace q255 := eq_true q255; have p256 : 0 ≤ (x7_1 : Int) := oD M1; have q256 : x7_1 < (l0.length : Int) := oD M1; obtain ⟨ad256, e256, hx256_0⟩ := Kd.at_int HR0.o x7_1 p256 q256; obtain rfl : ad253 = ad256 := (by injection e256); replace p256 := eq_true p256; replace q256 := eq_true q256)))
    go_ret
    exact ⟨by first | rfl | (simp; done) | (simp only [← hji9] <;> (first | rfl | simp)) | (simp [*]; done), by repeat (first | exact Drawn0.refl _ | apply Drawn0.step)⟩
   rw [if_neg c12] at H
   have c12b0 : decide ((rd l0 x7_1) ≤ (rd l0 (ji9))) = false := decide_eq_false c12
   clear c12
   have H' := zK H
   clear H
   have p253 : 0 ≤ (x7_1 : Int) := oD M1
   have q253 : x7_1 < (l0.length : Int) := oD M1
   obtain ⟨ad253, e253, hx253_0⟩ := Kd.at_int HR0.o x7_1 p253 q253
   cases e253
   replace p253 := eq_true p253
   replace q253 := eq_true q253
   go_wp2_with (first | (go_at_call 95; (with_reducible refine (spec_l1In.calls (rd l0 x7_1) a1 a2 true _ A6.o).mono ?_); rintro e w' ⟨rfl, ⟨nd, rfl⟩⟩; (try first | exact ⟨rfl, _, World.drewN_drewN _ _ _⟩ | exact ⟨rfl, _, Eq.trans (World.drewN_drewN _ _ _) (congrArg (World.drewN _) (Nat.add_assoc _ _ _))⟩); have p255 : 0 ≤ ((ji9) : Int) := oD M1; have q255 : (ji9) < (l0.length : Int) := oD M1; obtain ⟨ad255, e255, hx255_0⟩ := Kd.at_int HR0.o (ji9) p255 q255; obtain rfl : ad253 = ad255 := (by injection e255); replace p255 := eq_true p255; replace q255 := eq_true q255; have p256 : 0 ≤ (x7_1 : Int) := oD M1; have q256 : x7_1 < (l0.length : Int) := oD M1; obtain ⟨ad256, e256, hx256_0⟩ := Kd.at_int HR0.o x7_1 p256 q256; obtain rfl : ad253 = ad256 := (by injection e256); replace p256 := eq_true p256; replace q256 := eq_true q256))
   repeat (go_quiet (first | (go_at_call 95; (with_reducible refine (spec_l1In.calls (rd l0 x7_1) a1 a2 true _ A6.o).mono ?_); rintro e w' ⟨rfl, ⟨nd, rfl⟩⟩; (try first | exact ⟨rfl, _, World.drewN_drewN _ _ _⟩ | exact ⟨rfl, _, Eq.trans (World.drewN_drewN _ _ _) (congrArg (World.drewN _) (Nat.add_assoc _ _ _))⟩); have p255 : 0 ≤ ((ji9) : Int) := oD M1; have q255 : (ji9) < (l0.length : Int) := oD M1; obtain ⟨ad255, e255, hx255_0⟩ := Kd.at_int HR0.o (ji9) p255 q255; obtain rfl : ad253 = ad255 := (by injection e255); replace p255 := eq_true p255; replace q255 := eq_true q255; have p256 : 0 ≤ (x7_1 : Int) := oD M1; have q256 : x7_1 < (l0.length : Int) := oD M1; obtain ⟨ad256, e256, hx256_0⟩ := Kd.at_int HR0.o x7_1 p256 q256; obtain rfl : ad253 = ad256 := (by injection e256); replace p256 := eq_true p256; replace q256 := eq_true q256)); try go_wp2_with (first | (go_at_call 95; (with_reducible refine (spec_l1In.calls (rd l0 x7_1) a1 a2 true _ A6.o).mono ?_); rintro e w' ⟨rfl, ⟨nd, rfl⟩⟩; (try first | exact ⟨rfl, _, World.drewN_drewN _ _ _⟩ | exact ⟨rfl, _, Eq.trans (World.drewN_drewN _ _ _) (congrArg (World.drewN _) (Nat.add_assoc _ _ _))⟩); have p255 : 0 ≤ ((ji9) : Int) := oD M1; have q255 : (ji9) < (l0.length : Int) := oD M1; obtain ⟨ad255, e255, hx255_0⟩ := Kd.at_int HR0.o (ji9) p255 q255; obtain rfl : ad253 = ad255 := (by injection e255); replace p255 := eq_true p255; replace q255 := eq_true q255; have p256 : 0 ≤ (x7_1 : Int) := oD M1; have q256 : x7_1 < (l0.length : Int) := oD M1; obtain ⟨ad256, e256, hx256_0⟩ := Kd.at_int HR0.o x7_1 p256 q256; obtain rfl : ad253 = ad256 := (by injection e256); replace p256 := eq_true p256; replace q256 := eq_true q256)))
   go_roundg k1
   case measure => have := HK1.o; omega
   case rel => exact ⟨(wrap64 (x7_1 + 1)), M3, H', ⟨by have := HK1.o; omega⟩, by repeat (first | exact Drawn0.refl _ | apply Drawn0.step)⟩
/-! ### spec_IsSpan: function 211 -/
def spec_IsSpan.f (a0_0 : Int) (a0_1 : Int) : Option (Bool) := (spec_l1In.f a0_0 0 100000).bind fun t258 => (if t258 = true then ((spec_l1In.f a0_1 0 100000).bind fun t259 => (if t259 = true then (some (decide (a0_0 ≤ a0_1))) else (some false))) else (some false))
set_option maxRecDepth 100000 in
theorem lf12_0 {p : Prop} (h : p := by
  go_enter Try.func211, Try.ntmps211
  go_wp2_with (first | ((with_reducible refine gate_dst (N := 1) rfl ?_); refine box_event ?hg (N := 1) ?hd (cs := #[.int .i64 a0_0, .int .i64 a0_1]) (t := 85) ?hr ?_; (case hd => rfl); (case hg => rfl); (case hr => first | (go_simp; done) | (go_simp; rfl)); intro gb257 hg wz0 hbox hb; have _ := zK (bT (qB HB.o) hb); have _ := zK (hbox); have _ := zK ((by rw [hg]; exact (bZ (qB HB.o)) : w.heap.size ≤ gb257)); have _ := zK ((by rw [hg]; exact (bZ (qB HB.o)) : w.heap.size ≤ gb257)); clear HB; rename_i HB BK257 GW257 GE257; clear hb hbox hg; obtain ⟨hczz0_0, hczz0_1, hfzz0_0, hfzz0_1⟩ := bx2 BK257.o) | ((with_reducible refine gate_callee (f := 95) rfl ?_); refine goesL_ (some 5) rfl rfl Try.func95 (by kernel_rfl) rfl #[.int .i64 a0_0, .int .i64 0, .int .i64 100000] rfl M0 ?_; (with_reducible refine (spec_l1In.calls a0_0 0 100000 true _ A2.o).mono ?_); rintro e w' ⟨rfl, ⟨nd, rfl⟩⟩; refine ⟨_, rfl, ?_⟩) | (go_at_call 95; (with_reducible refine (spec_l1In.calls a0_1 0 100000 false _ A4.o).mono ?_); rintro e w' ⟨rfl, ⟨nd, rfl⟩⟩) | (go_at_call 95; (with_reducible refine (spec_l1In.calls a0_1 0 100000 true _ A4.o).mono ?_); rintro e w' ⟨rfl, ⟨nd, rfl⟩⟩) | ((with_reducible refine gate_callee (f := 95) rfl ?_); refine goesL_ (some 5) rfl rfl Try.func95 (by kernel_rfl) rfl #[.int .i64 a0_0, .int .i64 0, .int .i64 100000] rfl M0 ?_; (with_reducible refine (spec_l1In.calls a0_0 0 100000 false _ A2.o).mono ?_); rintro e w' ⟨rfl, ⟨nd, rfl⟩⟩; refine ⟨_, rfl, ?_⟩))
  go_ret
  exact ⟨by first | rfl | (simp [errW_none, errW_some] <;> rfl) | (simp [*, errW_none, errW_some] <;> rfl), by exact qX HB.o⟩) : p := h
set_option maxHeartbeats 8000000 in
set_option maxRecDepth 100000 in
theorem spec_IsSpan.calls (a0_0 : Int) (a0_1 : Int) (r : Bool) (w : World) (h : spec_IsSpan.f a0_0 a0_1 = some r) :
  Calls Try.prog 211 #[.agg #[.int .i64 a0_0, .int .i64 a0_1]] w fun e w' => e = .returned (.bool r) ∧ Below w.heap.size w w' := by
 have hu85 := Try.underlying85
 have HB := zK (Below.refl w.heap.size w)
 have H : ((spec_l1In.f a0_0 0 100000).bind fun t258 => (if t258 = true then ((spec_l1In.f a0_1 0 100000).bind fun t259 => (if t259 = true then (some (decide (a0_0 ≤ a0_1))) else (some false))) else (some false))) = some r := h
 clear h
 replace H := Option.bind_eq_some_iff.mp H
 obtain ⟨t258, A20, H⟩ := H
 try dsimp only at H
 have A2 := zK A20
 clear A20
 by_cases c3 : t258 = true
 rotate_left
 ·replace c3 := Bool.eq_false_iff.mpr c3
  subst c3
  have H1 : (some false) = some r := by rw [if_neg (show ¬ (false = true) by decide)] at H; exact H
  clear H
  have H := H1
  clear H1
  obtain rfl := Option.some.inj H
  exact lf12_0
 subst c3
 have H1 : ((spec_l1In.f a0_1 0 100000).bind fun t259 => (if t259 = true then (some (decide (a0_0 ≤ a0_1))) else (some false))) = some r := by rw [if_pos rfl] at H; exact H
 clear H
 have H := H1
 clear H1
 replace H := Option.bind_eq_some_iff.mp H
 obtain ⟨t259, A40, H⟩ := H
 try dsimp only at H
 have A4 := zK A40
 clear A40
 by_cases c5 : t259 = true
 ·subst c5
  have H1 : (some (decide (a0_0 ≤ a0_1))) = some r := by rw [if_pos rfl] at H; exact H
  clear H
  have H := H1
  clear H1
  obtain rfl := Option.some.inj H
  exact lf12_0
 replace c5 := Bool.eq_false_iff.mpr c5
 subst c5
 have H1 : (some false) = some r := by rw [if_neg (show ¬ (false = true) by decide)] at H; exact H
 clear H
 have H := H1
 clear H1
 obtain rfl := Option.some.inj H
 exact lf12_0
/-! ### spec_IsReport: function 175 -/
def spec_IsReport.f (k : Nat) (a0_0 : Int) (a0_1 : Int) (l0_2 : List Int) (a0_3 : Int) (a0_4 : Int) (l0_5 : List Int) (a0_6 : Int) (a0_7 : Int) : Option (Bool) := (spec_l1In.f a0_0 1 999).bind fun t261 => (if t261 = true then ((spec_l1In.f a0_1 1 8).bind fun t262 => (if t262 = true then ((spec_l7Ids.f k l0_2 0 7).bind fun t263 => (if t263 = true then (if a0_3 ≥ 1 then (if a0_3 ≤ a0_4 then (if a0_4 ≤ 50 then ((spec_l7Ids.f k l0_5 1 30).bind fun t264 => (if t264 = true then (if (l0_5.length : Int) ≤ 10 then ((spec_IsSpan.f a0_6 a0_7).bind fun t265 => (some t265)) else (some false)) else (some false))) else (some false)) else (some false)) else (some false)) else (some false))) else (some false))) else (some false))
set_option maxRecDepth 100000 in
theorem lf12_1 {p : Prop} (h : p := by
  go_enter Try.func175, Try.ntmps175
  go_wp2_with (first | ((with_reducible refine gate_dst (N := 1) rfl ?_); (try (refine gate_guard (by rfl) ?_; dsimp only)); refine box_event ?hg (N := 1) ?hd (cs := #[.int .i64 a0_0, .int .i64 a0_1, .slice A0_2 l0_2.length c0_2, .int .i64 a0_3, .int .i64 a0_4, .slice A0_5 l0_5.length c0_5, .int .i64 a0_6, .int .i64 a0_7]) (t := 87) ?hr ?_; (case hd => rfl); (case hg => rfl); (case hr => first | (go_simp; done) | (go_simp; rfl)); intro gb260 hg wz0 hbox hb; have _ := zK (bT (qB HB.o) hb); have _ := zK (hbox); have _ := zK ((by rw [hg]; exact (bZ (qB HB.o)) : w.heap.size ≤ gb260)); have _ := zK ((by rw [hg]; exact (bZ (qB HB.o)) : w.heap.size ≤ gb260)); clear HB; rename_i HB BK260 GW260 GE260; clear hb hbox hg; obtain ⟨hczz0_0, hczz0_1, hczz0_2, hczz0_3, hczz0_4, hczz0_5, hczz0_6, hczz0_7, hfzz0_0, hfzz0_1, hfzz0_2, hfzz0_3, hfzz0_4, hfzz0_5, hfzz0_6, hfzz0_7⟩ := bx8 BK260.o) | ((with_reducible refine gate_callee (f := 95) rfl ?_); refine goesL_ (some 5) rfl rfl Try.func95 (by kernel_rfl) rfl #[.int .i64 a0_0, .int .i64 1, .int .i64 999] rfl M0 ?_; (with_reducible refine (spec_l1In.calls a0_0 1 999 true _ A2.o).mono ?_); rintro e w' ⟨rfl, ⟨nd, rfl⟩⟩; refine ⟨_, rfl, ?_⟩) | (go_at_call 95; (with_reducible refine (spec_l1In.calls a0_1 1 8 true _ A4.o).mono ?_); rintro e w' ⟨rfl, ⟨nd, rfl⟩⟩) | (go_at_call 210; (with_reducible refine (spec_l7Ids.calls k _ _ l0_2 0 7 true _ ?side1 ?side2 A6.o).mono ?_); (case side1 => repeat (first | exact (Kd.C_below HR0_2.o M16) | (with_reducible refine Kd.CA ?_ _) | (with_reducible refine Kd.CN ?_ _) | (with_reducible refine Kd.CD ?_))); (case side2 => exact HC0_2.o); rintro e w' ⟨rfl, ⟨nd, rfl⟩⟩) | (go_at_call 210; (with_reducible refine (spec_l7Ids.calls k _ _ l0_5 1 30 true _ ?side1 ?side2 A11.o).mono ?_); (case side1 => repeat (first | exact (Kd.C_below HR0_5.o M16) | (with_reducible refine Kd.CA ?_ _) | (with_reducible refine Kd.CN ?_ _) | (with_reducible refine Kd.CD ?_))); (case side2 => exact HC0_5.o); rintro e w' ⟨rfl, ⟨nd, rfl⟩⟩) | (go_at_call 211; (with_reducible refine (spec_IsSpan.calls a0_6 a0_7 t265 _ A14.o).mono ?_); rintro e wz1 ⟨rfl, hb⟩; have _ := zK (bB (qK BK260.o) hb); have _ := zK (bT M16 hb); clear BK260 HB; rename_i BK260 HB; (try clear hb); (try clear hb2); (try clear hk); (try clear hi)) | (go_at_call 210; (with_reducible refine (spec_l7Ids.calls k _ _ l0_5 1 30 false _ ?side1 ?side2 A11.o).mono ?_); (case side1 => repeat (first | exact (Kd.C_below HR0_5.o M16) | (with_reducible refine Kd.CA ?_ _) | (with_reducible refine Kd.CN ?_ _) | (with_reducible refine Kd.CD ?_))); (case side2 => exact HC0_5.o); rintro e w' ⟨rfl, ⟨nd, rfl⟩⟩) | (go_at_call 210; (with_reducible refine (spec_l7Ids.calls k _ _ l0_2 0 7 false _ ?side1 ?side2 A6.o).mono ?_); (case side1 => repeat (first | exact (Kd.C_below HR0_2.o M16) | (with_reducible refine Kd.CA ?_ _) | (with_reducible refine Kd.CN ?_ _) | (with_reducible refine Kd.CD ?_))); (case side2 => exact HC0_2.o); rintro e w' ⟨rfl, ⟨nd, rfl⟩⟩) | (go_at_call 95; (with_reducible refine (spec_l1In.calls a0_1 1 8 false _ A4.o).mono ?_); rintro e w' ⟨rfl, ⟨nd, rfl⟩⟩) | ((with_reducible refine gate_callee (f := 95) rfl ?_); refine goesL_ (some 5) rfl rfl Try.func95 (by kernel_rfl) rfl #[.int .i64 a0_0, .int .i64 1, .int .i64 999] rfl M0 ?_; (with_reducible refine (spec_l1In.calls a0_0 1 999 false _ A2.o).mono ?_); rintro e w' ⟨rfl, ⟨nd, rfl⟩⟩; refine ⟨_, rfl, ?_⟩))
  go_ret
  exact ⟨by first | rfl | (simp [errW_none, errW_some] <;> rfl) | (simp [*, errW_none, errW_some] <;> rfl), by exact qX HB.o⟩) : p := h
set_option maxHeartbeats 8000000 in
set_option maxRecDepth 100000 in
theorem spec_IsReport.calls (k : Nat) (a0_0 : Int) (a0_1 : Int) (A0_2 : Option Addr) (c0_2 : Nat) (l0_2 : List Int) (a0_3 : Int) (a0_4 : Int) (A0_5 : Option Addr) (c0_5 : Nat) (l0_5 : List Int) (a0_6 : Int) (a0_7 : Int) (r : Bool) (w : World) (hr0_2 : Kd.C (Kd.int .i64) w A0_2 l0_2.length l0_2) (hc0_2 : l0_2.length ≤ c0_2) (hr0_5 : Kd.C (Kd.int .i64) w A0_5 l0_5.length l0_5) (hc0_5 : l0_5.length ≤ c0_5) (h : spec_IsReport.f k a0_0 a0_1 l0_2 a0_3 a0_4 l0_5 a0_6 a0_7 = some r) :
  Calls Try.prog 175 #[.agg #[.int .i64 a0_0, .int .i64 a0_1, .slice A0_2 l0_2.length c0_2, .int .i64 a0_3, .int .i64 a0_4, .slice A0_5 l0_5.length c0_5, .int .i64 a0_6, .int .i64 a0_7]] w fun e w' => e = .returned (.bool r) ∧ Below w.heap.size w w' := by
 have hu87 := Try.underlying87
 have hu85 := Try.underlying85
 have HR0_2 := zK hr0_2
 have HC0_2 := zK hc0_2
 clear hr0_2 hc0_2
 have HR0_5 := zK hr0_5
 have HC0_5 := zK hc0_5
 clear hr0_5 hc0_5
 have HB := zK (Below.refl w.heap.size w)
 have H : ((spec_l1In.f a0_0 1 999).bind fun t261 => (if t261 = true then ((spec_l1In.f a0_1 1 8).bind fun t262 => (if t262 = true then ((spec_l7Ids.f k l0_2 0 7).bind fun t263 => (if t263 = true then (if a0_3 ≥ 1 then (if a0_3 ≤ a0_4 then (if a0_4 ≤ 50 then ((spec_l7Ids.f k l0_5 1 30).bind fun t264 => (if t264 = true then (if (l0_5.length : Int) ≤ 10 then ((spec_IsSpan.f a0_6 a0_7).bind fun t265 => (some t265)) else (some false)) else (some false))) else (some false)) else (some false)) else (some false)) else (some false))) else (some false))) else (some false))) = some r := h
 clear h
 replace H := Option.bind_eq_some_iff.mp H
 obtain ⟨t261, A20, H⟩ := H
 try dsimp only at H
 have A2 := zK A20
 clear A20
 by_cases c3 : t261 = true
 rotate_left
 ·replace c3 := Bool.eq_false_iff.mpr c3
  subst c3
  have H1 : (some false) = some r := by rw [if_neg (show ¬ (false = true) by decide)] at H; exact H
  clear H
  have H := H1
  clear H1
  obtain rfl := Option.some.inj H
  exact lf12_1

 subst c3
 have H1 : ((spec_l1In.f a0_1 1 8).bind fun t262 => (if t262 = true then ((spec_l7Ids.f k l0_2 0 7).bind fun t263 => (if t263 = true then (if a0_3 ≥ 1 then (if a0_3 ≤ a0_4 then (if a0_4 ≤ 50 then ((spec_l7Ids.f k l0_5 1 30).bind fun t264 => (if t264 = true then (if (l0_5.length : Int) ≤ 10 then ((spec_IsSpan.f a0_6 a0_7).bind fun t265 => (some t265)) else (some false)) else (some false))) else (some false)) else (some false)) else (some false)) else (some false))) else (some false))) = some r := by rw [if_pos rfl] at H; exact H
 clear H
 have H := H1
 clear H1
 replace H := Option.bind_eq_some_iff.mp H
 obtain ⟨t262, A40, H⟩ := H
 try dsimp only at H
 have A4 := zK A40
 clear A40
 by_cases c5 : t262 = true
 rotate_left
 ·replace c5 := Bool.eq_false_iff.mpr c5
  subst c5
  have H1 : (some false) = some r := by rw [if_neg (show ¬ (false = true) by decide)] at H; exact H
  clear H
  have H := H1
  clear H1
  obtain rfl := Option.some.inj H
  exact lf12_1
 subst c5
 have H1 : ((spec_l7Ids.f k l0_2 0 7).bind fun t263 => (if t263 = true then (if a0_3 ≥ 1 then (if a0_3 ≤ a0_4 then (if a0_4 ≤ 50 then ((spec_l7Ids.f k l0_5 1 30).bind fun t264 => (if t264 = true then (if (l0_5.length : Int) ≤ 10 then ((spec_IsSpan.f a0_6 a0_7).bind fun t265 => (some t265)) else (some false)) else (some false))) else (some false)) else (some false)) else (some false)) else (some false))) = some r := by rw [if_pos rfl] at H; exact H
 clear H
 have H := H1
 clear H1
 replace H := Option.bind_eq_some_iff.mp H
 obtain ⟨t263, A60, H⟩ := H
 try dsimp only at H
 have A6 := zK A60
 clear A60
 by_cases c7 : t263 = true
 rotate_left
 ·replace c7 := Bool.eq_false_iff.mpr c7
  subst c7
  have H1 : (some false) = some r := by rw [if_neg (show ¬ (false = true) by decide)] at H; exact H
  clear H
  have H := H1
  clear H1
  obtain rfl := Option.some.inj H
  exact lf12_1
 subst c7
 have H1 : (if a0_3 ≥ 1 then (if a0_3 ≤ a0_4 then (if a0_4 ≤ 50 then ((spec_l7Ids.f k l0_5 1 30).bind fun t264 => (if t264 = true then (if (l0_5.length : Int) ≤ 10 then ((spec_IsSpan.f a0_6 a0_7).bind fun t265 => (some t265)) else (some false)) else (some false))) else (some false)) else (some false)) else (some false)) = some r := by rw [if_pos rfl] at H; exact H
 clear H
 have H := H1
 clear H1
 by_cases c8 : a0_3 ≥ 1
 rotate_left
 ·rw [if_neg c8] at H
  have c8b0 : decide (1 ≤ a0_3) = false := decide_eq_false c8
  clear c8
  obtain rfl := Option.some.inj H
  exact lf12_1
 rw [if_pos c8] at H
 have c8b0 : decide (1 ≤ a0_3) = true := decide_eq_true c8
 clear c8
 by_cases c9 : a0_3 ≤ a0_4
 rotate_left
 ·rw [if_neg c9] at H
  have c9b0 : decide (a0_3 ≤ a0_4) = false := decide_eq_false c9
  clear c9
  obtain rfl := Option.some.inj H
  exact lf12_1
 rw [if_pos c9] at H
 have c9b0 : decide (a0_3 ≤ a0_4) = true := decide_eq_true c9
 clear c9
 by_cases c10 : a0_4 ≤ 50
 rotate_left
 ·rw [if_neg c10] at H
  have c10b0 : decide (a0_4 ≤ 50) = false := decide_eq_false c10
  clear c10
  obtain rfl := Option.some.inj H
  exact lf12_1
 rw [if_pos c10] at H
 have c10b0 : decide (a0_4 ≤ 50) = true := decide_eq_true c10
 clear c10
 replace H := Option.bind_eq_some_iff.mp H
 obtain ⟨t264, A110, H⟩ := H
 try dsimp only at H
 have A11 := zK A110
 clear A110
 by_cases c12 : t264 = true
 rotate_left
 ·replace c12 := Bool.eq_false_iff.mpr c12
  subst c12
  have H1 : (some false) = some r := by rw [if_neg (show ¬ (false = true) by decide)] at H; exact H
  clear H
  have H := H1
  clear H1
  obtain rfl := Option.some.inj H
  exact lf12_1
 subst c12
 have H1 : (if (l0_5.length : Int) ≤ 10 then ((spec_IsSpan.f a0_6 a0_7).bind fun t265 => (some t265)) else (some false)) = some r := by rw [if_pos rfl] at H; exact H
 clear H
 have H := H1
 clear H1
 by_cases c13 : (l0_5.length : Int) ≤ 10
 rotate_left
 ·rw [if_neg c13] at H
  have c13b0 : decide ((l0_5.length : Int) ≤ 10) = false := decide_eq_false c13
  have c13b1 : decide (l0_5.length ≤ 10) = false := decide_eq_false (by omega)
  clear c13
  obtain rfl := Option.some.inj H
  exact lf12_1
 rw [if_pos c13] at H
 have c13b0 : decide ((l0_5.length : Int) ≤ 10) = true := decide_eq_true c13
 have c13b1 : decide (l0_5.length ≤ 10) = true := decide_eq_true (by omega)
 clear c13
 replace H := Option.bind_eq_some_iff.mp H
 obtain ⟨t265, A140, H⟩ := H
 replace H : (some t265) = some r := H
 have A14 := zK A140
 clear A140
 obtain rfl := Option.some.inj H
 exact lf12_1
end Go.Proofs.Ytpkdbkheggfkkaa.PFnExactLettersFor
