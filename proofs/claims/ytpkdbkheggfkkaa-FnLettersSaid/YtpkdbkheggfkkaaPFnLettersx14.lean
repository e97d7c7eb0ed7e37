/- Walks of functions that FnLetters reaches, shortened. -/
import Derived.Test.YtpkdbkheggfkkaaPFnLettersx0
import Derived.Test.YtpkdbkheggfkkaaPFnLettersx7
import Derived.Test.YtpkdbkheggfkkaaPFnLettersx8
import Derived.Test.YtpkdbkheggfkkaaPFnLettersx9
import Derived.Test.YtpkdbkheggfkkaaPFnLettersx11
import Derived.Test.YtpkdbkheggfkkaaPFnLettersx12
import Derived.Test.YtpkdbkheggfkkaaPFnLettersx13
namespace Go.Proofs.Ytpkdbkheggfkkaa.PFnLetters
open Go.RowKit Go.Proofs.YtpkdbkheggfkkaaW.PrintWords Go.Proofs.YtpkdbkheggfkkaaW.PrintLast Go.Proofs.YtpkdbkheggfkkaaW.PrintMore
attribute [local go_sem] max2_int min2_int max_two min_two max_three min_three max_four min_four
set_option linter.unusedVariables false
set_option linter.unusedSimpArgs false

/-! ### impl_LettersFor: function 52 -/
mutual
def impl_LettersFor.j0 : Nat → List (S81) → List (S87) → List (S126) → Int → Bool → Option ((List (S81)))
 | 0, _, _, _, _, _ => none
 | k + 1, x0, x1, x2, x3, x25 => if x25 = true then (some (([] : List (S81)))) else ((impl_Letter_118.f x0).bind fun t610 => (impl_LettersFor.l0 k x0 x2 x3 t610 x1 (x1.length : Int) 0))
def impl_LettersFor.l0 : Nat → List (S81) → List (S126) → Int → List (S81) → List (S87) → Int → Int → Option ((List (S81)))
 | 0, _, _, _, _, _, _, _ => none
 | k + 1, x0, x2, x3, x9, x29, x30, x31 => if x31 < x30 then (if 0 ≤ x31 then (if x31 < (x29.length : Int) then ((impl_toWrite.f k x9 ((rd_T87 x29 x31).f0) ((rd_T87 x29 x31).f1) ((rd_T87 x29 x31).f2) ((rd_T87 x29 x31).f3) ((rd_T87 x29 x31).f4) ((rd_T87 x29 x31).f5) ((rd_T87 x29 x31).f6.f0) ((rd_T87 x29 x31).f6.f1) x2).bind fun t618 => (if t618 = 0 then (impl_LettersFor.l0 k x0 x2 x3 x9 x29 x30 (wrap64 (x31 + 1))) else ((impl_WriteLetter.f k x9 ((rd_T87 x29 x31).f0) t618 x3).bind fun bt619 => (impl_LettersFor.l0 k x0 x2 x3 bt619.1 x29 x30 (wrap64 (x31 + 1)))))) else (none)) else (none)) else (if 0 ≤ (x0.length : Int) then (if (x0.length : Int) ≤ (x9.length : Int) then (some (x9.drop ((x0.length : Int) : Int).toNat)) else (none)) else (none))
end
def impl_LettersFor.f (k : Nat) (l0 : List (S81)) (l1 : List (S87)) (l2 : List (S126)) (a3 : Int) : Option ((List (S81))) := (impl_AreLetters.f k l0).bind fun t604 => (if t604 = true then ((impl_AreReports.f k l1).bind fun t605 => (if t605 = true then ((impl_AreFinds.f k l2).bind fun t606 => (impl_LettersFor.j0 k l0 l1 l2 a3 (!t606))) else (impl_LettersFor.j0 k l0 l1 l2 a3 true))) else (impl_LettersFor.j0 k l0 l1 l2 a3 true))
set_option maxHeartbeats 8000000 in
set_option maxRecDepth 100000 in
theorem impl_LettersFor.calls (k : Nat) (A0 : Option Addr) (c0 : Nat) (l0 : List (S81)) (A1 : Option Addr) (c1 : Nat) (l1 : List (S87)) (A2 : Option Addr) (c2 : Nat) (l2 : List (S126)) (a3 : Int) (r : List (S81)) (w : World) (hr0 : Kd.C k81 w A0 l0.length l0) (hc0 : l0.length ≤ c0) (hr1 : Kd.C k87 w A1 l1.length l1) (hc1 : l1.length ≤ c1) (hr2 : Kd.C k126 w A2 l2.length l2) (hc2 : l2.length ≤ c2) (h : impl_LettersFor.f k l0 l1 l2 a3 = some r) :
  Calls Try.prog 52 #[.slice A0 l0.length c0, .slice A1 l1.length c1, .slice A2 l2.length c2, .int .i64 a3] w fun e w' => ∃ v0_ : Value, e = .returned (v0_) ∧ Kd.Q k81 81 w' w.heap.size (fun _ => True) v0_ r ∧ Below w.heap.size w w' := by
 have hu87 := Try.underlying87
 have HR0 := zK hr0
 have HC0 := zK hc0
 clear hr0 hc0
 have HR1 := zK hr1
 have HC1 := zK hc1
 clear hr1 hc1
 have HR2 := zK hr2
 have HC2 := zK hc2
 clear hr2 hc2
 have HB := zK (Below.refl w.heap.size w)
 have H : ((impl_AreLetters.f k l0).bind fun t604 => (if t604 = true then ((impl_AreReports.f k l1).bind fun t605 => (if t605 = true then ((impl_AreFinds.f k l2).bind fun t606 => (impl_LettersFor.j0 k l0 l1 l2 a3 (!t606))) else (impl_LettersFor.j0 k l0 l1 l2 a3 true))) else (impl_LettersFor.j0 k l0 l1 l2 a3 true))) = some r := h
 clear h
 have HC5 := zK H
 clear H
 go_enter Try.func52, Try.ntmps52
 go_upto_region 1 with (fail)
 go_cut [25] (fun v25 wc => ∃ (kq : Nat) (x25_4 : Bool), v25 = .bool x25_4 ∧ Aside0 (impl_LettersFor.j0 kq l0 l1 l2 a3 x25_4 = some r) ∧ Aside0 (kq ≤ k) ∧ Aside0 (Below w.heap.size w wc))
 case first =>
  have H := HC5.o
  clear HC5
  replace H := Option.bind_eq_some_iff.mp H
  obtain ⟨t604, A60, H⟩ := H
  try dsimp only at H
  have A6 := zK A60
  clear A60
  by_cases c7 : t604 = true
  rotate_left
  ·replace c7 := Bool.eq_false_iff.mpr c7
   subst c7
   have H1 : (impl_LettersFor.j0 k l0 l1 l2 a3 true) = some r := by rw [if_neg (show ¬ (false = true) by decide)] at H; exact H
   clear H
   have H := H1
   clear H1
   have H' := zK H
   clear H
   go_wp2_with (first | ((with_reducible refine gate_callee (f := 53) rfl ?_); refine goesL_ (some 14) rfl rfl Try.func53 (by kernel_rfl) rfl #[.slice A0 l0.length c0] rfl M0 ?_; (with_reducible refine (impl_AreLetters.calls k _ _ l0 false _ ?side1 ?side2 A6.o).mono ?_); (case side1 => exact Kd.qC (Kd.C_below HR0.o HB.o)); (case side2 => exact HC0.o); rintro e w16 ⟨rfl, hb⟩; refine ⟨_, rfl, ?_⟩; have _ := zK (bT (qB HB.o) hb); clear HB; rename_i HB; (try clear hb); (try clear hb2); (try clear hk); (try clear hi)))
   go_meet
   case rel => exact ⟨_, (true), M7, H', ⟨by first | omega | exact Nat.le_refl _⟩, ⟨by exact qB HB.o⟩⟩
  subst c7
  have H1 : ((impl_AreReports.f k l1).bind fun t605 => (if t605 = true then ((impl_AreFinds.f k l2).bind fun t606 => (impl_LettersFor.j0 k l0 l1 l2 a3 (!t606))) else (impl_LettersFor.j0 k l0 l1 l2 a3 true))) = some r := by rw [if_pos rfl] at H; exact H
  clear H
  have H := H1
  clear H1
  replace H := Option.bind_eq_some_iff.mp H
  obtain ⟨t605, A80, H⟩ := H
  try dsimp only at H
  have A8 := zK A80
  clear A80
  by_cases c9 : t605 = true
  rotate_left
  ·replace c9 := Bool.eq_false_iff.mpr c9
   subst c9
   have H1 : (impl_LettersFor.j0 k l0 l1 l2 a3 true) = some r := by rw [if_neg (show ¬ (false = true) by decide)] at H; exact H
   clear H
   have H := H1
   clear H1
   have H' := zK H
   clear H
   go_wp2_with (first | ((with_reducible refine gate_callee (f := 53) rfl ?_); refine goesL_ (some 14) rfl rfl Try.func53 (by kernel_rfl) rfl #[.slice A0 l0.length c0] rfl M0 ?_; (with_reducible refine (impl_AreLetters.calls k _ _ l0 true _ ?side1 ?side2 A6.o).mono ?_); (case side1 => exact Kd.qC (Kd.C_below HR0.o HB.o)); (case side2 => exact HC0.o); rintro e w14 ⟨rfl, hb⟩; refine ⟨_, rfl, ?_⟩; have _ := zK (bT (qB HB.o) hb); clear HB; rename_i HB; (try clear hb); (try clear hb2); (try clear hk); (try clear hi)) | (go_at_call 116; (with_reducible refine (impl_AreReports.calls k _ _ l1 false _ ?side1 ?side2 A8.o).mono ?_); (case side1 => exact Kd.qC (Kd.C_below HR1.o HB.o)); (case side2 => exact HC1.o); rintro e w15 ⟨rfl, hb⟩; have _ := zK (bT (qB HB.o) hb); clear HB; rename_i HB; (try clear hb); (try clear hb2); (try clear hk); (try clear hi)))
   go_meet
   case rel => exact ⟨_, (true), M7, H', ⟨by first | omega | exact Nat.le_refl _⟩, ⟨by exact qB HB.o⟩⟩
  subst c9
  have H1 : ((impl_AreFinds.f k l2).bind fun t606 => (impl_LettersFor.j0 k l0 l1 l2 a3 (!t606))) = some r := by rw [if_pos rfl] at H; exact H
  clear H
  have H := H1
  clear H1
  replace H := Option.bind_eq_some_iff.mp H
  obtain ⟨t606, A100, H⟩ := H
  try dsimp only at H
  have A10 := zK A100
  clear A100
  have H' := zK H
  clear H
  go_wp2_with (first | ((with_reducible refine gate_callee (f := 53) rfl ?_); refine goesL_ (some 14) rfl rfl Try.func53 (by kernel_rfl) rfl #[.slice A0 l0.length c0] rfl M0 ?_; (with_reducible refine (impl_AreLetters.calls k _ _ l0 true _ ?side1 ?side2 A6.o).mono ?_); (case side1 => exact Kd.qC (Kd.C_below HR0.o HB.o)); (case side2 => exact HC0.o); rintro e w11 ⟨rfl, hb⟩; refine ⟨_, rfl, ?_⟩; have _ := zK (bT (qB HB.o) hb); clear HB; rename_i HB; (try clear hb); (try clear hb2); (try clear hk); (try clear hi)) | (go_at_call 116; (with_reducible refine (impl_AreReports.calls k _ _ l1 true _ ?side1 ?side2 A8.o).mono ?_); (case side1 => exact Kd.qC (Kd.C_below HR1.o HB.o)); (case side2 => exact HC1.o); rintro e w12 ⟨rfl, hb⟩; have _ := zK (bT (qB HB.o) hb); clear HB; rename_i HB; (try clear hb); (try clear hb2); (try clear hk); (try clear hi)) | (go_at_call 117; (with_reducible refine (impl_AreFinds.calls k _ _ l2 t606 _ ?side1 ?side2 A10.o).mono ?_); (case side1 => exact Kd.qC (Kd.C_below HR2.o HB.o)); (case side2 => exact HC2.o); rintro e w13 ⟨rfl, hb⟩; have _ := zK (bT (qB HB.o) hb); clear HB; rename_i HB; (try clear hb); (try clear hb2); (try clear hk); (try clear hi)))
  go_meet
  case rel => exact ⟨_, (!t606), M7, H', ⟨by first | omega | exact Nat.le_refl _⟩, ⟨by exact qB HB.o⟩⟩
 case rest =>
  clear HC5
  try clear c1
  try clear c2
  try clear p2
  try clear c5
  try clear c7
  try clear c9
  obtain ⟨kq, x25_4, rfl, HA, HJ4, HB⟩ := hcut
  cases kq with
  | zero => exact absurd HA.o (by simp [impl_LettersFor.j0])
  | succ kj4 =>
   have H := HA.o
   clear HA
   simp only [impl_LettersFor.j0] at H
   by_cases c17 : x25_4 = true
   ·subst c17
    have H1 : (some (([] : List (S81)))) = some r := by rw [if_pos rfl] at H; exact H
    clear H
    have H := H1
    clear H1
    obtain ⟨y607, hy607⟩ : ∃ y_ : List (S81), y_ = (([] : List (S81))) := ⟨_, rfl⟩
    replace H : (some y607) = some r := by first | (rw [hy607]; with_reducible exact H) | (have H2_ := (Option.bind_some _ _).symm.trans H; rw [hy607]; with_reducible exact H2_) | (have H2_ := (Option.bind_some _ _).symm.trans H; with_reducible exact H2_) | with_reducible exact H | (rw [hy607]; exact H) | exact H
    have Ny607 := zK hy607
    clear hy607
    obtain rfl := Option.some.inj H
    go_wp2_with (first | ((with_reducible refine gate_dst (N := 26) rfl ?_); refine Kd.R_lit k81 _ 81 ?hg (N := 26) ?hd (xs := ([] : List (S81))) (inner := []) (ok := fun _ => True) (okp := fun _ => True) ?hr ?hp (fun _ hk => hk) trivial (Below.refl _ _) (Nat.le_refl _) (by simp) ?_; (case hd => rfl); (case hg => rfl); (case hr => first | (go_simp; done) | (go_simp; rfl)); (case hp => exact (Reps.none _ _)); intro v608 w18 ho19 hb hg_ hnew_; clear hg_ hnew_; (first | rw [← Ny607.o] at ho19 | (simp only [Int.reduceToNat] at ho19; rw [← Ny607.o] at ho19)); have _ := zK (Kd.R_lower ho19 (bZ (qB HB.o))); have _ := zK (bT (qB HB.o) hb); clear HB; rename_i HO609 HB; clear hb ho19))
    go_ret
    exact ⟨_, by first | rfl | (simp [errW_none, errW_some] <;> rfl) | (simp [*, errW_none, errW_some] <;> rfl), Kd.Q_of_R (Kd.qR HO609.o), by exact qB HB.o⟩
   replace c17 := Bool.eq_false_iff.mpr c17
   subst c17
   have H1 : ((impl_Letter_118.f l0).bind fun t610 => (impl_LettersFor.l0 kj4 l0 l2 a3 t610 l1 (l1.length : Int) 0)) = some r := by rw [if_neg (show ¬ (false = true) by decide)] at H; exact H
   clear H
   have H := H1
   clear H1
   replace H := Option.bind_eq_some_iff.mp H
   obtain ⟨t610, A200, H⟩ := H
   try dsimp only at H
   have A20 := zK A200
   clear A200
   have H' := zK H
   clear H
   go_wp2_with (first | ((with_reducible refine gate_callee (f := 118) rfl ?_); refine goesL_ (some 28) rfl rfl Try.func118 (by kernel_rfl) rfl #[.slice A0 l0.length c0] rfl M0 ?_; (with_reducible refine (impl_Letter_118.calls _ _ l0 t610 _ ?side1 ?side2 A20.o).mono ?_); (case side1 => exact Kd.qC (Kd.C_below HR0.o HB.o)); (case side2 => exact HC0.o); rintro e w21 ⟨v611, rfl, ho0, hb⟩; refine ⟨_, rfl, ?_⟩; have _ := zK (Kd.R_lower ho0 (bZ (qB HB.o))); have _ := zK (bT (qB HB.o) hb); clear HB; rename_i HO612 HB; (try clear hb); (try clear hb2); (try clear hk); (try clear hi); (try clear ho0)))
   go_loopg [9, 31] kj4 (fun kq v9 v31 w' => ∃ (x9_2 : List (S81)) (x31_2 : Int), v31 = .int .i64 x31_2 ∧ Aside0 (impl_LettersFor.l0 kq l0 l2 a3 x9_2 l1 (l1.length : Int) x31_2 = some r) ∧ Aside0 (kq ≤ kj4) ∧ Aside0 (Kd.R k81 81 w' w.heap.size (fun _ => True) v9 x9_2) ∧ Aside0 (Below w.heap.size w w'))
   case atStart => exact ⟨(t610), (0), M7, H', ⟨Nat.le_refl _⟩, ⟨by exact Kd.qR HO612.o⟩, ⟨by exact qB HB.o⟩⟩
   case round =>
    clear H'
    try clear c1
    try clear c2
    try clear p2
    try clear c5
    try clear c7
    try clear c9
    try clear c11
    try clear c17
    try clear p2
    obtain ⟨x9_2, x31_2, rfl, HA, HK2, HO_9, HB⟩ := hrel
    cases gk with
    | zero => exact absurd HA.o (by simp [impl_LettersFor.l0])
    | succ k2 =>
     have H := HA.o
     clear HA
     simp only [impl_LettersFor.l0] at H
     by_cases c22 : x31_2 < (l1.length : Int)
     rotate_left
     ·rw [if_neg c22] at H
      have c22b0 : decide (x31_2 < (l1.length : Int)) = false := decide_eq_false c22
      clear c22
      by_cases c38 : 0 ≤ (l0.length : Int)
      rotate_left
      ·rw [if_neg c38] at H
       exact absurd H (by simp)
      rw [if_pos c38] at H
      have c38b0 := eq_true c38
      have c38b1 : decide (0 ≤ (l0.length : Int)) = true := decide_eq_true c38
      clear c38
      by_cases c39 : (l0.length : Int) ≤ (x9_2.length : Int)
      rotate_left
      ·rw [if_neg c39] at H
       exact absurd H (by simp)
      rw [if_pos c39] at H
      have c39b0 := eq_true c39
      have c39b1 : decide ((l0.length : Int) ≤ (x9_2.length : Int)) = true := decide_eq_true c39
      clear c39
      obtain ⟨y613, hy613⟩ : ∃ y_ : List (S81), y_ = (x9_2.drop ((l0.length : Int) : Int).toNat) := ⟨_, rfl⟩
      replace H : (some y613) = some r := by first | (rw [hy613]; with_reducible exact H) | (have H2_ := (Option.bind_some _ _).symm.trans H; rw [hy613]; with_reducible exact H2_) | (have H2_ := (Option.bind_some _ _).symm.trans H; with_reducible exact H2_) | with_reducible exact H | (rw [hy613]; exact H) | exact H
      have Ny613 := zK hy613
      clear hy613
      obtain rfl := Option.some.inj H
      obtain ⟨Ao40, co40, eo40⟩ := Kd.R_slice HO_9.o
      subst eo40
      have q41 : ((l0.length : Int) : Int) ≤ ((x9_2.length : Int) : Int) := oD M3
      obtain ⟨i041, hi041, _, hsz41, _⟩ := info_parts info81
      have hcut41 := cut_from (P := Try.prog) 73 81 .i64 Try.underlying73 hi041 3 hsz41 Ao40 x9_2.length co40 (l0.length : Int) (oD M3) q41
      have hr41 := Kd.Q_drop (k := ((l0.length : Int) : Int).toNat) (Kd.Q_of_R HO_9.o) (by omega)
      obtain ⟨A41, hA41⟩ : ∃ A1, A1 = (if co40 = ((l0.length : Int) : Int).toNat then Ao40 else (Ao40 : Option Addr).map (·.add (((l0.length : Int) : Int).toNat * 3))) := ⟨_, rfl⟩
      obtain ⟨c41, hc41⟩ : ∃ c1, c1 = co40 - ((l0.length : Int) : Int).toNat := ⟨_, rfl⟩
      have hy41 : y613.length = x9_2.length - ((l0.length : Int) : Int).toNat := (by rw [Ny613.o, List.length_drop])
      rw [← Ny613.o] at hr41
      rw [← hy41, ← hA41, ← hc41] at hcut41
      replace hr41 : Kd.Q k81 81 wr w.heap.size (fun _ => True) (.slice A41 y613.length c41) y613 := (by rw [hA41, hc41, hy41]; exact hr41)
      have HE41 : Aside0 ((Value.slice A41 y613.length c41).ownBlock = (.slice Ao40 x9_2.length co40 : Value).ownBlock) := ⟨by rw [hA41]; split <;> (cases (Ao40 : Option Addr) <;> first | rfl | (refine congrArg some ?_; unfold Addr.add; split <;> rfl) | (simp only [Option.map_some, Value.ownBlock, Addr.add]; split <;> rfl))⟩
      clear hy41 hi041 hsz41 HO_9 hA41 hc41
      have HO615 := zK hr41
      clear hr41
      replace q41 := eq_true q41
      go_wp2
      go_ret
      exact ⟨_, by first | rfl | (simp [errW_none, errW_some] <;> rfl) | (simp [*, errW_none, errW_some] <;> rfl), by (with_reducible repeat (first | apply Kd.Q_alloc | apply Kd.Q_drewN | apply Kd.Q_drew)); exact HO615.o, by exact qB HB.o⟩
     rw [if_pos c22] at H
     have c22b0 : decide (x31_2 < (l1.length : Int)) = true := decide_eq_true c22
     clear c22
     by_cases c23 : 0 ≤ x31_2
     rotate_left
     ·rw [if_neg c23] at H
      exact absurd H (by simp)
     rw [if_pos c23] at H
     have c23b0 : decide (0 ≤ x31_2) = true := decide_eq_true c23
     clear c23
     by_cases c24 : x31_2 < (l1.length : Int)
     rotate_left
     ·rw [if_neg c24] at H
      exact absurd H (by simp)
     rw [if_pos c24] at H
     have c24b0 : decide (x31_2 < (l1.length : Int)) = true := decide_eq_true c24
     clear c24
     replace H := Option.bind_eq_some_iff.mp H
     obtain ⟨t618, A250, H⟩ := H
     try dsimp only at H
     have A25 := zK A250
     clear A250
     by_cases c26 : t618 = 0
     ·rw [if_pos c26] at H
      have c26b0 : (t618 == 0) = true := beq_iff_eq.mpr c26
      have c26b1 : (t618 != 0) = false := bne_eq_false_iff_eq.mpr c26
      clear c26
      have H' := zK H
      clear H
      have p616 : 0 ≤ (x31_2 : Int) := oD M3
      have q616 : x31_2 < (l1.length : Int) := oD M3
      obtain ⟨ad616, A616_2, c616_2, A616_5, c616_5, e616, hx616_0, hx616_1, hx616_2, hx616_3, hx616_4, hx616_5, hx616_6, hx616_7, hl616_2, hi616_2, hl616_5, hi616_5⟩ := at_T87 HR1.o x31_2 p616 q616
      cases e616
      replace hx616_0 := cB HB.o hx616_0
      replace hx616_1 := cB HB.o hx616_1
      replace hx616_2 := cB HB.o hx616_2
      replace hx616_3 := cB HB.o hx616_3
      replace hx616_4 := cB HB.o hx616_4
      replace hx616_5 := cB HB.o hx616_5
      replace hx616_6 := cB HB.o hx616_6
      replace hx616_7 := cB HB.o hx616_7
      have HR616_2 := zK hi616_2
      have HC616_2 := zK hl616_2
      clear hi616_2 hl616_2
      have HR616_5 := zK hi616_5
      have HC616_5 := zK hl616_5
      clear hi616_5 hl616_5
      replace p616 := eq_true p616
      replace q616 := eq_true q616
      go_wp2_with (first | ((with_reducible refine gate_dst (N := 11) rfl ?_); refine box_event ?hg (N := 11) ?hd (cs := #[.int .i64 0, .int .i64 0, .slice none 0 0, .int .i64 0, .int .i64 0, .slice none 0 0, .int .i64 0, .int .i64 0]) (t := 87) ?hr ?_; (case hd => rfl); (case hg => rfl); (case hr => first | (go_simp; done) | (go_simp; rfl)); intro gb617 hg w27 hbox hb; have _ := zK (Kd.R_below (Kd.qR HO_9.o) hb); have _ := zK (bT (qB HB.o) hb); have _ := zK (hbox); have _ := zK ((by rw [hg]; exact (bZ (qB HB.o)) : w.heap.size ≤ gb617)); have _ := zK ((by rw [hg]; exact (bZ (qB HB.o)) : w.heap.size ≤ gb617)); clear HO_9 HB; rename_i HO_9 HB BK617 GW617 GE617; clear hb hbox hg; obtain ⟨hcz28_0, hcz28_1, hcz28_2, hcz28_3, hcz28_4, hcz28_5, hcz28_6, hcz28_7, hfz28_0, hfz28_1, hfz28_2, hfz28_3, hfz28_4, hfz28_5, hfz28_6, hfz28_7⟩ := bx8 BK617.o; obtain ⟨Ao29, co29, eo29⟩ := Kd.R_slice HO_9.o; subst eo29) | ((with_reducible refine gate_callee (f := 119) rfl ?_); refine goesL_ (some 38) rfl rfl Try.func119 (by kernel_rfl) rfl #[.slice Ao29 x9_2.length co29, .agg #[.int .i64 ((rd_T87 l1 x31_2).f0), .int .i64 ((rd_T87 l1 x31_2).f1), .slice A616_2 ((rd_T87 l1 x31_2).f2).length c616_2, .int .i64 ((rd_T87 l1 x31_2).f3), .int .i64 ((rd_T87 l1 x31_2).f4), .slice A616_5 ((rd_T87 l1 x31_2).f5).length c616_5, .int .i64 ((rd_T87 l1 x31_2).f6.f0), .int .i64 ((rd_T87 l1 x31_2).f6.f1)], .slice A2 l2.length c2] rfl M0 ?_; (with_reducible refine (impl_toWrite.calls k2 _ _ x9_2 ((rd_T87 l1 x31_2).f0) ((rd_T87 l1 x31_2).f1) _ _ ((rd_T87 l1 x31_2).f2) ((rd_T87 l1 x31_2).f3) ((rd_T87 l1 x31_2).f4) _ _ ((rd_T87 l1 x31_2).f5) ((rd_T87 l1 x31_2).f6.f0) ((rd_T87 l1 x31_2).f6.f1) _ _ l2 t618 _ ?side1 ?side2 ?side3 ?side4 ?side5 ?side6 ?side7 ?side8 A25.o).mono ?_); (case side1 => refine (Kd.R_reads' (e := 81) (base := w.heap.size) (ok := fun k_ => True) (n := x9_2.length) (c := co29) ?_).2.2; exact M12); (case side2 => exact (Kd.R_reads' HO_9.o).2.1); (case side3 => exact Kd.C_below HR616_2.o M22); (case side4 => exact HC616_2.o); (case side5 => exact Kd.C_below HR616_5.o M22); (case side6 => exact HC616_5.o); (case side7 => exact Kd.C_below HR2.o M22); (case side8 => exact HC2.o); rintro e w30 ⟨rfl, hb⟩; refine ⟨_, rfl, ?_⟩; have _ := zK (Kd.R_below M12 hb); have _ := zK (bB (g := gb617) (o := .cells #[.int .i64 ((rd_T87 l1 x31_2).f0), .int .i64 ((rd_T87 l1 x31_2).f1), .slice A616_2 ((rd_T87 l1 x31_2).f2).length c616_2, .int .i64 ((rd_T87 l1 x31_2).f3), .int .i64 ((rd_T87 l1 x31_2).f4), .slice A616_5 ((rd_T87 l1 x31_2).f5).length c616_5, .int .i64 ((rd_T87 l1 x31_2).f6.f0), .int .i64 ((rd_T87 l1 x31_2).f6.f1)] 87 (0, 0)) (by (with_reducible repeat (first | refine kN ?_ _ | refine kD ?_ | refine kA ?_ _)); refine blk_put (cs := #[.int .i64 ((rd_T87 l1 x31_2).f0), .int .i64 ((rd_T87 l1 x31_2).f1), .slice A616_2 ((rd_T87 l1 x31_2).f2).length c616_2, .int .i64 ((rd_T87 l1 x31_2).f3), .int .i64 ((rd_T87 l1 x31_2).f4), .slice A616_5 ((rd_T87 l1 x31_2).f5).length c616_5, .int .i64 ((rd_T87 l1 x31_2).f6.f0), .int .i64 0]) ?_ 7 _ rfl; (with_reducible repeat (first | refine kN ?_ _ | refine kD ?_ | refine kA ?_ _)); refine blk_put (cs := #[.int .i64 ((rd_T87 l1 x31_2).f0), .int .i64 ((rd_T87 l1 x31_2).f1), .slice A616_2 ((rd_T87 l1 x31_2).f2).length c616_2, .int .i64 ((rd_T87 l1 x31_2).f3), .int .i64 ((rd_T87 l1 x31_2).f4), .slice A616_5 ((rd_T87 l1 x31_2).f5).length c616_5, .int .i64 0, .int .i64 0]) ?_ 6 _ rfl; (with_reducible repeat (first | refine kN ?_ _ | refine kD ?_ | refine kA ?_ _)); refine blk_put (cs := #[.int .i64 ((rd_T87 l1 x31_2).f0), .int .i64 ((rd_T87 l1 x31_2).f1), .slice A616_2 ((rd_T87 l1 x31_2).f2).length c616_2, .int .i64 ((rd_T87 l1 x31_2).f3), .int .i64 ((rd_T87 l1 x31_2).f4), .slice none 0 0, .int .i64 0, .int .i64 0]) ?_ 5 _ rfl; (with_reducible repeat (first | refine kN ?_ _ | refine kD ?_ | refine kA ?_ _)); refine blk_put (cs := #[.int .i64 ((rd_T87 l1 x31_2).f0), .int .i64 ((rd_T87 l1 x31_2).f1), .slice A616_2 ((rd_T87 l1 x31_2).f2).length c616_2, .int .i64 ((rd_T87 l1 x31_2).f3), .int .i64 0, .slice none 0 0, .int .i64 0, .int .i64 0]) ?_ 4 _ rfl; (with_reducible repeat (first | refine kN ?_ _ | refine kD ?_ | refine kA ?_ _)); refine blk_put (cs := #[.int .i64 ((rd_T87 l1 x31_2).f0), .int .i64 ((rd_T87 l1 x31_2).f1), .slice A616_2 ((rd_T87 l1 x31_2).f2).length c616_2, .int .i64 0, .int .i64 0, .slice none 0 0, .int .i64 0, .int .i64 0]) ?_ 3 _ rfl; (with_reducible repeat (first | refine kN ?_ _ | refine kD ?_ | refine kA ?_ _)); refine blk_put (cs := #[.int .i64 ((rd_T87 l1 x31_2).f0), .int .i64 ((rd_T87 l1 x31_2).f1), .slice none 0 0, .int .i64 0, .int .i64 0, .slice none 0 0, .int .i64 0, .int .i64 0]) ?_ 2 _ rfl; (with_reducible repeat (first | refine kN ?_ _ | refine kD ?_ | refine kA ?_ _)); refine blk_put (cs := #[.int .i64 ((rd_T87 l1 x31_2).f0), .int .i64 0, .slice none 0 0, .int .i64 0, .int .i64 0, .slice none 0 0, .int .i64 0, .int .i64 0]) ?_ 1 _ rfl; (with_reducible repeat (first | refine kN ?_ _ | refine kD ?_ | refine kA ?_ _)); refine blk_put (cs := #[.int .i64 0, .int .i64 0, .slice none 0 0, .int .i64 0, .int .i64 0, .slice none 0 0, .int .i64 0, .int .i64 0]) ?_ 0 _ rfl; exact qK BK617.o) hb); have _ := zK (bT M22 hb); clear HO_9 BK617 HB; rename_i HO_9 BK617 HB; (try clear hb); (try clear hb2); (try clear hk); (try clear hi)))
      go_roundg k2
      case measure => have := HJ4.o; have := HK2.o; omega
      case rel => exact ⟨(x9_2), (wrap64 (x31_2 + 1)), M7, H', ⟨by have := HJ4.o; have := HK2.o; omega⟩, ⟨by exact Kd.qR HO_9.o⟩, ⟨by exact qX HB.o⟩⟩
     rw [if_neg c26] at H
     have c26b0 : (t618 == 0) = false := beq_eq_false_iff_ne.mpr c26
     have c26b1 : (t618 != 0) = true := bne_iff_ne.mpr c26
     replace H := Option.bind_eq_some_iff.mp H
     obtain ⟨⟨t619, t620⟩, A310, H⟩ := H
     try dsimp only at H
     have A31 := zK A310
     clear A310
     have H' := zK H
     clear H
     have p616 : 0 ≤ (x31_2 : Int) := oD M3
     have q616 : x31_2 < (l1.length : Int) := oD M3
     obtain ⟨ad616, A616_2, c616_2, A616_5, c616_5, e616, hx616_0, hx616_1, hx616_2, hx616_3, hx616_4, hx616_5, hx616_6, hx616_7, hl616_2, hi616_2, hl616_5, hi616_5⟩ := at_T87 HR1.o x31_2 p616 q616
     cases e616
     replace hx616_0 := cB HB.o hx616_0
     replace hx616_1 := cB HB.o hx616_1
     replace hx616_2 := cB HB.o hx616_2
     replace hx616_3 := cB HB.o hx616_3
     replace hx616_4 := cB HB.o hx616_4
     replace hx616_5 := cB HB.o hx616_5
     replace hx616_6 := cB HB.o hx616_6
     replace hx616_7 := cB HB.o hx616_7
     have HR616_2 := zK hi616_2
     have HC616_2 := zK hl616_2
     clear hi616_2 hl616_2
     have HR616_5 := zK hi616_5
     have HC616_5 := zK hl616_5
     clear hi616_5 hl616_5
     replace p616 := eq_true p616
     replace q616 := eq_true q616
     go_wp2_with (first | ((with_reducible refine gate_dst (N := 11) rfl ?_); refine box_event ?hg (N := 11) ?hd (cs := #[.int .i64 0, .int .i64 0, .slice none 0 0, .int .i64 0, .int .i64 0, .slice none 0 0, .int .i64 0, .int .i64 0]) (t := 87) ?hr ?_; (case hd => rfl); (case hg => rfl); (case hr => first | (go_simp; done) | (go_simp; rfl)); intro gb617 hg w32 hbox hb; have _ := zK (Kd.R_below (Kd.qR HO_9.o) hb); have _ := zK (bT (qB HB.o) hb); have _ := zK (hbox); have _ := zK ((by rw [hg]; exact (bZ (qB HB.o)) : w.heap.size ≤ gb617)); have _ := zK ((by rw [hg]; exact (bZ (qB HB.o)) : w.heap.size ≤ gb617)); clear HO_9 HB; rename_i HO_9 HB BK617 GW617 GE617; clear hb hbox hg; obtain ⟨hcz33_0, hcz33_1, hcz33_2, hcz33_3, hcz33_4, hcz33_5, hcz33_6, hcz33_7, hfz33_0, hfz33_1, hfz33_2, hfz33_3, hfz33_4, hfz33_5, hfz33_6, hfz33_7⟩ := bx8 BK617.o; obtain ⟨Ao34, co34, eo34⟩ := Kd.R_slice HO_9.o; subst eo34) | ((with_reducible refine gate_callee (f := 119) rfl ?_); refine goesL_ (some 38) rfl rfl Try.func119 (by kernel_rfl) rfl #[.slice Ao34 x9_2.length co34, .agg #[.int .i64 ((rd_T87 l1 x31_2).f0), .int .i64 ((rd_T87 l1 x31_2).f1), .slice A616_2 ((rd_T87 l1 x31_2).f2).length c616_2, .int .i64 ((rd_T87 l1 x31_2).f3), .int .i64 ((rd_T87 l1 x31_2).f4), .slice A616_5 ((rd_T87 l1 x31_2).f5).length c616_5, .int .i64 ((rd_T87 l1 x31_2).f6.f0), .int .i64 ((rd_T87 l1 x31_2).f6.f1)], .slice A2 l2.length c2] rfl M0 ?_; (with_reducible refine (impl_toWrite.calls k2 _ _ x9_2 ((rd_T87 l1 x31_2).f0) ((rd_T87 l1 x31_2).f1) _ _ ((rd_T87 l1 x31_2).f2) ((rd_T87 l1 x31_2).f3) ((rd_T87 l1 x31_2).f4) _ _ ((rd_T87 l1 x31_2).f5) ((rd_T87 l1 x31_2).f6.f0) ((rd_T87 l1 x31_2).f6.f1) _ _ l2 t618 _ ?side1 ?side2 ?side3 ?side4 ?side5 ?side6 ?side7 ?side8 A25.o).mono ?_); (case side1 => refine (Kd.R_reads' (e := 81) (base := w.heap.size) (ok := fun k_ => True) (n := x9_2.length) (c := co34) ?_).2.2; exact M12); (case side2 => exact (Kd.R_reads' HO_9.o).2.1); (case side3 => exact Kd.C_below HR616_2.o M22); (case side4 => exact HC616_2.o); (case side5 => exact Kd.C_below HR616_5.o M22); (case side6 => exact HC616_5.o); (case side7 => exact Kd.C_below HR2.o M22); (case side8 => exact HC2.o); rintro e w35 ⟨rfl, hb⟩; refine ⟨_, rfl, ?_⟩; have _ := zK (Kd.R_below M12 hb); have _ := zK (bB (g := gb617) (o := .cells #[.int .i64 ((rd_T87 l1 x31_2).f0), .int .i64 ((rd_T87 l1 x31_2).f1), .slice A616_2 ((rd_T87 l1 x31_2).f2).length c616_2, .int .i64 ((rd_T87 l1 x31_2).f3), .int .i64 ((rd_T87 l1 x31_2).f4), .slice A616_5 ((rd_T87 l1 x31_2).f5).length c616_5, .int .i64 ((rd_T87 l1 x31_2).f6.f0), .int .i64 ((rd_T87 l1 x31_2).f6.f1)] 87 (0, 0)) (by (with_reducible repeat (first | refine kN ?_ _ | refine kD ?_ | refine kA ?_ _)); refine blk_put (cs := #[.int .i64 ((rd_T87 l1 x31_2).f0), .int .i64 ((rd_T87 l1 x31_2).f1), .slice A616_2 ((rd_T87 l1 x31_2).f2).length c616_2, .int .i64 ((rd_T87 l1 x31_2).f3), .int .i64 ((rd_T87 l1 x31_2).f4), .slice A616_5 ((rd_T87 l1 x31_2).f5).length c616_5, .int .i64 ((rd_T87 l1 x31_2).f6.f0), .int .i64 0]) ?_ 7 _ rfl; (with_reducible repeat (first | refine kN ?_ _ | refine kD ?_ | refine kA ?_ _)); refine blk_put (cs := #[.int .i64 ((rd_T87 l1 x31_2).f0), .int .i64 ((rd_T87 l1 x31_2).f1), .slice A616_2 ((rd_T87 l1 x31_2).f2).length c616_2, .int .i64 ((rd_T87 l1 x31_2).f3), .int .i64 ((rd_T87 l1 x31_2).f4), .slice A616_5 ((rd_T87 l1 x31_2).f5).length c616_5, .int .i64 0, .int .i64 0]) ?_ 6 _ rfl; (with_reducible repeat (first | refine kN ?_ _ | refine kD ?_ | refine kA ?_ _)); refine blk_put (cs := #[.int .i64 ((rd_T87 l1 x31_2).f0), .int .i64 ((rd_T87 l1 x31_2).f1), .slice A616_2 ((rd_T87 l1 x31_2).f2).length c616_2, .int .i64 ((rd_T87 l1 x31_2).f3), .int .i64 ((rd_T87 l1 x31_2).f4), .slice none 0 0, .int .i64 0, .int .i64 0]) ?_ 5 _ rfl; (with_reducible repeat (first | refine kN ?_ _ | refine kD ?_ | refine kA ?_ _)); refine blk_put (cs := #[.int .i64 ((rd_T87 l1 x31_2).f0), .int .i64 ((rd_T87 l1 x31_2).f1), .slice A616_2 ((rd_T87 l1 x31_2).f2).length c616_2, .int .i64 ((rd_T87 l1 x31_2).f3), .int .i64 0, .slice none 0 0, .int .i64 0, .int .i64 0]) ?_ 4 _ rfl; (with_reducible repeat (first | refine kN ?_ _ | refine kD ?_ | refine kA ?_ _)); refine blk_put (cs := #[.int .i64 ((rd_T87 l1 x31_2).f0), .int .i64 ((rd_T87 l1 x31_2).f1), .slice A616_2 ((rd_T87 l1 x31_2).f2).length c616_2, .int .i64 0, .int .i64 0, .slice none 0 0, .int .i64 0, .int .i64 0]) ?_ 3 _ rfl; (with_reducible repeat (first | refine kN ?_ _ | refine kD ?_ | refine kA ?_ _)); refine blk_put (cs := #[.int .i64 ((rd_T87 l1 x31_2).f0), .int .i64 ((rd_T87 l1 x31_2).f1), .slice none 0 0, .int .i64 0, .int .i64 0, .slice none 0 0, .int .i64 0, .int .i64 0]) ?_ 2 _ rfl; (with_reducible repeat (first | refine kN ?_ _ | refine kD ?_ | refine kA ?_ _)); refine blk_put (cs := #[.int .i64 ((rd_T87 l1 x31_2).f0), .int .i64 0, .slice none 0 0, .int .i64 0, .int .i64 0, .slice none 0 0, .int .i64 0, .int .i64 0]) ?_ 1 _ rfl; (with_reducible repeat (first | refine kN ?_ _ | refine kD ?_ | refine kA ?_ _)); refine blk_put (cs := #[.int .i64 0, .int .i64 0, .slice none 0 0, .int .i64 0, .int .i64 0, .slice none 0 0, .int .i64 0, .int .i64 0]) ?_ 0 _ rfl; exact qK BK617.o) hb); have _ := zK (bT M22 hb); clear HO_9 BK617 HB; rename_i HO_9 BK617 HB; (try clear hb); (try clear hb2); (try clear hk); (try clear hi); obtain ⟨hcz36_0, hcz36_1, hcz36_2, hcz36_3, hcz36_4, hcz36_5, hcz36_6, hcz36_7, hfz36_0, hfz36_1, hfz36_2, hfz36_3, hfz36_4, hfz36_5, hfz36_6, hfz36_7⟩ := bx8 BK617.o) | ((with_reducible refine gate_callee (f := 59) rfl ?_); refine goesL_ (some 47) rfl rfl Try.func59 (by kernel_rfl) rfl #[.slice Ao34 x9_2.length co34, .int .i64 ((rd_T87 l1 x31_2).f0), .int .i64 t618, .int .i64 a3] rfl M0 ?_; (with_reducible refine (impl_WriteLetter.calls k2 _ _ x9_2 ((rd_T87 l1 x31_2).f0) t618 a3 t619 t620 _ ?side1 ?side2 A31.o).mono ?_); (case side1 => exact Kd.qC (Kd.R_reads' HO_9.o).2.2); (case side2 => exact (Kd.R_reads' HO_9.o).2.1); rintro e w37 ⟨v621, rfl, ho0, hb⟩; refine ⟨_, rfl, ?_⟩; have _ := zK (Kd.R_elder' (Kd.qR HO_9.o) (Kd.R_base ho0) hb); have _ := zK (Kd.R_lower (Kd.R_new' ho0 (Kd.R_lt (Kd.qR HO_9.o))) (bZ M22)); have _ := zK (bB (qK BK617.o) hb); have _ := zK (bT M22 hb); clear HO_9 BK617 HB; rename_i HO_9 HO622 BK617 HB; (try clear hb); (try clear hb2); (try clear hk); (try clear hi); (try clear ho0)))
     go_roundg k2
     case measure => have := HJ4.o; have := HK2.o; omega
     case rel => exact ⟨(t619), (wrap64 (x31_2 + 1)), M7, H', ⟨by have := HJ4.o; have := HK2.o; omega⟩, ⟨by (with_reducible repeat (first | apply Kd.RA | apply Kd.RN | apply Kd.RD)); exact Kd.R_mono HO622.o (fun _ hk => trivial)⟩, ⟨by exact qX HB.o⟩⟩
/-! ### impl_FindReport: function 54: slices.IndexFunc with function 122 over a boxed whole number -/
theorem impl_FindReport.run_mf (fn : Fn) (first cap : Array Value) (w : World) : (Instr.makeFunc fn first cap).run Try.prog w = .ok (.func fn first cap) w := rfl
theorem impl_FindReport.events_mf (fn : Fn) (first cap : Array Value) (w : World) (es : Array Event) : (Instr.makeFunc fn first cap).events Try.prog w es = es := rfl
attribute [local go_sem] impl_FindReport.run_mf impl_FindReport.events_mf
def impl_FindReport.p (a0 : Int) (y : S87) : Bool := decide (y.f0 = a0)
def impl_FindReport.idx (q : S87 → Bool) : Nat → List (S87) → Int
 | _, [] => -1
 | i, x :: l => if q x then (i : Int) else impl_FindReport.idx q (i + 1) l
def impl_FindReport.f (l0 : List (S87)) (a0 : Int) : Option Int := some (impl_FindReport.idx (impl_FindReport.p a0) 0 l0)
set_option maxHeartbeats 8000000 in
set_option maxRecDepth 100000 in
theorem impl_FindReport.one (y : S87) (A2 A5 : Option Addr) (c2 c5 : Nat) (B : Nat) (a0 : Int) (w : World) (hB : w.heap[B]? = some (.cells #[.int .i64 a0] 3 (0, 0))) :
  Calls Try.prog 122 #[.agg #[.int .i64 y.f0, .int .i64 y.f1, .slice A2 y.f2.length c2, .int .i64 y.f3, .int .i64 y.f4, .slice A5 y.f5.length c5, .int .i64 y.f6.f0, .int .i64 y.f6.f1], .pointer (some ⟨B, 0, none⟩)] w fun e w' => e = .returned (.bool (impl_FindReport.p a0 y)) ∧ Below w.heap.size w w' := by
 have hc0 : ∀ o, (w.alloc o).cell? ⟨B, 0, none⟩ = some (.int .i64 a0) := fun o => (bc (kA hB o) 0).trans rfl
 have hcB : w.cell? ⟨B, 0, none⟩ = some (.int .i64 a0) := (bc hB 0).trans rfl
 rcases Bool.eq_false_or_eq_true (decide (y.f0 = a0)) with b0 | b0 <;>
 (go_enter Try.func122, Try.ntmps122
  go_wp2
  go_ret
  exact ⟨by first | rfl | (simp [impl_FindReport.p]; done) | (simp [impl_FindReport.p] <;> rfl) | (simp [impl_FindReport.p, b0]; done), by repeat (first | exact Below.refl _ _ | apply bA | apply bN | apply below_drew1)⟩)
set_option maxHeartbeats 8000000 in
set_option maxRecDepth 100000 in
theorem impl_FindReport.at (B : Nat) (A0 : Option Addr) (c0 : Nat) (l0 : List (S87)) (a0 : Int) (w : World) (hr0 : Kd.C k87 w A0 l0.length l0) (hc0 : l0.length ≤ c0) (hB : w.heap[B]? = some (.cells #[.int .i64 a0] 3 (0, 0))) :
  Calls Try.prog 121 #[.slice A0 l0.length c0, .func (.func 122) #[] #[.pointer (some ⟨B, 0, none⟩)]] w fun e w' => e = .returned (.int .i64 (impl_FindReport.idx (impl_FindReport.p a0) 0 l0)) ∧ Below w.heap.size w w' := by
 have hlen : l0.length ≤ 9223372036854775807 := hr0.2.1
 have HR0 := zK hr0
 have HB0 := zK hB
 clear hr0 hB
 generalize hq : impl_FindReport.p a0 = q
 obtain ⟨r, hr⟩ : ∃ r, r = impl_FindReport.idx q 0 l0 := ⟨_, rfl⟩
 rw [← hr]
 have R0 := zK hr
 have HQ := zK hq
 clear hr hq
 go_enter Try.func121, Try.ntmps121
 go_wp2
 go_loopg [5, 8] l0.length (fun kq v5 v8 w' => ∃ (x8 : Int), v8 = .int .i64 x8 ∧ 0 ≤ x8 ∧ x8 ≤ (l0.length : Int) ∧ (l0.length : Int) - x8 ≤ kq ∧ Aside0 (impl_FindReport.idx q x8.toNat (l0.drop x8.toNat) = r) ∧ Aside0 (Below w.heap.size w w'))
 case atStart => exact ⟨0, rfl, by omega, by omega, by omega, ⟨R0.o.symm⟩, ⟨Below.refl _ _⟩⟩
 case round =>
  obtain ⟨x8, rfl, h0, h1, h2, HA, HB⟩ := hrel
  by_cases c3 : x8 < (l0.length : Int)
  ·have c3b0 : decide (x8 < (l0.length : Int)) = true := decide_eq_true c3
   obtain ⟨ad1, A2, c2, A5, c5, e1, hx_0, hx_1, hx_2, hx_3, hx_4, hx_5, hx_6, hx_7, _, _, _, _⟩ := at_T87 HR0.o x8 h0 c3
   cases e1
   replace hx_0 := cB HB.o hx_0
   replace hx_1 := cB HB.o hx_1
   replace hx_2 := cB HB.o hx_2
   replace hx_3 := cB HB.o hx_3
   replace hx_4 := cB HB.o hx_4
   replace hx_5 := cB HB.o hx_5
   replace hx_6 := cB HB.o hx_6
   replace hx_7 := cB HB.o hx_7
   have hrd : l0.drop x8.toNat = rd_T87 l0 x8 :: l0.drop (x8.toNat + 1) := by
    rw [List.drop_eq_getElem_cons (by omega)]
    congr 1
    rw [rd_T87, List.getD_eq_getElem?_getD, List.getElem?_eq_getElem (by omega)]
    rfl
   have hn : (x8 + 1).toNat = x8.toNat + 1 := by omega
   have hw : wrap64 (x8 + 1) = x8 + 1 := by
    unfold wrap64
    omega
   have hD := HA.o
   rw [hrd] at hD
   have hone := fun (W : World) (hb : W.heap[B]? = some (.cells #[.int .i64 a0] 3 (0, 0))) => impl_FindReport.one (rd_T87 l0 x8) A2 A5 c2 c5 B a0 W hb
   rw [HQ.o] at hone
   have hBr := zK (bB HB0.o HB.o)
   have p8 := eq_true h0
   have q8 := eq_true c3
   by_cases hcase : q (rd_T87 l0 x8) = true
   ·rw [hcase] at hone
    have hr : (x8.toNat : Int) = r := by
     rw [← hD]
     simp [impl_FindReport.idx, hcase]
    have hr' : x8 = r := by omega
    subst hr'
    go_wp2_with (go_at_call 122; (with_reducible refine (hone _ (qK hBr.out)).mono ?_); rintro e w14 ⟨rfl, hb⟩; have HB := zK (bT (qB HB.o) hb); clear hb)
    go_ret
    exact ⟨rfl, by exact qB HB.o⟩
   ·rw [Bool.eq_false_iff.mpr hcase] at hone
    have hr : impl_FindReport.idx q (x8 + 1).toNat (l0.drop (x8 + 1).toNat) = r := by
     rw [← hD, hn]
     simp [impl_FindReport.idx, hcase]
    have HA' := zK hr
    clear hD HA
    go_wp2_with (go_at_call 122; (with_reducible refine (hone _ (qK hBr.out)).mono ?_); rintro e w14 ⟨rfl, hb⟩; have HB := zK (bT (qB HB.o) hb); clear hb)
    go_roundg (gk - 1)
    case measure => omega
    case rel => exact ⟨x8 + 1, (by first | rfl | rw [hw] | (simp [hw]; done)), by omega, by omega, by omega, HA', ⟨by exact qB HB.o⟩⟩
  ·have c3b0 : decide (x8 < (l0.length : Int)) = false := decide_eq_false c3
   have hr : r = -1 := by
    have := HA.o
    rw [List.drop_of_length_le (by omega)] at this
    exact this.symm
   subst hr
   go_wp2
   go_ret
   exact ⟨rfl, HB.o⟩
set_option maxHeartbeats 8000000 in
set_option maxRecDepth 100000 in
theorem impl_FindReport.calls (A0 : Option Addr) (c0 : Nat) (l0 : List (S87)) (a1 : Int) (r : Int) (w : World) (hr0 : Kd.C k87 w A0 l0.length l0) (hc0 : l0.length ≤ c0) (h : impl_FindReport.f l0 a1 = some r) :
  Calls Try.prog 54 #[.slice A0 l0.length c0, .int .i64 a1] w fun e w' => e = .returned (.int .i64 r) ∧ Below w.heap.size w w' := by
 have hr := Option.some.inj h
 clear h
 have HR0 := zK hr0
 have HC0 := zK hc0
 clear hr0 hc0
 have R0 := zK hr
 clear hr
 go_enter Try.func54, Try.ntmps54
 go_wp2_with (go_at_call 121; (with_reducible refine (impl_FindReport.at w.heap.size _ _ l0 a1 _ ?side1 ?side2 ?side3).mono ?_); (case side1 => exact Kd.qC HR0.o); (case side2 => exact HC0.o); (case side3 => exact heap_alloc_new w _); rintro e w14 ⟨rfl, hb⟩; rw [R0.o])
 go_ret
 exact ⟨by first | rfl | (simp; done), by first | exact bT (bA (Below.refl _ _) _) hb | (repeat (first | exact hb | apply bA | apply bN | apply below_drew1))⟩
/-! ### laws_contains: function 55 -/
def laws_contains.l0 : Nat → List Int → Int → Int → Option (Bool)
 | 0, _, _, _ => none
 | k + 1, x0, x1, x5 => if x5 < (x0.length : Int) then (if 0 ≤ x5 then (if (rd x0 x5) = x1 then (some true) else (laws_contains.l0 k x0 x1 (wrap64 (x5 + 1)))) else (none)) else (some false)
def laws_contains.f (k : Nat) (l0 : List Int) (a1 : Int) : Option (Bool) := laws_contains.l0 k l0 a1 0
set_option maxHeartbeats 8000000 in
set_option maxRecDepth 100000 in
theorem laws_contains.calls (k : Nat) (A0 : Option Addr) (c0 : Nat) (l0 : List Int) (a1 : Int) (r : Bool) (w : World) (hr0 : Kd.C (Kd.int .i64) w A0 l0.length l0) (hc0 : l0.length ≤ c0) (h : laws_contains.f k l0 a1 = some r) :
  Calls Try.prog 55 #[.slice A0 l0.length c0, .int .i64 a1] w fun e w' => e = .returned (.bool r) ∧ Drawn0 w w' := by
 have HR0 := zK hr0
 have HC0 := zK hc0
 clear hr0 hc0
 have H : (laws_contains.l0 k l0 a1 0) = some r := h
 clear h
 have H' := zK H
 clear H
 go_enter Try.func55, Try.ntmps55
 go_wp2
 go_loopg [5] k (fun kq v5 w' => ∃ (x5_1 : Int), v5 = .int .i64 x5_1 ∧ Aside0 (laws_contains.l0 kq l0 a1 x5_1 = some r) ∧ Aside0 (kq ≤ k) ∧ Drawn0 w w')
 case atStart => exact ⟨(0), M7, H', ⟨Nat.le_refl _⟩, Q10⟩
 case round =>
  clear H'
  try clear p2
  obtain ⟨x5_1, rfl, HA, HK1, ⟨m1, rfl⟩⟩ := hrel
  cases gk with
  | zero => exact absurd HA.o (by simp [laws_contains.l0])
  | succ k1 =>
   have H := HA.o
   clear HA
   simp only [laws_contains.l0] at H
   by_cases c3 : x5_1 < (l0.length : Int)
   rotate_left
   ·rw [if_neg c3] at H
    have c3b0 : decide (x5_1 < (l0.length : Int)) = false := decide_eq_false c3
    clear c3
    obtain rfl := Option.some.inj H
    go_wp2
    go_ret
    exact ⟨by first | rfl | (simp; done) | (simp [*]; done), Q10⟩
   rw [if_pos c3] at H
   have c3b0 : decide (x5_1 < (l0.length : Int)) = true := decide_eq_true c3
   clear c3
   by_cases c4 : 0 ≤ x5_1
   rotate_left
   ·rw [if_neg c4] at H
    exact absurd H (by simp)
   rw [if_pos c4] at H
   have c4b0 : decide (0 ≤ x5_1) = true := decide_eq_true c4
   clear c4
   by_cases c5 : (rd l0 x5_1) = a1
   ·rw [if_pos c5] at H
    have c5b0 : ((rd l0 x5_1) == a1) = true := beq_iff_eq.mpr c5
    have c5b1 : ((rd l0 x5_1) != a1) = false := bne_eq_false_iff_eq.mpr c5
    clear c5
    obtain rfl := Option.some.inj H
    have p623 : 0 ≤ (x5_1 : Int) := oD M3
    have q623 : x5_1 < (l0.length : Int) := oD M3
    obtain ⟨ad623, e623, hx623_0⟩ := Kd.at_int HR0.o x5_1 p623 q623
    cases e623
    replace p623 := eq_true p623
    replace q623 := eq_true q623
    go_wp2
    go_ret
    exact ⟨by first | rfl | (simp; done) | (simp [*]; done), Q10⟩
   rw [if_neg c5] at H
   have c5b0 : ((rd l0 x5_1) == a1) = false := beq_eq_false_iff_ne.mpr c5
   have c5b1 : ((rd l0 x5_1) != a1) = true := bne_iff_ne.mpr c5
   have H' := zK H
   clear H
   have p623 : 0 ≤ (x5_1 : Int) := oD M3
   have q623 : x5_1 < (l0.length : Int) := oD M3
   obtain ⟨ad623, e623, hx623_0⟩ := Kd.at_int HR0.o x5_1 p623 q623
   cases e623
   replace p623 := eq_true p623
   replace q623 := eq_true q623
   go_wp2
   go_roundg k1
   case measure => have := HK1.o; omega
   case rel => exact ⟨(wrap64 (x5_1 + 1)), M7, H', ⟨by have := HK1.o; omega⟩, Q10⟩
/-! ### impl_Candidates: function 56 -/
def impl_Candidates.l0 : Nat → List Int → List (S126) → Int → Int → Int → Int → List Int → Int → Int → List Int → Int → Int → Option (List Int)
 | 0, _, _, _, _, _, _, _, _, _, _, _, _ => none
 | k + 1, x5, x13, x14, x15, x625000, x625001, x625002, x625003, x625004, x625005, x625006, x625007 => if x15 < x14 then (if 0 ≤ x15 then (if x15 < (x13.length : Int) then ((impl_CanBe.f k x625000 x625001 x625002 x625003 x625004 x625005 x625006 x625007 ((rd_T126 x13 x15).f0.f0) ((rd_T126 x13 x15).f0.f1) ((rd_T126 x13 x15).f0.f2) ((rd_T126 x13 x15).f0.f3) ((rd_T126 x13 x15).f0.f4) ((rd_T126 x13 x15).f1) ((rd_T126 x13 x15).f2) ((rd_T126 x13 x15).f3)).bind fun t631 => (if t631 = true then (if x5.length < 17592186044416 then (impl_Candidates.l0 k (x5 ++ [(rd_T126 x13 x15).f0.f0]) x13 x14 (wrap64 (x15 + 1)) x625000 x625001 x625002 x625003 x625004 x625005 x625006 x625007) else (none)) else (impl_Candidates.l0 k x5 x13 x14 (wrap64 (x15 + 1)) x625000 x625001 x625002 x625003 x625004 x625005 x625006 x625007))) else (none)) else (none)) else (some x5)
def impl_Candidates.f (k : Nat) (a0_0 : Int) (a0_1 : Int) (l0_2 : List Int) (a0_3 : Int) (a0_4 : Int) (l0_5 : List Int) (a0_6 : Int) (a0_7 : Int) (l1 : List (S126)) : Option (List Int) := (some (([] : List Int) : List Int)).bind fun y625 => ((impl_AreFinds.f k l1).bind fun t628 => (if t628 = true then (impl_Candidates.l0 k y625 l1 (l1.length : Int) 0 a0_0 a0_1 l0_2 a0_3 a0_4 l0_5 a0_6 a0_7) else (some y625)))
set_option maxHeartbeats 8000000 in
set_option maxRecDepth 100000 in
theorem impl_Candidates.calls (k : Nat) (a0_0 : Int) (a0_1 : Int) (A0_2 : Option Addr) (c0_2 : Nat) (l0_2 : List Int) (a0_3 : Int) (a0_4 : Int) (A0_5 : Option Addr) (c0_5 : Nat) (l0_5 : List Int) (a0_6 : Int) (a0_7 : Int) (A1 : Option Addr) (c1 : Nat) (l1 : List (S126)) (r : List Int) (w : World) (hr0_2 : Kd.C (Kd.int .i64) w A0_2 l0_2.length l0_2) (hc0_2 : l0_2.length ≤ c0_2) (hr0_5 : Kd.C (Kd.int .i64) w A0_5 l0_5.length l0_5) (hc0_5 : l0_5.length ≤ c0_5) (hr1 : Kd.C k126 w A1 l1.length l1) (hc1 : l1.length ≤ c1) (h : impl_Candidates.f k a0_0 a0_1 l0_2 a0_3 a0_4 l0_5 a0_6 a0_7 l1 = some r) :
  Calls Try.prog 56 #[.agg #[.int .i64 a0_0, .int .i64 a0_1, .slice A0_2 l0_2.length c0_2, .int .i64 a0_3, .int .i64 a0_4, .slice A0_5 l0_5.length c0_5, .int .i64 a0_6, .int .i64 a0_7], .slice A1 l1.length c1] w fun e w' => ∃ v0_ : Value, e = .returned (v0_) ∧ Kd.R (Kd.int .i64) 3 w' w.heap.size (fun _ => True) v0_ r ∧ Below w.heap.size w w' := by
 have hu87 := Try.underlying87
 have hu126 := Try.underlying126
 have HR0_2 := zK hr0_2
 have HC0_2 := zK hc0_2
 clear hr0_2 hc0_2
 have HR0_5 := zK hr0_5
 have HC0_5 := zK hc0_5
 clear hr0_5 hc0_5
 have HR1 := zK hr1
 have HC1 := zK hc1
 clear hr1 hc1
 have HB := zK (Below.refl w.heap.size w)
 have H : ((some (([] : List Int) : List Int)).bind fun y625 => ((impl_AreFinds.f k l1).bind fun t628 => (if t628 = true then (impl_Candidates.l0 k y625 l1 (l1.length : Int) 0 a0_0 a0_1 l0_2 a0_3 a0_4 l0_5 a0_6 a0_7) else (some y625)))) = some r := h
 clear h
 obtain ⟨y625, hy625⟩ : ∃ y_ : List Int, y_ = (([] : List Int)) := ⟨_, rfl⟩
 replace H : ((impl_AreFinds.f k l1).bind fun t628 => (if t628 = true then (impl_Candidates.l0 k y625 l1 (l1.length : Int) 0 a0_0 a0_1 l0_2 a0_3 a0_4 l0_5 a0_6 a0_7) else (some y625))) = some r := by first | (rw [hy625]; with_reducible exact H) | (have H2_ := (Option.bind_some _ _).symm.trans H; rw [hy625]; with_reducible exact H2_) | (have H2_ := (Option.bind_some _ _).symm.trans H; with_reducible exact H2_) | with_reducible exact H | (rw [hy625]; exact H) | exact H
 have Ny625 := zK hy625
 clear hy625
 replace H := Option.bind_eq_some_iff.mp H
 obtain ⟨t628, A30, H⟩ := H
 try dsimp only at H
 have A3 := zK A30
 clear A30
 by_cases c4 : t628 = true
 rotate_left
 ·replace c4 := Bool.eq_false_iff.mpr c4
  subst c4
  have H1 : (some y625) = some r := by rw [if_neg (show ¬ (false = true) by decide)] at H; exact H
  clear H
  have H := H1
  clear H1
  obtain rfl := Option.some.inj H
  go_enter Try.func56, Try.ntmps56
  go_wp2_with (first | ((with_reducible refine gate_dst (N := 2) rfl ?_); refine box_event ?hg (N := 2) ?hd (cs := #[.int .i64 a0_0, .int .i64 a0_1, .slice A0_2 l0_2.length c0_2, .int .i64 a0_3, .int .i64 a0_4, .slice A0_5 l0_5.length c0_5, .int .i64 a0_6, .int .i64 a0_7]) (t := 87) ?hr ?_; (case hd => rfl); (case hg => rfl); (case hr => first | (go_simp; done) | (go_simp; rfl)); intro gb624 hg w27 hbox hb; have _ := zK (bT (qB HB.o) hb); have _ := zK (hbox); have _ := zK ((by rw [hg]; exact (bZ (qB HB.o)) : w.heap.size ≤ gb624)); have _ := zK ((by rw [hg]; exact (bZ (qB HB.o)) : w.heap.size ≤ gb624)); clear HB; rename_i HB BK624 GW624 GE624; clear hb hbox hg) | ((with_reducible refine gate_dst (N := 8) rfl ?_); refine Kd.R_lit (Kd.int .i64) _ 3 ?hg (N := 8) ?hd (xs := ([] : List Int)) (inner := []) (ok := fun _ => True) (okp := fun _ => True) ?hr ?hp (fun _ hk => hk) trivial (Below.refl _ _) (Nat.le_refl _) (by simp) ?_; (case hd => rfl); (case hg => rfl); (case hr => first | (go_simp; done) | (go_simp; rfl)); (case hp => exact (Reps.none _ _)); intro v626 w28 ho29 hb hg_ hnew_; clear hg_ hnew_; (first | rw [← Ny625.o] at ho29 | (simp only [Int.reduceToNat] at ho29; rw [← Ny625.o] at ho29)); have _ := zK (Kd.R_lower ho29 (bZ M22)); have _ := zK (bB (qK BK624.o) hb); have _ := zK (bT M22 hb); clear BK624 HB; rename_i HO627 BK624 HB; clear hb ho29) | ((with_reducible refine gate_callee (f := 117) rfl ?_); refine goesL_ (some 10) rfl rfl Try.func117 (by kernel_rfl) rfl #[.slice A1 l1.length c1] rfl M0 ?_; (with_reducible refine (impl_AreFinds.calls k _ _ l1 false _ ?side1 ?side2 A3.o).mono ?_); (case side1 => exact Kd.qC (Kd.C_below HR1.o HB.o)); (case side2 => exact HC1.o); rintro e w30 ⟨rfl, hb⟩; refine ⟨_, rfl, ?_⟩; have _ := zK (Kd.R_below (Kd.qR HO627.o) hb); have _ := zK (bB (qK BK624.o) hb); have _ := zK (bT M22 hb); clear HO627 BK624 HB; rename_i HO627 BK624 HB; (try clear hb); (try clear hb2); (try clear hk); (try clear hi)))
  go_ret
  exact ⟨_, by first | rfl | (simp [errW_none, errW_some] <;> rfl) | (simp [*, errW_none, errW_some] <;> rfl), by exact Kd.qR HO627.o, by exact qX HB.o⟩
 subst c4
 have H1 : (impl_Candidates.l0 k y625 l1 (l1.length : Int) 0 a0_0 a0_1 l0_2 a0_3 a0_4 l0_5 a0_6 a0_7) = some r := by rw [if_pos rfl] at H; exact H
 clear H
 have H := H1
 clear H1
 have H' := zK H
 clear H
 go_enter Try.func56, Try.ntmps56
 go_wp2_with (first | ((with_reducible refine gate_dst (N := 2) rfl ?_); refine box_event ?hg (N := 2) ?hd (cs := #[.int .i64 a0_0, .int .i64 a0_1, .slice A0_2 l0_2.length c0_2, .int .i64 a0_3, .int .i64 a0_4, .slice A0_5 l0_5.length c0_5, .int .i64 a0_6, .int .i64 a0_7]) (t := 87) ?hr ?_; (case hd => rfl); (case hg => rfl); (case hr => first | (go_simp; done) | (go_simp; rfl)); intro gb624 hg w5 hbox hb; have _ := zK (bT (qB HB.o) hb); have _ := zK (hbox); have _ := zK ((by rw [hg]; exact (bZ (qB HB.o)) : w.heap.size ≤ gb624)); have _ := zK ((by rw [hg]; exact (bZ (qB HB.o)) : w.heap.size ≤ gb624)); clear HB; rename_i HB BK624 GW624 GE624; clear hb hbox hg) | ((with_reducible refine gate_dst (N := 8) rfl ?_); refine Kd.R_lit (Kd.int .i64) _ 3 ?hg (N := 8) ?hd (xs := ([] : List Int)) (inner := []) (ok := fun _ => True) (okp := fun _ => True) ?hr ?hp (fun _ hk => hk) trivial (Below.refl _ _) (Nat.le_refl _) (by simp) ?_; (case hd => rfl); (case hg => rfl); (case hr => first | (go_simp; done) | (go_simp; rfl)); (case hp => exact (Reps.none _ _)); intro v626 w6 ho7 hb hg_ hnew_; clear hg_ hnew_; (first | rw [← Ny625.o] at ho7 | (simp only [Int.reduceToNat] at ho7; rw [← Ny625.o] at ho7)); have _ := zK (Kd.R_lower ho7 (bZ M22)); have _ := zK (bB (qK BK624.o) hb); have _ := zK (bT M22 hb); clear BK624 HB; rename_i HO627 BK624 HB; clear hb ho7) | ((with_reducible refine gate_callee (f := 117) rfl ?_); refine goesL_ (some 10) rfl rfl Try.func117 (by kernel_rfl) rfl #[.slice A1 l1.length c1] rfl M0 ?_; (with_reducible refine (impl_AreFinds.calls k _ _ l1 true _ ?side1 ?side2 A3.o).mono ?_); (case side1 => exact Kd.qC (Kd.C_below HR1.o HB.o)); (case side2 => exact HC1.o); rintro e w8 ⟨rfl, hb⟩; refine ⟨_, rfl, ?_⟩; have _ := zK (Kd.R_below (Kd.qR HO627.o) hb); have _ := zK (bB (qK BK624.o) hb); have _ := zK (bT M22 hb); clear HO627 BK624 HB; rename_i HO627 BK624 HB; (try clear hb); (try clear hb2); (try clear hk); (try clear hi)))
 go_loopg [5, 15] k (fun kq v5 v15 w' => ∃ (x5_1 : List Int) (x15_1 : Int), v15 = .int .i64 x15_1 ∧ Aside0 (impl_Candidates.l0 kq x5_1 l1 (l1.length : Int) x15_1 a0_0 a0_1 l0_2 a0_3 a0_4 l0_5 a0_6 a0_7 = some r) ∧ Aside0 (kq ≤ k) ∧ Aside0 (Kd.R (Kd.int .i64) 3 w' w.heap.size (fun _ => True) v5 x5_1) ∧ Aside0 (w'.heap[gb624]? = some (.cells #[.int .i64 a0_0, .int .i64 a0_1, (.slice A0_2 l0_2.length c0_2), .int .i64 a0_3, .int .i64 a0_4, (.slice A0_5 l0_5.length c0_5), .int .i64 a0_6, .int .i64 a0_7] 87 (0, 0))) ∧ Aside0 (Below w.heap.size w w'))
 case atStart => exact ⟨(y625), (0), M7, H', ⟨Nat.le_refl _⟩, ⟨by exact Kd.qR HO627.o⟩, ⟨by exact qK BK624.o⟩, ⟨by exact qX HB.o⟩⟩
 case round =>
  clear H'
  try clear c1
  try clear p2
  try clear c4
  try clear c5
  obtain ⟨x5_1, x15_1, rfl, HA, HK1, HO_5, BK624, HB⟩ := hrel
  cases gk with
  | zero => exact absurd HA.o (by simp [impl_Candidates.l0])
  | succ k1 =>
   have H := HA.o
   clear HA
   simp only [impl_Candidates.l0] at H
   by_cases c9 : x15_1 < (l1.length : Int)
   rotate_left
   ·rw [if_neg c9] at H
    have c9b0 : decide (x15_1 < (l1.length : Int)) = false := decide_eq_false c9
    clear c9
    obtain rfl := Option.some.inj H
    go_wp2
    go_ret
    exact ⟨_, by first | rfl | (simp [errW_none, errW_some] <;> rfl) | (simp [*, errW_none, errW_some] <;> rfl), by exact Kd.qR HO_5.o, by exact qX HB.o⟩
   rw [if_pos c9] at H
   have c9b0 : decide (x15_1 < (l1.length : Int)) = true := decide_eq_true c9
   clear c9
   by_cases c10 : 0 ≤ x15_1
   rotate_left
   ·rw [if_neg c10] at H
    exact absurd H (by simp)
   rw [if_pos c10] at H
   have c10b0 : decide (0 ≤ x15_1) = true := decide_eq_true c10
   clear c10
   by_cases c11 : x15_1 < (l1.length : Int)
   rotate_left
   ·rw [if_neg c11] at H
    exact absurd H (by simp)
   rw [if_pos c11] at H
   have c11b0 : decide (x15_1 < (l1.length : Int)) = true := decide_eq_true c11
   clear c11
   replace H := Option.bind_eq_some_iff.mp H
   obtain ⟨t631, A120, H⟩ := H
   try dsimp only at H
   have A12 := zK A120
   clear A120
   by_cases c13 : t631 = true
   rotate_left
   ·replace c13 := Bool.eq_false_iff.mpr c13
    subst c13
    have H1 : (impl_Candidates.l0 k1 x5_1 l1 (l1.length : Int) (wrap64 (x15_1 + 1)) a0_0 a0_1 l0_2 a0_3 a0_4 l0_5 a0_6 a0_7) = some r := by rw [if_neg (show ¬ (false = true) by decide)] at H; exact H
    clear H
    have H := H1
    clear H1
    have H' := zK H
    clear H
    have p629 : 0 ≤ (x15_1 : Int) := oD M3
    have q629 : x15_1 < (l1.length : Int) := oD M3
    obtain ⟨ad629, e629, hx629_0, hx629_1, hx629_2, hx629_3, hx629_4, hx629_5, hx629_6, hx629_7⟩ := at_T126 HR1.o x15_1 p629 q629
    cases e629
    replace hx629_0 := cB HB.o hx629_0
    replace hx629_1 := cB HB.o hx629_1
    replace hx629_2 := cB HB.o hx629_2
    replace hx629_3 := cB HB.o hx629_3
    replace hx629_4 := cB HB.o hx629_4
    replace hx629_5 := cB HB.o hx629_5
    replace hx629_6 := cB HB.o hx629_6
    replace hx629_7 := cB HB.o hx629_7
    replace p629 := eq_true p629
    replace q629 := eq_true q629
    go_wp2_with (first | ((with_reducible refine gate_dst (N := 7) rfl ?_); refine box_event ?hg (N := 7) ?hd (cs := #[.int .i64 0, .int .i64 0, .int .i64 0, .int .i64 0, .int .i64 0, .int .i64 0, .int .i64 0, .int .i64 0]) (t := 126) ?hr ?_; (case hd => rfl); (case hg => rfl); (case hr => first | (go_simp; done) | (go_simp; rfl)); intro gb630 hg w22 hbox hb; have _ := zK (Kd.R_below (Kd.qR HO_5.o) hb); have _ := zK (bB (qK BK624.o) hb); have _ := zK (bT M22 hb); have _ := zK (hbox); have _ := zK ((by rw [hg]; exact (bZ M22) : w.heap.size ≤ gb630)); have _ := zK ((by rw [hg]; exact (bZ M22) : w.heap.size ≤ gb630)); have _ := zK ((by rw [hg]; exact Nat.ne_of_lt (blk_lt (qK BK624.o)) : gb624 ≠ gb630)); have _ := zK ((by rw [hg]; exact Nat.ne_of_gt (blk_lt (qK BK624.o)) : gb630 ≠ gb624)); clear HO_5 BK624 HB; rename_i HO_5 BK624 HB BK630 GW630 GE630 NB624_630 NB630_624; clear hb hbox hg; have hnb23 := NB630_624.o; have hnc23 := NB624_630.o; obtain ⟨hcz24_0, hcz24_1, hcz24_2, hcz24_3, hcz24_4, hcz24_5, hcz24_6, hcz24_7, hfz24_0, hfz24_1, hfz24_2, hfz24_3, hfz24_4, hfz24_5, hfz24_6, hfz24_7⟩ := bx8 BK630.o; obtain ⟨hcz25_0, hcz25_1, hcz25_2, hcz25_3, hcz25_4, hcz25_5, hcz25_6, hcz25_7, hfz25_0, hfz25_1, hfz25_2, hfz25_3, hfz25_4, hfz25_5, hfz25_6, hfz25_7⟩ := bx8 BK624.o) | ((with_reducible refine gate_callee (f := 123) rfl ?_); refine goesL_ (some 21) rfl rfl Try.func123 (by kernel_rfl) rfl #[.agg #[.int .i64 a0_0, .int .i64 a0_1, .slice A0_2 l0_2.length c0_2, .int .i64 a0_3, .int .i64 a0_4, .slice A0_5 l0_5.length c0_5, .int .i64 a0_6, .int .i64 a0_7], .agg #[.int .i64 ((rd_T126 l1 x15_1).f0.f0), .int .i64 ((rd_T126 l1 x15_1).f0.f1), .int .i64 ((rd_T126 l1 x15_1).f0.f2), .int .i64 ((rd_T126 l1 x15_1).f0.f3), .int .i64 ((rd_T126 l1 x15_1).f0.f4), .int .i64 ((rd_T126 l1 x15_1).f1), .int .i64 ((rd_T126 l1 x15_1).f2), .int .i64 ((rd_T126 l1 x15_1).f3)]] rfl M0 ?_; (with_reducible refine (impl_CanBe.calls k1 a0_0 a0_1 _ _ l0_2 a0_3 a0_4 _ _ l0_5 a0_6 a0_7 ((rd_T126 l1 x15_1).f0.f0) ((rd_T126 l1 x15_1).f0.f1) ((rd_T126 l1 x15_1).f0.f2) ((rd_T126 l1 x15_1).f0.f3) ((rd_T126 l1 x15_1).f0.f4) ((rd_T126 l1 x15_1).f1) ((rd_T126 l1 x15_1).f2) ((rd_T126 l1 x15_1).f3) false _ ?side1 ?side2 ?side3 ?side4 A12.o).mono ?_); (case side1 => exact Kd.C_below HR0_2.o M22); (case side2 => exact HC0_2.o); (case side3 => exact Kd.C_below HR0_5.o M22); (case side4 => exact HC0_5.o); rintro e w26 ⟨rfl, hb⟩; refine ⟨_, rfl, ?_⟩; have _ := zK (Kd.R_below M23 hb); have _ := zK (bB (g := gb624) (o := .cells #[.int .i64 a0_0, .int .i64 a0_1, .slice A0_2 l0_2.length c0_2, .int .i64 a0_3, .int .i64 a0_4, .slice A0_5 l0_5.length c0_5, .int .i64 a0_6, .int .i64 a0_7] 87 (0, 0)) M19 hb); have _ := zK (bB (g := gb630) (o := .cells #[.int .i64 ((rd_T126 l1 x15_1).f0.f0), .int .i64 ((rd_T126 l1 x15_1).f0.f1), .int .i64 ((rd_T126 l1 x15_1).f0.f2), .int .i64 ((rd_T126 l1 x15_1).f0.f3), .int .i64 ((rd_T126 l1 x15_1).f0.f4), .int .i64 ((rd_T126 l1 x15_1).f1), .int .i64 ((rd_T126 l1 x15_1).f2), .int .i64 ((rd_T126 l1 x15_1).f3)] 126 (0, 0)) (by (with_reducible repeat (first | refine kN ?_ _ | refine kD ?_ | refine kA ?_ _)); refine blk_put (cs := #[.int .i64 ((rd_T126 l1 x15_1).f0.f0), .int .i64 ((rd_T126 l1 x15_1).f0.f1), .int .i64 ((rd_T126 l1 x15_1).f0.f2), .int .i64 ((rd_T126 l1 x15_1).f0.f3), .int .i64 ((rd_T126 l1 x15_1).f0.f4), .int .i64 ((rd_T126 l1 x15_1).f1), .int .i64 ((rd_T126 l1 x15_1).f2), .int .i64 0]) ?_ 7 _ rfl; (with_reducible repeat (first | refine kN ?_ _ | refine kD ?_ | refine kA ?_ _)); refine blk_put (cs := #[.int .i64 ((rd_T126 l1 x15_1).f0.f0), .int .i64 ((rd_T126 l1 x15_1).f0.f1), .int .i64 ((rd_T126 l1 x15_1).f0.f2), .int .i64 ((rd_T126 l1 x15_1).f0.f3), .int .i64 ((rd_T126 l1 x15_1).f0.f4), .int .i64 ((rd_T126 l1 x15_1).f1), .int .i64 0, .int .i64 0]) ?_ 6 _ rfl; (with_reducible repeat (first | refine kN ?_ _ | refine kD ?_ | refine kA ?_ _)); refine blk_put (cs := #[.int .i64 ((rd_T126 l1 x15_1).f0.f0), .int .i64 ((rd_T126 l1 x15_1).f0.f1), .int .i64 ((rd_T126 l1 x15_1).f0.f2), .int .i64 ((rd_T126 l1 x15_1).f0.f3), .int .i64 ((rd_T126 l1 x15_1).f0.f4), .int .i64 0, .int .i64 0, .int .i64 0]) ?_ 5 _ rfl; (with_reducible repeat (first | refine kN ?_ _ | refine kD ?_ | refine kA ?_ _)); refine blk_put (cs := #[.int .i64 ((rd_T126 l1 x15_1).f0.f0), .int .i64 ((rd_T126 l1 x15_1).f0.f1), .int .i64 ((rd_T126 l1 x15_1).f0.f2), .int .i64 ((rd_T126 l1 x15_1).f0.f3), .int .i64 0, .int .i64 0, .int .i64 0, .int .i64 0]) ?_ 4 _ rfl; (with_reducible repeat (first | refine kN ?_ _ | refine kD ?_ | refine kA ?_ _)); refine blk_put (cs := #[.int .i64 ((rd_T126 l1 x15_1).f0.f0), .int .i64 ((rd_T126 l1 x15_1).f0.f1), .int .i64 ((rd_T126 l1 x15_1).f0.f2), .int .i64 0, .int .i64 0, .int .i64 0, .int .i64 0, .int .i64 0]) ?_ 3 _ rfl; (with_reducible repeat (first | refine kN ?_ _ | refine kD ?_ | refine kA ?_ _)); refine blk_put (cs := #[.int .i64 ((rd_T126 l1 x15_1).f0.f0), .int .i64 ((rd_T126 l1 x15_1).f0.f1), .int .i64 0, .int .i64 0, .int .i64 0, .int .i64 0, .int .i64 0, .int .i64 0]) ?_ 2 _ rfl; (with_reducible repeat (first | refine kN ?_ _ | refine kD ?_ | refine kA ?_ _)); refine blk_put (cs := #[.int .i64 ((rd_T126 l1 x15_1).f0.f0), .int .i64 0, .int .i64 0, .int .i64 0, .int .i64 0, .int .i64 0, .int .i64 0, .int .i64 0]) ?_ 1 _ rfl; (with_reducible repeat (first | refine kN ?_ _ | refine kD ?_ | refine kA ?_ _)); refine blk_put (cs := #[.int .i64 0, .int .i64 0, .int .i64 0, .int .i64 0, .int .i64 0, .int .i64 0, .int .i64 0, .int .i64 0]) ?_ 0 _ rfl; exact qK BK630.o) hb); have _ := zK (bT M22 hb); clear HO_5 BK624 BK630 HB; rename_i HO_5 BK624 BK630 HB; (try clear hb); (try clear hb2); (try clear hk); (try clear hi)))
    go_roundg k1
    case measure => have := HK1.o; omega
    case rel => exact ⟨(x5_1), (wrap64 (x15_1 + 1)), M7, H', ⟨by have := HK1.o; omega⟩, ⟨by exact Kd.qR HO_5.o⟩, ⟨by exact qK BK624.o⟩, ⟨by exact qX HB.o⟩⟩
   subst c13
   have H1 : (if x5_1.length < 17592186044416 then (impl_Candidates.l0 k1 (x5_1 ++ [(rd_T126 l1 x15_1).f0.f0]) l1 (l1.length : Int) (wrap64 (x15_1 + 1)) a0_0 a0_1 l0_2 a0_3 a0_4 l0_5 a0_6 a0_7) else (none)) = some r := by rw [if_pos rfl] at H; exact H
   clear H
   have H := H1
   clear H1
   by_cases c14 : x5_1.length < 17592186044416
   rotate_left
   ·rw [if_neg c14] at H
    exact absurd H (by simp)
   rw [if_pos c14] at H
   have LMc14 := zK c14
   clear c14
   obtain ⟨y632, hy632⟩ : ∃ y_ : List Int, y_ = (x5_1 ++ [(rd_T126 l1 x15_1).f0.f0]) := ⟨_, rfl⟩
   replace H : (impl_Candidates.l0 k1 y632 l1 (l1.length : Int) (wrap64 (x15_1 + 1)) a0_0 a0_1 l0_2 a0_3 a0_4 l0_5 a0_6 a0_7) = some r := by first | (rw [hy632]; with_reducible exact H) | (have H2_ := (Option.bind_some _ _).symm.trans H; rw [hy632]; with_reducible exact H2_) | (have H2_ := (Option.bind_some _ _).symm.trans H; with_reducible exact H2_) | with_reducible exact H | (rw [hy632]; exact H) | exact H
   have Ny632 := zK hy632
   clear hy632
   have H' := zK H
   clear H
   have p629 : 0 ≤ (x15_1 : Int) := oD M3
   have q629 : x15_1 < (l1.length : Int) := oD M3
   obtain ⟨ad629, e629, hx629_0, hx629_1, hx629_2, hx629_3, hx629_4, hx629_5, hx629_6, hx629_7⟩ := at_T126 HR1.o x15_1 p629 q629
   cases e629
   replace hx629_0 := cB HB.o hx629_0
   replace hx629_1 := cB HB.o hx629_1
   replace hx629_2 := cB HB.o hx629_2
   replace hx629_3 := cB HB.o hx629_3
   replace hx629_4 := cB HB.o hx629_4
   replace hx629_5 := cB HB.o hx629_5
   replace hx629_6 := cB HB.o hx629_6
   replace hx629_7 := cB HB.o hx629_7
   replace p629 := eq_true p629
   replace q629 := eq_true q629
   go_wp2_with (first | ((with_reducible refine gate_dst (N := 7) rfl ?_); refine box_event ?hg (N := 7) ?hd (cs := #[.int .i64 0, .int .i64 0, .int .i64 0, .int .i64 0, .int .i64 0, .int .i64 0, .int .i64 0, .int .i64 0]) (t := 126) ?hr ?_; (case hd => rfl); (case hg => rfl); (case hr => first | (go_simp; done) | (go_simp; rfl)); intro gb630 hg w15 hbox hb; have _ := zK (Kd.R_below (Kd.qR HO_5.o) hb); have _ := zK (bB (qK BK624.o) hb); have _ := zK (bT M22 hb); have _ := zK (hbox); have _ := zK ((by rw [hg]; exact (bZ M22) : w.heap.size ≤ gb630)); have _ := zK ((by rw [hg]; exact (bZ M22) : w.heap.size ≤ gb630)); have _ := zK ((by rw [hg]; exact Nat.ne_of_lt (blk_lt (qK BK624.o)) : gb624 ≠ gb630)); have _ := zK ((by rw [hg]; exact Nat.ne_of_gt (blk_lt (qK BK624.o)) : gb630 ≠ gb624)); clear HO_5 BK624 HB; rename_i HO_5 BK624 HB BK630 GW630 GE630 NB624_630 NB630_624; clear hb hbox hg; have hnb16 := NB630_624.o; have hnc16 := NB624_630.o; obtain ⟨hcz17_0, hcz17_1, hcz17_2, hcz17_3, hcz17_4, hcz17_5, hcz17_6, hcz17_7, hfz17_0, hfz17_1, hfz17_2, hfz17_3, hfz17_4, hfz17_5, hfz17_6, hfz17_7⟩ := bx8 BK630.o; obtain ⟨hcz18_0, hcz18_1, hcz18_2, hcz18_3, hcz18_4, hcz18_5, hcz18_6, hcz18_7, hfz18_0, hfz18_1, hfz18_2, hfz18_3, hfz18_4, hfz18_5, hfz18_6, hfz18_7⟩ := bx8 BK624.o) | ((with_reducible refine gate_callee (f := 123) rfl ?_); refine goesL_ (some 21) rfl rfl Try.func123 (by kernel_rfl) rfl #[.agg #[.int .i64 a0_0, .int .i64 a0_1, .slice A0_2 l0_2.length c0_2, .int .i64 a0_3, .int .i64 a0_4, .slice A0_5 l0_5.length c0_5, .int .i64 a0_6, .int .i64 a0_7], .agg #[.int .i64 ((rd_T126 l1 x15_1).f0.f0), .int .i64 ((rd_T126 l1 x15_1).f0.f1), .int .i64 ((rd_T126 l1 x15_1).f0.f2), .int .i64 ((rd_T126 l1 x15_1).f0.f3), .int .i64 ((rd_T126 l1 x15_1).f0.f4), .int .i64 ((rd_T126 l1 x15_1).f1), .int .i64 ((rd_T126 l1 x15_1).f2), .int .i64 ((rd_T126 l1 x15_1).f3)]] rfl M0 ?_; (with_reducible refine (impl_CanBe.calls k1 a0_0 a0_1 _ _ l0_2 a0_3 a0_4 _ _ l0_5 a0_6 a0_7 ((rd_T126 l1 x15_1).f0.f0) ((rd_T126 l1 x15_1).f0.f1) ((rd_T126 l1 x15_1).f0.f2) ((rd_T126 l1 x15_1).f0.f3) ((rd_T126 l1 x15_1).f0.f4) ((rd_T126 l1 x15_1).f1) ((rd_T126 l1 x15_1).f2) ((rd_T126 l1 x15_1).f3) true _ ?side1 ?side2 ?side3 ?side4 A12.o).mono ?_); (case side1 => exact Kd.C_below HR0_2.o M22); (case side2 => exact HC0_2.o); (case side3 => exact Kd.C_below HR0_5.o M22); (case side4 => exact HC0_5.o); rintro e w19 ⟨rfl, hb⟩; refine ⟨_, rfl, ?_⟩; have _ := zK (Kd.R_below M23 hb); have _ := zK (bB (g := gb624) (o := .cells #[.int .i64 a0_0, .int .i64 a0_1, .slice A0_2 l0_2.length c0_2, .int .i64 a0_3, .int .i64 a0_4, .slice A0_5 l0_5.length c0_5, .int .i64 a0_6, .int .i64 a0_7] 87 (0, 0)) M19 hb); have _ := zK (bB (g := gb630) (o := .cells #[.int .i64 ((rd_T126 l1 x15_1).f0.f0), .int .i64 ((rd_T126 l1 x15_1).f0.f1), .int .i64 ((rd_T126 l1 x15_1).f0.f2), .int .i64 ((rd_T126 l1 x15_1).f0.f3), .int .i64 ((rd_T126 l1 x15_1).f0.f4), .int .i64 ((rd_T126 l1 x15_1).f1), .int .i64 ((rd_T126 l1 x15_1).f2), .int .i64 ((rd_T126 l1 x15_1).f3)] 126 (0, 0)) (by (with_reducible repeat (first | refine kN ?_ _ | refine kD ?_ | refine kA ?_ _)); refine blk_put (cs := #[.int .i64 ((rd_T126 l1 x15_1).f0.f0), .int .i64 ((rd_T126 l1 x15_1).f0.f1), .int .i64 ((rd_T126 l1 x15_1).f0.f2), .int .i64 ((rd_T126 l1 x15_1).f0.f3), .int .i64 ((rd_T126 l1 x15_1).f0.f4), .int .i64 ((rd_T126 l1 x15_1).f1), .int .i64 ((rd_T126 l1 x15_1).f2), .int .i64 0]) ?_ 7 _ rfl; (with_reducible repeat (first | refine kN ?_ _ | refine kD ?_ | refine kA ?_ _)); refine blk_put (cs := #[.int .i64 ((rd_T126 l1 x15_1).f0.f0), .int .i64 ((rd_T126 l1 x15_1).f0.f1), .int .i64 ((rd_T126 l1 x15_1).f0.f2), .int .i64 ((rd_T126 l1 x15_1).f0.f3), .int .i64 ((rd_T126 l1 x15_1).f0.f4), .int .i64 ((rd_T126 l1 x15_1).f1), .int .i64 0, .int .i64 0]) ?_ 6 _ rfl; (with_reducible repeat (first | refine kN ?_ _ | refine kD ?_ | refine kA ?_ _)); refine blk_put (cs := #[.int .i64 ((rd_T126 l1 x15_1).f0.f0), .int .i64 ((rd_T126 l1 x15_1).f0.f1), .int .i64 ((rd_T126 l1 x15_1).f0.f2), .int .i64 ((rd_T126 l1 x15_1).f0.f3), .int .i64 ((rd_T126 l1 x15_1).f0.f4), .int .i64 0, .int .i64 0, .int .i64 0]) ?_ 5 _ rfl; (with_reducible repeat (first | refine kN ?_ _ | refine kD ?_ | refine kA ?_ _)); refine blk_put (cs := #[.int .i64 ((rd_T126 l1 x15_1).f0.f0), .int .i64 ((rd_T126 l1 x15_1).f0.f1), .int .i64 ((rd_T126 l1 x15_1).f0.f2), .int .i64 ((rd_T126 l1 x15_1).f0.f3), .int .i64 0, .int .i64 0, .int .i64 0, .int .i64 0]) ?_ 4 _ rfl; (with_reducible repeat (first | refine kN ?_ _ | refine kD ?_ | refine kA ?_ _)); refine blk_put (cs := #[.int .i64 ((rd_T126 l1 x15_1).f0.f0), .int .i64 ((rd_T126 l1 x15_1).f0.f1), .int .i64 ((rd_T126 l1 x15_1).f0.f2), .int .i64 0, .int .i64 0, .int .i64 0, .int .i64 0, .int .i64 0]) ?_ 3 _ rfl; (with_reducible repeat (first | refine kN ?_ _ | refine kD ?_ | refine kA ?_ _)); refine blk_put (cs := #[.int .i64 ((rd_T126 l1 x15_1).f0.f0), .int .i64 ((rd_T126 l1 x15_1).f0.f1), .int .i64 0, .int .i64 0, .int .i64 0, .int .i64 0, .int .i64 0, .int .i64 0]) ?_ 2 _ rfl; (with_reducible repeat (first | refine kN ?_ _ | refine kD ?_ | refine kA ?_ _)); refine blk_put (cs := #[.int .i64 ((rd_T126 l1 x15_1).f0.f0), .int .i64 0, .int .i64 0, .int .i64 0, .int .i64 0, .int .i64 0, .int .i64 0, .int .i64 0]) ?_ 1 _ rfl; (with_reducible repeat (first | refine kN ?_ _ | refine kD ?_ | refine kA ?_ _)); refine blk_put (cs := #[.int .i64 0, .int .i64 0, .int .i64 0, .int .i64 0, .int .i64 0, .int .i64 0, .int .i64 0, .int .i64 0]) ?_ 0 _ rfl; exact qK BK630.o) hb); have _ := zK (bT M22 hb); clear HO_5 BK624 BK630 HB; rename_i HO_5 BK624 BK630 HB; (try clear hb); (try clear hb2); (try clear hk); (try clear hi); obtain ⟨hcz20_0, hcz20_1, hcz20_2, hcz20_3, hcz20_4, hcz20_5, hcz20_6, hcz20_7, hfz20_0, hfz20_1, hfz20_2, hfz20_3, hfz20_4, hfz20_5, hfz20_6, hfz20_7⟩ := bx8 BK630.o) | ((with_reducible refine gate_builtin (b := .append) (xs := #[.tmp 22, .tmp 26]) rfl ?_); at_builtin; refine Kd.R_append (Kd.int .i64) (w0 := w) w.heap.size rfl (.tmp 22) (.tmp 26) 30 3 (.int .i64 0) 8 rfl Try.underlying30 info3 rfl (by decide) (by omega) u5 x5_1 ((rd_T126 l1 x15_1).f0.f0) [.int .i64 ((rd_T126 l1 x15_1).f0.f0)] (fun _ => True) (fun _ => False) rfl rfl ?aP (fun _ hk => hk.elim) ?aF ?aO ?aB ?aS ?aL ?_; (case aP => exact rfl); (case aB => exact M22); (case aF => exact (fun _ _ => trivial)); (case aO => exact (Kd.qR HO_5.o)); (case aS => exact (bZ M22)); (case aL => have := LMc14.o; omega); intro v633 w21 ho hb hg hat; rw [← Ny632.o] at ho; have _ := zK (blk_grown (qK BK624.o) hg (Kd.R_ne HO_5.o BK624.o (by decide))); have _ := zK (blk_grown (qK BK630.o) hg (Kd.R_ne HO_5.o BK630.o (by decide))); have _ := zK (hb); have _ := zK (ho); clear BK624 BK630 HB HO_5; rename_i BK624 BK630 HB HO634; clear ho hb hg hat))
   go_roundg k1
   case measure => have := HK1.o; omega
   case rel => exact ⟨(y632), (wrap64 (x15_1 + 1)), M7, H', ⟨by have := HK1.o; omega⟩, ⟨by exact Kd.qR HO634.o⟩, ⟨by exact qK BK624.o⟩, ⟨by exact qX HB.o⟩⟩
/-! ### impl_CountLetters: function 57 -/
def impl_CountLetters.l0 : Nat → Int → Int → List (S81) → Int → Int → Option (Int)
 | 0, _, _, _, _, _ => none
 | k + 1, x1, x5, x8, x9, x10 => if x10 < x9 then (if 0 ≤ x10 then (if x10 < (x8.length : Int) then (if ((rd_T81 x8 x10).f0) = x1 then (impl_CountLetters.l0 k x1 (wrap64 (x5 + 1)) x8 x9 (wrap64 (x10 + 1))) else (impl_CountLetters.l0 k x1 x5 x8 x9 (wrap64 (x10 + 1)))) else (none)) else (none)) else (some x5)
def impl_CountLetters.f (k : Nat) (l0 : List (S81)) (a1 : Int) : Option (Int) := impl_CountLetters.l0 k a1 0 l0 (l0.length : Int) 0
set_option maxHeartbeats 8000000 in
set_option maxRecDepth 100000 in
theorem impl_CountLetters.calls (k : Nat) (A0 : Option Addr) (c0 : Nat) (l0 : List (S81)) (a1 : Int) (r : Int) (w : World) (hr0 : Kd.C k81 w A0 l0.length l0) (hc0 : l0.length ≤ c0) (h : impl_CountLetters.f k l0 a1 = some r) :
  Calls Try.prog 57 #[.slice A0 l0.length c0, .int .i64 a1] w fun e w' => e = .returned (.int .i64 r) ∧ Below w.heap.size w w' := by
 have hu81 := Try.underlying81
 have HR0 := zK hr0
 have HC0 := zK hc0
 clear hr0 hc0
 have HB := zK (Below.refl w.heap.size w)
 have H : (impl_CountLetters.l0 k a1 0 l0 (l0.length : Int) 0) = some r := h
 clear h
 have H' := zK H
 clear H
 go_enter Try.func57, Try.ntmps57
 go_wp2
 go_loopg [5, 10] k (fun kq v5 v10 w' => ∃ (x5_1 : Int) (x10_1 : Int), v5 = .int .i64 x5_1 ∧ v10 = .int .i64 x10_1 ∧ Aside0 (impl_CountLetters.l0 kq a1 x5_1 l0 (l0.length : Int) x10_1 = some r) ∧ Aside0 (kq ≤ k) ∧ Aside0 (Below w.heap.size w w'))
 case atStart => exact ⟨(0), (0), M7, M7, H', ⟨Nat.le_refl _⟩, ⟨by exact qB HB.o⟩⟩
 case round =>
  clear H'
  try clear p2
  obtain ⟨x5_1, x10_1, rfl, rfl, HA, HK1, HB⟩ := hrel
  cases gk with
  | zero => exact absurd HA.o (by simp [impl_CountLetters.l0])
  | succ k1 =>
   have H := HA.o
   clear HA
   simp only [impl_CountLetters.l0] at H
   by_cases c3 : x10_1 < (l0.length : Int)
   rotate_left
   ·rw [if_neg c3] at H
    have c3b0 : decide (x10_1 < (l0.length : Int)) = false := decide_eq_false c3
    clear c3
    obtain rfl := Option.some.inj H
    go_wp2
    go_ret
    exact ⟨by first | rfl | (simp [errW_none, errW_some] <;> rfl) | (simp [*, errW_none, errW_some] <;> rfl), by exact qB HB.o⟩

   rw [if_pos c3] at H
   have c3b0 : decide (x10_1 < (l0.length : Int)) = true := decide_eq_true c3
   clear c3
   by_cases c4 : 0 ≤ x10_1
   rotate_left
   ·rw [if_neg c4] at H
    exact absurd H (by simp)
   rw [if_pos c4] at H
   have c4b0 : decide (0 ≤ x10_1) = true := decide_eq_true c4
   clear c4
   by_cases c5 : x10_1 < (l0.length : Int)
   rotate_left
   ·rw [if_neg c5] at H
    exact absurd H (by simp)
   rw [if_pos c5] at H
   have c5b0 : decide (x10_1 < (l0.length : Int)) = true := decide_eq_true c5
   clear c5
   by_cases c6 : ((rd_T81 l0 x10_1).f0) = a1
   rotate_left
   ·rw [if_neg c6] at H
    have c6b0 : (((rd_T81 l0 x10_1).f0) == a1) = false := beq_eq_false_iff_ne.mpr c6
    have c6b1 : (((rd_T81 l0 x10_1).f0) != a1) = true := bne_iff_ne.mpr c6
    have H' := zK H
    clear H
    have p635 : 0 ≤ (x10_1 : Int) := oD M3
    have q635 : x10_1 < (l0.length : Int) := oD M3
    obtain ⟨ad635, e635, hx635_0, hx635_1, hx635_2⟩ := at_T81 HR0.o x10_1 p635 q635
    cases e635
    replace hx635_0 := cB HB.o hx635_0
    replace hx635_1 := cB HB.o hx635_1
    replace hx635_2 := cB HB.o hx635_2
    replace p635 := eq_true p635
    replace q635 := eq_true q635
    go_wp2_with (first | ((with_reducible refine gate_dst (N := 7) rfl ?_); refine box_event ?hg (N := 7) ?hd (cs := #[.int .i64 0, .int .i64 0, .int .i64 0]) (t := 81) ?hr ?_; (case hd => rfl); (case hg => rfl); (case hr => first | (go_simp; done) | (go_simp; rfl)); intro gb636 hg w9 hbox hb; have _ := zK (bT (qB HB.o) hb); have _ := zK (hbox); have _ := zK ((by rw [hg]; exact (bZ (qB HB.o)) : w.heap.size ≤ gb636)); have _ := zK ((by rw [hg]; exact (bZ (qB HB.o)) : w.heap.size ≤ gb636)); clear HB; rename_i HB BK636 GW636 GE636; clear hb hbox hg; obtain ⟨hcz10_0, hcz10_1, hcz10_2, hfz10_0, hfz10_1, hfz10_2⟩ := bx3 BK636.o))
    go_roundg k1
    case measure => have := HK1.o; omega
    case rel => exact ⟨(x5_1), (wrap64 (x10_1 + 1)), M7, M7, H', ⟨by have := HK1.o; omega⟩, ⟨by exact qX HB.o⟩⟩
   rw [if_pos c6] at H
   have c6b0 : (((rd_T81 l0 x10_1).f0) == a1) = true := beq_iff_eq.mpr c6
   have c6b1 : (((rd_T81 l0 x10_1).f0) != a1) = false := bne_eq_false_iff_eq.mpr c6
   clear c6
   have H' := zK H
   clear H
   have p635 : 0 ≤ (x10_1 : Int) := oD M3
   have q635 : x10_1 < (l0.length : Int) := oD M3
   obtain ⟨ad635, e635, hx635_0, hx635_1, hx635_2⟩ := at_T81 HR0.o x10_1 p635 q635
   cases e635
   replace hx635_0 := cB HB.o hx635_0
   replace hx635_1 := cB HB.o hx635_1
   replace hx635_2 := cB HB.o hx635_2
   replace p635 := eq_true p635
   replace q635 := eq_true q635
   go_wp2_with (first | ((with_reducible refine gate_dst (N := 7) rfl ?_); refine box_event ?hg (N := 7) ?hd (cs := #[.int .i64 0, .int .i64 0, .int .i64 0]) (t := 81) ?hr ?_; (case hd => rfl); (case hg => rfl); (case hr => first | (go_simp; done) | (go_simp; rfl)); intro gb636 hg w7 hbox hb; have _ := zK (bT (qB HB.o) hb); have _ := zK (hbox); have _ := zK ((by rw [hg]; exact (bZ (qB HB.o)) : w.heap.size ≤ gb636)); have _ := zK ((by rw [hg]; exact (bZ (qB HB.o)) : w.heap.size ≤ gb636)); clear HB; rename_i HB BK636 GW636 GE636; clear hb hbox hg; obtain ⟨hcz8_0, hcz8_1, hcz8_2, hfz8_0, hfz8_1, hfz8_2⟩ := bx3 BK636.o))
   go_roundg k1
   case measure => have := HK1.o; omega
   case rel => exact ⟨(wrap64 (x5_1 + 1)), (wrap64 (x10_1 + 1)), M7, M7, H', ⟨by have := HK1.o; omega⟩, ⟨by exact qX HB.o⟩⟩
end Go.Proofs.Ytpkdbkheggfkkaa.PFnLetters
