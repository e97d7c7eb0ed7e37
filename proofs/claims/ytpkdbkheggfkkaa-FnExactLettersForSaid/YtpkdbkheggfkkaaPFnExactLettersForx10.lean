/- Walks of functions that FnExactLettersFor reaches: written by a tool of the kit for this claim, then shortened by a program of ours. -/
import Derived.Test.YtpkdbkheggfkkaaPFnExactLettersForx0
import Derived.Test.YtpkdbkheggfkkaaPFnExactLettersForx3
import Derived.Test.YtpkdbkheggfkkaaPFnExactLettersForx4
import Derived.Test.YtpkdbkheggfkkaaPFnExactLettersForx5
import Derived.Test.YtpkdbkheggfkkaaPFnExactLettersForx7
import Derived.Test.YtpkdbkheggfkkaaPFnExactLettersForx9
/- narrow -/
namespace Go.Proofs.Ytpkdbkheggfkkaa.PFnExactLettersFor
open Go.RowKit Go.Proofs.YtpkdbkheggfkkaaW.PrintWords Go.Proofs.YtpkdbkheggfkkaaW.PrintLast Go.Proofs.YtpkdbkheggfkkaaW.PrintMore
attribute [local go_sem] max2_int min2_int max_two min_two max_three min_three max_four min_four   -- for this text's walks alone
set_option linter.unusedVariables false
set_option linter.unusedSimpArgs false

/-! ### impl_LettersFor: function 52 -/
mutual
def impl_LettersFor.j0 : Nat → List (S81) → List (S87) → List (S126) → Int → Bool → Option ((List (S81)))
 | 0, _, _, _, _, _ => none
 | k + 1, x0, x1, x2, x3, x25 => if x25 = true then (some (([] : List (S81)))) else ((impl_Letter_118.f x0).bind fun t226 => (impl_LettersFor.l0 k x0 x2 x3 t226 x1 (x1.length : Int) 0))
def impl_LettersFor.l0 : Nat → List (S81) → List (S126) → Int → List (S81) → List (S87) → Int → Int → Option ((List (S81)))
 | 0, _, _, _, _, _, _, _ => none
 | k + 1, x0, x2, x3, x9, x29, x30, x31 => if x31 < x30 then (if 0 ≤ x31 then (if x31 < (x29.length : Int) then ((impl_toWrite.f k x9 ((rd_T87 x29 x31).f0) ((rd_T87 x29 x31).f1) ((rd_T87 x29 x31).f2) ((rd_T87 x29 x31).f3) ((rd_T87 x29 x31).f4) ((rd_T87 x29 x31).f5) ((rd_T87 x29 x31).f6.f0) ((rd_T87 x29 x31).f6.f1) x2).bind fun t234 => (if t234 = 0 then (impl_LettersFor.l0 k x0 x2 x3 x9 x29 x30 (wrap64 (x31 + 1))) else ((impl_WriteLetter.f k x9 ((rd_T87 x29 x31).f0) t234 x3).bind fun bt235 => (impl_LettersFor.l0 k x0 x2 x3 bt235.1 x29 x30 (wrap64 (x31 + 1)))))) else (none)) else (none)) else (if 0 ≤ (x0.length : Int) then (if (x0.length : Int) ≤ (x9.length : Int) then (some (x9.drop ((x0.length : Int) : Int).toNat)) else (none)) else (none))
end
def impl_LettersFor.f (k : Nat) (l0 : List (S81)) (l1 : List (S87)) (l2 : List (S126)) (a3 : Int) : Option ((List (S81))) := (impl_AreLetters.f k l0).bind fun t220 => (if t220 = true then ((impl_AreReports.f k l1).bind fun t221 => (if t221 = true then ((impl_AreFinds.f k l2).bind fun t222 => (impl_LettersFor.j0 k l0 l1 l2 a3 (!t222))) else (impl_LettersFor.j0 k l0 l1 l2 a3 true))) else (impl_LettersFor.j0 k l0 l1 l2 a3 true))
set_option maxHeartbeats 8000000 in
set_option maxRecDepth 100000 in
theorem impl_LettersFor.calls (k : Nat) (A0 : Option Addr) (c0 : Nat) (l0 : List (S81)) (A1 : Option Addr) (c1 : Nat) (l1 : List (S87)) (A2 : Option Addr) (c2 : Nat) (l2 : List (S126)) (a3 : Int) (r : List (S81)) (w : World) (hr0 : Kd.C k81 w A0 l0.length l0) (hc0 : l0.length ≤ c0) (hr1 : Kd.C k87 w A1 l1.length l1) (hc1 : l1.length ≤ c1) (hr2 : Kd.C k126 w A2 l2.length l2) (hc2 : l2.length ≤ c2) (h : impl_LettersFor.f k l0 l1 l2 a3 = some r) :
  Calls Try.prog 52 #[.slice A0 l0.length c0, .slice A1 l1.length c1, .slice A2 l2.length c2, .int .i64 a3] w fun e w' => ∃ v0_ : Value, e = .returned (v0_) ∧ Kd.Q k81 81 w' w.heap.size (fun _ => True) v0_ r ∧ Below w.heap.size w w' := by
 have hu87 := Try.underlying87
 have HR0 := zK hr0
 have HC0 := zK hc0
 clear hr0 hc0
 have HR1 := zK hr1
 have HC1 := zK hc1
 clear hr1 hc1
 have HR2 := zK hr2
 have HC2 := zK hc2
 clear hr2 hc2
 have HB := zK (Below.refl w.heap.size w)
 have H : ((impl_AreLetters.f k l0).bind fun t220 => (if t220 = true then ((impl_AreReports.f k l1).bind fun t221 => (if t221 = true then ((impl_AreFinds.f k l2).bind fun t222 => (impl_LettersFor.j0 k l0 l1 l2 a3 (!t222))) else (impl_LettersFor.j0 k l0 l1 l2 a3 true))) else (impl_LettersFor.j0 k l0 l1 l2 a3 true))) = some r := h
 clear h
 have HC5 := zK H
 clear H
 go_enter Try.func52, Try.ntmps52
 go_upto_region 1 with (fail)
 go_cut [25] (fun v25 wc => ∃ (kq : Nat) (x25_4 : Bool), v25 = .bool x25_4 ∧ Aside0 (impl_LettersFor.j0 kq l0 l1 l2 a3 x25_4 = some r) ∧ Aside0 (kq ≤ k) ∧ Aside0 (Below w.heap.size w wc))
 case first =>
  have H := HC5.o
  clear HC5
  replace H := Option.bind_eq_some_iff.mp H
  obtain ⟨t220, A60, H⟩ := H
  try dsimp only at H
  have A6 := zK A60
  clear A60
  by_cases c7 : t220 = true
  rotate_left
  ·replace c7 := Bool.eq_false_iff.mpr c7
   subst c7
   have H1 : (impl_LettersFor.j0 k l0 l1 l2 a3 true) = some r := by rw [if_neg (show ¬ (false = true) by decide)] at H; exact H
   clear H
   have H := H1
   clear H1
   have H' := zK H
   clear H
   go_wp2_with (first | ((with_reducible refine gate_callee (f := 53) rfl ?_); refine goesL_ (some 14) rfl rfl Try.func53 (by kernel_rfl) rfl #[.slice A0 l0.length c0] rfl M0 ?_; (with_reducible refine (impl_AreLetters.calls k _ _ l0 false _ ?side1 ?side2 A6.o).mono ?_); (case side1 => exact Kd.qC (Kd.C_below HR0.o HB.o)); (case side2 => exact HC0.o); rintro e w16 ⟨rfl, hb⟩; refine ⟨_, rfl, ?_⟩; have _ := zK (bT (qB HB.o) hb); clear HB; rename_i HB; (try clear hb); (try clear hb2); (try clear hk); (try clear hi)))
   go_meet
   case rel => exact ⟨_, (true), M3, H', ⟨by first | omega | exact Nat.le_refl _⟩, ⟨by exact qB HB.o⟩⟩
  subst c7
  have H1 : ((impl_AreReports.f k l1).bind fun t221 => (if t221 = true then ((impl_AreFinds.f k l2).bind fun t222 => (impl_LettersFor.j0 k l0 l1 l2 a3 (!t222))) else (impl_LettersFor.j0 k l0 l1 l2 a3 true))) = some r := by rw [if_pos rfl] at H; exact H
  clear H
  have H := H1
  clear H1
  replace H := Option.bind_eq_some_iff.mp H
  obtain ⟨t221, A80, H⟩ := H
  try dsimp only at H
  have A8 := zK A80
  clear A80
  by_cases c9 : t221 = true
  rotate_left
  ·replace c9 := Bool.eq_false_iff.mpr c9
   subst c9
   have H1 : (impl_LettersFor.j0 k l0 l1 l2 a3 true) = some r := by rw [if_neg (show ¬ (false = true) by decide)] at H; exact H
   clear H
   have H := H1
   clear H1
   have H' := zK H
   clear H
   go_wp2_with (first | ((with_reducible refine gate_callee (f := 53) rfl ?_); refine goesL_ (some 14) rfl rfl Try.func53 (by kernel_rfl) rfl #[.slice A0 l0.length c0] rfl M0 ?_; (with_reducible refine (impl_AreLetters.calls k _ _ l0 true _ ?side1 ?side2 A6.o).mono ?_); (case side1 => exact Kd.qC (Kd.C_below HR0.o HB.o)); (case side2 => exact HC0.o); rintro e w14 ⟨rfl, hb⟩; refine ⟨_, rfl, ?_⟩; have _ := zK (bT (qB HB.o) hb); clear HB; rename_i HB; (try clear hb); (try clear hb2); (try clear hk); (try clear hi)) | (go_at_call 116; (with_reducible refine (impl_AreReports.calls k _ _ l1 false _ ?side1 ?side2 A8.o).mono ?_); (case side1 => exact Kd.qC (Kd.C_below HR1.o HB.o)); (case side2 => exact HC1.o); rintro e w15 ⟨rfl, hb⟩; have _ := zK (bT (qB HB.o) hb); clear HB; rename_i HB; (try clear hb); (try clear hb2); (try clear hk); (try clear hi)))
   go_meet
   case rel => exact ⟨_, (true), M3, H', ⟨by first | omega | exact Nat.le_refl _⟩, ⟨by exact qB HB.o⟩⟩
  subst c9
  have H1 : ((impl_AreFinds.f k l2).bind fun t222 => (impl_LettersFor.j0 k l0 l1 l2 a3 (!t222))) = some r := by rw [if_pos rfl] at H; exact H
  clear H
  have H := H1
  clear H1
  replace H := Option.bind_eq_some_iff.mp H
  obtain ⟨t222, A100, H⟩ := H
  try dsimp only at H
  have A10 := zK A100
  clear A100
  have H' := zK H
  clear H
  go_wp2_with (first | ((with_reducible refine gate_callee (f := 53) rfl ?_); refine goesL_ (some 14) rfl rfl Try.func53 (by kernel_rfl) rfl #[.slice A0 l0.length c0] rfl M0 ?_; (with_reducible refine (impl_AreLetters.calls k _ _ l0 true _ ?side1 ?side2 A6.o).mono ?_); (case side1 => exact Kd.qC (Kd.C_below HR0.o HB.o)); (case side2 => exact HC0.o); rintro e w11 ⟨rfl, hb⟩; refine ⟨_, rfl, ?_⟩; have _ := zK (bT (qB HB.o) hb); clear HB; rename_i HB; (try clear hb); (try clear hb2); (try clear hk); (try clear hi)) | (go_at_call 116; (with_reducible refine (impl_AreReports.calls k _ _ l1 true _ ?side1 ?side2 A8.o).mono ?_); (case side1 => exact Kd.qC (Kd.C_below HR1.o HB.o)); (case side2 => exact HC1.o); rintro e w12 ⟨rfl, hb⟩; have _ := zK (bT (qB HB.o) hb); clear HB; rename_i HB; (try clear hb); (try clear hb2); (try clear hk); (try clear hi)) | (go_at_call 117; (with_reducible refine (impl_AreFinds.calls k _ _ l2 t222 _ ?side1 ?side2 A10.o).mono ?_); (case side1 => exact Kd.qC (Kd.C_below HR2.o HB.o)); (case side2 => exact HC2.o); rintro e w13 ⟨rfl, hb⟩; have _ := zK (bT (qB HB.o) hb); clear HB; rename_i HB; (try clear hb); (try clear hb2); (try clear hk); (try clear hi)))
  go_meet
  case rel => exact ⟨_, (!t222), M3, H', ⟨by first | omega | exact Nat.le_refl _⟩, ⟨by exact qB HB.o⟩⟩
 case rest =>
  clear HC5
  try clear c1
  try clear c2
  try clear p2
  try clear c5
  try clear c7
  try clear c9
  obtain ⟨kq, x25_4, rfl, HA, HJ4, HB⟩ := hcut
  cases kq with
  | zero => exact absurd HA.o (by simp [impl_LettersFor.j0])
  | succ kj4 =>
   have H := HA.o
   clear HA
   simp only [impl_LettersFor.j0] at H
   by_cases c17 : x25_4 = true
   ·subst c17
    have H1 : (some (([] : List (S81)))) = some r := by rw [if_pos rfl] at H; exact H
    clear H
    have H := H1
    clear H1
    obtain ⟨y223, hy223⟩ : ∃ y_ : List (S81), y_ = (([] : List (S81))) := ⟨_, rfl⟩
    replace H : (some y223) = some r := by first | (rw [hy223]; with_reducible exact H) | (have H2_ := (Option.bind_some _ _).symm.trans H; rw [hy223]; with_reducible exact H2_) | (have H2_ := (Option.bind_some _ _).symm.trans H; with_reducible exact H2_) | with_reducible exact H | (rw [hy223]; exact H) | exact H
    have Ny223 := zK hy223
    clear hy223
    obtain rfl := Option.some.inj H
    go_wp2_with (first | ((with_reducible refine gate_dst (N := 26) rfl ?_); refine Kd.R_lit k81 _ 81 ?hg (N := 26) ?hd (xs := ([] : List (S81))) (inner := []) (ok := fun _ => True) (okp := fun _ => True) ?hr ?hp (fun _ hk => hk) trivial (Below.refl _ _) (Nat.le_refl _) (by simp) ?_; (case hd => rfl); (case hg => rfl); (case hr => first | (go_simp; done) | (go_simp; rfl)); (case hp => exact (Reps.none _ _)); intro v224 w18 ho19 hb hg_ hnew_; clear hg_ hnew_; (first | rw [← Ny223.o] at ho19 | (simp only [Int.reduceToNat] at ho19; rw [← Ny223.o] at ho19)); have _ := zK (Kd.R_lower ho19 (bZ (qB HB.o))); have _ := zK (bT (qB HB.o) hb); clear HB; rename_i HO225 HB; clear hb ho19))
    go_ret
    exact ⟨_, by first | rfl | (simp [errW_none, errW_some] <;> rfl) | (simp [*, errW_none, errW_some] <;> rfl), Kd.Q_of_R (Kd.qR HO225.o), by exact qB HB.o⟩
   replace c17 := Bool.eq_false_iff.mpr c17
   subst c17
   have H1 : ((impl_Letter_118.f l0).bind fun t226 => (impl_LettersFor.l0 kj4 l0 l2 a3 t226 l1 (l1.length : Int) 0)) = some r := by rw [if_neg (show ¬ (false = true) by decide)] at H; exact H
   clear H
   have H := H1
   clear H1
   replace H := Option.bind_eq_some_iff.mp H
   obtain ⟨t226, A200, H⟩ := H
   try dsimp only at H
   have A20 := zK A200
   clear A200
   have H' := zK H
   clear H
   go_wp2_with (first | ((with_reducible refine gate_callee (f := 118) rfl ?_); refine goesL_ (some 28) rfl rfl Try.func118 (by kernel_rfl) rfl #[.slice A0 l0.length c0] rfl M0 ?_; (with_reducible refine (impl_Letter_118.calls _ _ l0 t226 _ ?side1 ?side2 A20.o).mono ?_); (case side1 => exact Kd.qC (Kd.C_below HR0.o HB.o)); (case side2 => exact HC0.o); rintro e w21 ⟨v227, rfl, ho0, hb⟩; refine ⟨_, rfl, ?_⟩; have _ := zK (Kd.R_lower ho0 (bZ (qB HB.o))); have _ := zK (bT (qB HB.o) hb); clear HB; rename_i HO228 HB; (try clear hb); (try clear hb2); (try clear hk); (try clear hi); (try clear ho0)))
   go_loopg [9, 31] kj4 (fun kq v9 v31 w' => ∃ (x9_2 : List (S81)) (x31_2 : Int), v31 = .int .i64 x31_2 ∧ Aside0 (impl_LettersFor.l0 kq l0 l2 a3 x9_2 l1 (l1.length : Int) x31_2 = some r) ∧ Aside0 (kq ≤ kj4) ∧ Aside0 (Kd.R k81 81 w' w.heap.size (fun _ => True) v9 x9_2) ∧ Aside0 (Below w.heap.size w w'))
   case atStart => exact ⟨(t226), (0), M3, H', ⟨Nat.le_refl _⟩, ⟨by exact Kd.qR HO228.o⟩, ⟨by exact qB HB.o⟩⟩
   case round =>
    clear H'
    try clear c1
    try clear c2
    try clear p2
    try clear c5
    try clear c7
    try clear c9
    try clear c11
    try clear c17
    try clear p2
    obtain ⟨x9_2, x31_2, rfl, HA, HK2, HO_9, HB⟩ := hrel
    cases gk with
    | zero => exact absurd HA.o (by simp [impl_LettersFor.l0])
    | succ k2 =>
     have H := HA.o
     clear HA
     simp only [impl_LettersFor.l0] at H
     by_cases c22 : x31_2 < (l1.length : Int)
     rotate_left
     ·rw [if_neg c22] at H
      have c22b0 : decide (x31_2 < (l1.length : Int)) = false := decide_eq_false c22
      clear c22
      by_cases c38 : 0 ≤ (l0.length : Int)
      rotate_left
      ·rw [if_neg c38] at H
       exact absurd H (by simp)
      rw [if_pos c38] at H
      have c38b0 := eq_true c38
      have c38b1 : decide (0 ≤ (l0.length : Int)) = true := decide_eq_true c38
      clear c38
      by_cases c39 : (l0.length : Int) ≤ (x9_2.length : Int)
      rotate_left
      ·rw [if_neg c39] at H
       exact absurd H (by simp)
      rw [if_pos c39] at H
      have c39b0 := eq_true c39
      have c39b1 : decide ((l0.length : Int) ≤ (x9_2.length : Int)) = true := decide_eq_true c39
      clear c39
      obtain ⟨y229, hy229⟩ : ∃ y_ : List (S81), y_ = (x9_2.drop ((l0.length : Int) : Int).toNat) := ⟨_, rfl⟩
      replace H : (some y229) = some r := by first | (rw [hy229]; with_reducible exact H) | (have H2_ := (Option.bind_some _ _).symm.trans H; rw [hy229]; with_reducible exact H2_) | (have H2_ := (Option.bind_some _ _).symm.trans H; with_reducible exact H2_) | with_reducible exact H | (rw [hy229]; exact H) | exact H
      have Ny229 := zK hy229
      clear hy229
      obtain rfl := Option.some.inj H
      obtain ⟨Ao40, co40, eo40⟩ := Kd.R_slice HO_9.o
      subst eo40
      have q41 : ((l0.length : Int) : Int) ≤ ((x9_2.length : Int) : Int) := oD M1
      obtain ⟨i041, hi041, _, hsz41, _⟩ := info_parts info81
      have hcut41 := cut_from (P := Try.prog) 73 81 .i64 Try.underlying73 hi041 3 hsz41 Ao40 x9_2.length co40 (l0.length : Int) (oD M1) q41
      have hr41 := Kd.Q_drop (k := ((l0.length : Int) : Int).toNat) (Kd.Q_of_R HO_9.o) (by omega)
      obtain ⟨A41, hA41⟩ : ∃ A1, A1 = (if co40 = ((l0.length : Int) : Int).toNat then Ao40 else (Ao40 : Option Addr).map (·.add (((l0.length : Int) : Int).toNat * 3))) := ⟨_, rfl⟩
      obtain ⟨c41, hc41⟩ : ∃ c1, c1 = co40 - ((l0.length : Int) : Int).toNat := ⟨_, rfl⟩
      have hy41 : y229.length = x9_2.length - ((l0.length : Int) : Int).toNat := (by rw [Ny229.o, List.length_drop])
      rw [← Ny229.o] at hr41
      rw [← hy41, ← hA41, ← hc41] at hcut41
      replace hr41 : Kd.Q k81 81 wr w.heap.size (fun _ => True) (.slice A41 y229.length c41) y229 := (by rw [hA41, hc41, hy41]; exact hr41)
      have HE41 : Aside0 ((Value.slice A41 y229.length c41).ownBlock = (.slice Ao40 x9_2.length co40 : Value).ownBlock) := ⟨by rw [hA41]; split <;> (cases (Ao40 : Option Addr) <;> first | rfl | (refine congrArg some ?_; unfold Addr.add; split <;> rfl) | (simp only [Option.map_some, Value.ownBlock, Addr.add]; split <;> rfl))⟩
      clear hy41 hi041 hsz41 HO_9 hA41 hc41
      have HO231 := zK hr41
      clear hr41
      replace q41 := eq_true q41
      go_wp2
      go_ret
      exact ⟨_, by first | rfl | (simp [errW_none, errW_some] <;> rfl) | (simp [*, errW_none, errW_some] <;> rfl), by (with_reducible repeat (first | apply Kd.Q_alloc | apply Kd.Q_drewN | apply Kd.Q_drew)); exact HO231.o, by exact qB HB.o⟩
     rw [if_pos c22] at H
     have c22b0 : decide (x31_2 < (l1.length : Int)) = true := decide_eq_true c22
     clear c22
     by_cases c23 : 0 ≤ x31_2
     rotate_left
     ·rw [if_neg c23] at H
      exact absurd H (by simp)
     rw [if_pos c23] at H
     have c23b0 : decide (0 ≤ x31_2) = true := decide_eq_true c23
     clear c23
     by_cases c24 : x31_2 < (l1.length : Int)
     rotate_left
     ·rw [if_neg c24] at H
      exact absurd H (by simp)
     rw [if_pos c24] at H
     have c24b0 : decide (x31_2 < (l1.length : Int)) = true := decide_eq_true c24
     clear c24
     replace H := Option.bind_eq_some_iff.mp H
     obtain ⟨t234, A250, H⟩ := H
     try dsimp only at H
     have A25 := zK A250
     clear A250
     by_cases c26 : t234 = 0
     ·rw [if_pos c26] at H
      have c26b0 : (t234 == 0) = true := beq_iff_eq.mpr c26
      have c26b1 : (t234 != 0) = false := bne_eq_false_iff_eq.mpr c26
      clear c26
      have H' := zK H
      clear H
      have p232 : 0 ≤ (x31_2 : Int) := oD M1
      have q232 : x31_2 < (l1.length : Int) := oD M1
      obtain ⟨ad232, A232_2, c232_2, A232_5, c232_5, e232, hx232_0, hx232_1, hx232_2, hx232_3, hx232_4, hx232_5, hx232_6, hx232_7, hl232_2, hi232_2, hl232_5, hi232_5⟩ := at_T87 HR1.o x31_2 p232 q232
      cases e232
      replace hx232_0 := cB HB.o hx232_0
      replace hx232_1 := cB HB.o hx232_1
      replace hx232_2 := cB HB.o hx232_2
      replace hx232_3 := cB HB.o hx232_3
      replace hx232_4 := cB HB.o hx232_4
      replace hx232_5 := cB HB.o hx232_5
      replace hx232_6 := cB HB.o hx232_6
      replace hx232_7 := cB HB.o hx232_7
      have HR232_2 := zK hi232_2
      have HC232_2 := zK hl232_2
      clear hi232_2 hl232_2
      have HR232_5 := zK hi232_5
      have HC232_5 := zK hl232_5
      clear hi232_5 hl232_5
      replace p232 := eq_true p232
      replace q232 := eq_true q232
      go_wp2_with (first | ((with_reducible refine gate_dst (N := 11) rfl ?_); refine box_event ?hg (N := 11) ?hd (cs := #[.int .i64 0, .int .i64 0, .slice none 0 0, .int .i64 0, .int .i64 0, .slice none 0 0, .int .i64 0, .int .i64 0]) (t := 87) ?hr ?_; (case hd => rfl); (case hg => rfl); (case hr => first | (go_simp; done) | (go_simp; rfl)); intro gb233 hg w27 hbox hb; have _ := zK (Kd.R_below (Kd.qR HO_9.o) hb); have _ := zK (bT (qB HB.o) hb); have _ := zK (hbox); have _ := zK ((by rw [hg]; exact (bZ (qB HB.o)) : w.heap.size ≤ gb233)); have _ := zK ((by rw [hg]; exact (bZ (qB HB.o)) : w.heap.size ≤ gb233)); clear HO_9 HB; rename_i HO_9 HB BK233 GW233 GE233; clear hb hbox hg; obtain ⟨hcz28_0, hcz28_1, hcz28_2, hcz28_3, hcz28_4, hcz28_5, hcz28_6, hcz28_7, hfz28_0, hfz28_1, hfz28_2, hfz28_3, hfz28_4, hfz28_5, hfz28_6, hfz28_7⟩ := bx8 BK233.o; obtain ⟨Ao29, co29, eo29⟩ := Kd.R_slice HO_9.o; subst eo29) | ((with_reducible refine gate_callee (f := 119) rfl ?_); refine goesL_ (some 38) rfl rfl Try.func119 (by kernel_rfl) rfl #[.slice Ao29 x9_2.length co29, .agg #[.int .i64 ((rd_T87 l1 x31_2).f0), .int .i64 ((rd_T87 l1 x31_2).f1), .slice A232_2 ((rd_T87 l1 x31_2).f2).length c232_2, .int .i64 ((rd_T87 l1 x31_2).f3), .int .i64 ((rd_T87 l1 x31_2).f4), .slice A232_5 ((rd_T87 l1 x31_2).f5).length c232_5, .int .i64 ((rd_T87 l1 x31_2).f6.f0), .int .i64 ((rd_T87 l1 x31_2).f6.f1)], .slice A2 l2.length c2] rfl M0 ?_; (with_reducible refine (impl_toWrite.calls k2 _ _ x9_2 ((rd_T87 l1 x31_2).f0) ((rd_T87 l1 x31_2).f1) _ _ ((rd_T87 l1 x31_2).f2) ((rd_T87 l1 x31_2).f3) ((rd_T87 l1 x31_2).f4) _ _ ((rd_T87 l1 x31_2).f5) ((rd_T87 l1 x31_2).f6.f0) ((rd_T87 l1 x31_2).f6.f1) _ _ l2 t234 _ ?side1 ?side2 ?side3 ?side4 ?side5 ?side6 ?side7 ?side8 A25.o).mono ?_); (case side1 => refine (Kd.R_reads' (e := 81) (base := w.heap.size) (ok := fun k_ => True) (n := x9_2.length) (c := co29) ?_).2.2; exact M5); (case side2 => exact (Kd.R_reads' HO_9.o).2.1); (case side3 => exact Kd.C_below HR232_2.o M18); (case side4 => exact HC232_2.o); (case side5 => exact Kd.C_below HR232_5.o M18); (case side6 => exact HC232_5.o); (case side7 => exact Kd.C_below HR2.o M18); (case side8 => exact HC2.o); rintro e w30 ⟨rfl, hb⟩; refine ⟨_, rfl, ?_⟩; have _ := zK (Kd.R_below M5 hb); have _ := zK (bB (g := gb233) (o := .cells #[.int .i64 ((rd_T87 l1 x31_2).f0), .int .i64 ((rd_T87 l1 x31_2).f1), .slice A232_2 ((rd_T87 l1 x31_2).f2).length c232_2, .int .i64 ((rd_T87 l1 x31_2).f3), .int .i64 ((rd_T87 l1 x31_2).f4), .slice A232_5 ((rd_T87 l1 x31_2).f5).length c232_5, .int .i64 ((rd_T87 l1 x31_2).f6.f0), .int .i64 ((rd_T87 l1 x31_2).f6.f1)] 87 (0, 0)) (by (with_reducible repeat (first | refine kN ?_ _ | refine kD ?_ | refine kA ?_ _)); refine blk_put (cs := #[.int .i64 ((rd_T87 l1 x31_2).f0), .int .i64 ((rd_T87 l1 x31_2).f1), .slice A232_2 ((rd_T87 l1 x31_2).f2).length c232_2, .int .i64 ((rd_T87 l1 x31_2).f3), .int .i64 ((rd_T87 l1 x31_2).f4), .slice A232_5 ((rd_T87 l1 x31_2).f5).length c232_5, .int .i64 ((rd_T87 l1 x31_2).f6.f0), .int .i64 0]) ?_ 7 _ rfl; (with_reducible repeat (first | refine kN ?_ _ | refine kD ?_ | refine kA ?_ _)); refine blk_put (cs := #[.int .i64 ((rd_T87 l1 x31_2).f0), .int .i64 ((rd_T87 l1 x31_2).f1), .slice A232_2 ((rd_T87 l1 x31_2).f2).length c232_2, .int .i64 ((rd_T87 l1 x31_2).f3), .int .i64 ((rd_T87 l1 x31_2).f4), .slice A232_5 ((rd_T87 l1 x31_2).f5).length c232_5, .int .i64 0, .int .i64 0]) ?_ 6 _ rfl; (with_reducible repeat (first | refine kN ?_ _ | refine kD ?_ | refine kA ?_ _)); refine blk_put (cs := #[.int .i64 ((rd_T87 l1 x31_2).f0), .int .i64 ((rd_T87 l1 x31_2).f1), .slice A232_2 ((rd_T87 l1 x31_2).f2).length c232_2, .int .i64 ((rd_T87 l1 x31_2).f3), .int .i64 ((rd_T87 l1 x31_2).f4), .slice none 0 0, .int .i64 0, .int .i64 0]) ?_ 5 _ rfl; (with_reducible repeat (first | refine kN ?_ _ | refine kD ?_ | refine kA ?_ _)); refine blk_put (cs := #[.int .i64 ((rd_T87 l1 x31_2).f0), .int .i64 ((rd_T87 l1 x31_2).f1), .slice A232_2 ((rd_T87 l1 x31_2).f2).length c232_2, .int .i64 ((rd_T87 l1 x31_2).f3), .int .i64 0, .slice none 0 0, .int .i64 0, .int .i64 0]) ?_ 4 _ rfl; (with_reducible repeat (first | refine kN ?_ _ | refine kD ?_ | refine kA ?_ _)); refine blk_put (cs := #[.int .i64 ((rd_T87 l1 x31_2).f0), .int .i64 ((rd_T87 l1 x31_2).f1), .slice A232_2 ((rd_T87 l1 x31_2).f2).length c232_2, .int .i64 0, .int .i64 0, .slice none 0 0, .int .i64 0, .int .i64 0]) ?_ 3 _ rfl; (with_reducible repeat (first | refine kN ?_ _ | refine kD ?_ | refine kA ?_ _)); refine blk_put (cs := #[.int .i64 ((rd_T87 l1 x31_2).f0), .int .i64 ((rd_T87 l1 x31_2).f1), .slice none 0 0, .int .i64 0, .int .i64 0, .slice none 0 0, .int .i64 0, .int .i64 0]) ?_ 2 _ rfl; (with_reducible repeat (first | refine kN ?_ _ | refine kD ?_ | refine kA ?_ _)); refine blk_put (cs := #[.int .i64 ((rd_T87 l1 x31_2).f0), .int .i64 0, .slice none 0 0, .int .i64 0, .int .i64 0, .slice none 0 0, .int .i64 0, .int .i64 0]) ?_ 1 _ rfl; (with_reducible repeat (first | refine kN ?_ _ | refine kD ?_ | refine kA ?_ _)); refine blk_put (cs := #[.int .i64 0, .int .i64 0, .slice none 0 0, .int .i64 0, .int .i64 0, .slice none 0 0, .int .i64 0, .int .i64 0]) ?_ 0 _ rfl; exact qK BK233.o) hb); have _ := zK (bT M18 hb); clear HO_9 BK233 HB; rename_i HO_9 BK233 HB; (try clear hb); (try clear hb2); (try clear hk); (try clear hi)))
      go_roundg k2
      case measure => have := HJ4.o; have := HK2.o; omega
      case rel => exact ⟨(x9_2), (wrap64 (x31_2 + 1)), M3, H', ⟨by have := HJ4.o; have := HK2.o; omega⟩, ⟨by exact Kd.qR HO_9.o⟩, ⟨by exact qX HB.o⟩⟩
     rw [if_neg c26] at H
     have c26b0 : (t234 == 0) = false := beq_eq_false_iff_ne.mpr c26
     have c26b1 : (t234 != 0) = true := bne_iff_ne.mpr c26
     replace H := Option.bind_eq_some_iff.mp H
     obtain ⟨⟨t235, t236⟩, A310, H⟩ := H
     try dsimp only at H
     have A31 := zK A310
     clear A310
     have H' := zK H
     clear H
     have p232 : 0 ≤ (x31_2 : Int) := oD M1
     have q232 : x31_2 < (l1.length : Int) := oD M1
     obtain ⟨ad232, A232_2, c232_2, A232_5, c232_5, e232, hx232_0, hx232_1, hx232_2, hx232_3, hx232_4, hx232_5, hx232_6, hx232_7, hl232_2, hi232_2, hl232_5, hi232_5⟩ := at_T87 HR1.o x31_2 p232 q232
     cases e232
     replace hx232_0 := cB HB.o hx232_0
     replace hx232_1 := cB HB.o hx232_1
     replace hx232_2 := cB HB.o hx232_2
     replace hx232_3 := cB HB.o hx232_3
     replace hx232_4 := cB HB.o hx232_4
     replace hx232_5 := cB HB.o hx232_5
     replace hx232_6 := cB HB.o hx232_6
     replace hx232_7 := cB HB.o hx232_7
     have HR232_2 := zK hi232_2
     have HC232_2 := zK hl232_2
     clear hi232_2 hl232_2
     have HR232_5 := zK hi232_5
     have HC232_5 := zK hl232_5
     clear hi232_5 hl232_5
     replace p232 := eq_true p232
     replace q232 := eq_true q232
     go_wp2_with (first | ((with_reducible refine gate_dst (N := 11) rfl ?_); refine box_event ?hg (N := 11) ?hd (cs := #[.int .i64 0, .int .i64 0, .slice none 0 0, .int .i64 0, .int .i64 0, .slice none 0 0, .int .i64 0, .int .i64 0]) (t := 87) ?hr ?_; (case hd => rfl); (case hg => rfl); (case hr => first | (go_simp; done) | (go_simp; rfl)); intro gb233 hg w32 hbox hb; have _ := zK (Kd.R_below (Kd.qR HO_9.o) hb); have _ := zK (bT (qB HB.o) hb); have _ := zK (hbox); have _ := zK ((by rw [hg]; exact (bZ (qB HB.o)) : w.heap.size ≤ gb233)); have _ := zK ((by rw [hg]; exact (bZ (qB HB.o)) : w.heap.size ≤ gb233)); clear HO_9 HB; rename_i HO_9 HB BK233 GW233 GE233; clear hb hbox hg; obtain ⟨hcz33_0, hcz33_1, hcz33_2, hcz33_3, hcz33_4, hcz33_5, hcz33_6, hcz33_7, hfz33_0, hfz33_1, hfz33_2, hfz33_3, hfz33_4, hfz33_5, hfz33_6, hfz33_7⟩ := bx8 BK233.o; obtain ⟨Ao34, co34, eo34⟩ := Kd.R_slice HO_9.o; subst eo34) | ((with_reducible refine gate_callee (f := 119) rfl ?_); refine goesL_ (some 38) rfl rfl Try.func119 (by kernel_rfl) rfl #[.slice Ao34 x9_2.length co34, .agg #[.int .i64 ((rd_T87 l1 x31_2).f0), .int .i64 ((rd_T87 l1 x31_2).f1), .slice A232_2 ((rd_T87 l1 x31_2).f2).length c232_2, .int .i64 ((rd_T87 l1 x31_2).f3), .int .i64 ((rd_T87 l1 x31_2).f4), .slice A232_5 ((rd_T87 l1 x31_2).f5).length c232_5, .int .i64 ((rd_T87 l1 x31_2).f6.f0), .int .i64 ((rd_T87 l1 x31_2).f6.f1)], .slice A2 l2.length c2] rfl M0 ?_; (with_reducible refine (impl_toWrite.calls k2 _ _ x9_2 ((rd_T87 l1 x31_2).f0) ((rd_T87 l1 x31_2).f1) _ _ ((rd_T87 l1 x31_2).f2) ((rd_T87 l1 x31_2).f3) ((rd_T87 l1 x31_2).f4) _ _ ((rd_T87 l1 x31_2).f5) ((rd_T87 l1 x31_2).f6.f0) ((rd_T87 l1 x31_2).f6.f1) _ _ l2 t234 _ ?side1 ?side2 ?side3 ?side4 ?side5 ?side6 ?side7 ?side8 A25.o).mono ?_); (case side1 => refine (Kd.R_reads' (e := 81) (base := w.heap.size) (ok := fun k_ => True) (n := x9_2.length) (c := co34) ?_).2.2; exact M5); (case side2 => exact (Kd.R_reads' HO_9.o).2.1); (case side3 => exact Kd.C_below HR232_2.o M18); (case side4 => exact HC232_2.o); (case side5 => exact Kd.C_below HR232_5.o M18); (case side6 => exact HC232_5.o); (case side7 => exact Kd.C_below HR2.o M18); (case side8 => exact HC2.o); rintro e w35 ⟨rfl, hb⟩; refine ⟨_, rfl, ?_⟩; have _ := zK (Kd.R_below M5 hb); have _ := zK (bB (g := gb233) (o := .cells #[.int .i64 ((rd_T87 l1 x31_2).f0), .int .i64 ((rd_T87 l1 x31_2).f1), .slice A232_2 ((rd_T87 l1 x31_2).f2).length c232_2, .int .i64 ((rd_T87 l1 x31_2).f3), .int .i64 ((rd_T87 l1 x31_2).f4), .slice A232_5 ((rd_T87 l1 x31_2).f5).length c232_5, .int .i64 ((rd_T87 l1 x31_2).f6.f0), .int .i64 ((rd_T87 l1 x31_2).f6.f1)] 87 (0, 0)) (by (with_reducible repeat (first | refine kN ?_ _ | refine kD ?_ | refine kA ?_ _)); refine blk_put (cs := #[.int .i64 ((rd_T87 l1 x31_2).f0), .int .i64 ((rd_T87 l1 x31_2).f1), .slice A232_2 ((rd_T87 l1 x31_2).f2).length c232_2, .int .i64 ((rd_T87 l1 x31_2).f3), .int .i64 ((rd_T87 l1 x31_2).f4), .slice A232_5 ((rd_T87 l1 x31_2).f5).length c232_5, .int .i64 ((rd_T87 l1 x31_2).f6.f0), .int .i64 0]) ?_ 7 _ rfl; (with_reducible repeat (first | refine kN ?_ _ | refine kD ?_ | refine kA ?_ _)); refine blk_put (cs := #[.int .i64 ((rd_T87 l1 x31_2).f0), .int .i64 ((rd_T87 l1 x31_2).f1), .slice A232_2 ((rd_T87 l1 x31_2).f2).length c232_2, .int .i64 ((rd_T87 l1 x31_2).f3), .int .i64 ((rd_T87 l1 x31_2).f4), .slice A232_5 ((rd_T87 l1 x31_2).f5).length c232_5, .int .i64 0, .int .i64 0]) ?_ 6 _ rfl; (with_reducible repeat (first | refine kN ?_ _ | refine kD ?_ | refine kA ?_ _)); refine blk_put (cs := #[.int .i64 ((rd_T87 l1 x31_2).f0), .int .i64 ((rd_T87 l1 x31_2).f1), .slice A232_2 ((rd_T87 l1 x31_2).f2).length c232_2, .int .i64 ((rd_T87 l1 x31_2).f3), .int .i64 ((rd_T87 l1 x31_2).f4), .slice none 0 0, .int .i64 0, .int .i64 0]) ?_ 5 _ rfl; (with_reducible repeat (first | refine kN ?_ _ | refine kD ?_ | refine kA ?_ _)); refine blk_put (cs := #[.int .i64 ((rd_T87 l1 x31_2).f0), .int .i64 ((rd_T87 l1 x31_2).f1), .slice A232_2 ((rd_T87 l1 x31_2).f2).length c232_2, .int .i64 ((rd_T87 l1 x31_2).f3), .int .i64 0, .slice none 0 0, .int .i64 0, .int .i64 0]) ?_ 4 _ rfl; (with_reducible repeat (first | refine kN ?_ _ | refine kD ?_ | refine kA ?_ _)); refine blk_put (cs := #[.int .i64 ((rd_T87 l1 x31_2).f0), .int .i64 ((rd_T87 l1 x31_2).f1), .slice A232_2 ((rd_T87 l1 x31_2).f2).length c232_2, .int .i64 0, .int .i64 0, .slice none 0 0, .int .i64 0, .int .i64 0]) ?_ 3 _ rfl; (with_reducible repeat (first | refine kN ?_ _ | refine kD ?_ | refine kA ?_ _)); refine blk_put (cs := #[.int .i64 ((rd_T87 l1 x31_2).f0), .int .i64 ((rd_T87 l1 x31_2).f1), .slice none 0 0, .int .i64 0, .int .i64 0, .slice none 0 0, .int .i64 0, .int .i64 0]) ?_ 2 _ rfl; (with_reducible repeat (first | refine kN ?_ _ | refine kD ?_ | refine kA ?_ _)); refine blk_put (cs := #[.int .i64 ((rd_T87 l1 x31_2).f0), .int .i64 0, .slice none 0 0, .int .i64 0, .int .i64 0, .slice none 0 0, .int .i64 0, .int .i64 0]) ?_ 1 _ rfl; (with_reducible repeat (first | refine kN ?_ _ | refine kD ?_ | refine kA ?_ _)); refine blk_put (cs := #[.int .i64 0, .int .i64 0, .slice none 0 0, .int .i64 0, .int .i64 0, .slice none 0 0, .int .i64 0, .int .i64 0]) ?_ 0 _ rfl; exact qK BK233.o) hb); have _ := zK (bT M18 hb); clear HO_9 BK233 HB; rename_i HO_9 BK233 HB; (try clear hb); (try clear hb2); (try clear hk); (try clear hi); obtain ⟨hcz36_0, hcz36_1, hcz36_2, hcz36_3, hcz36_4, hcz36_5, hcz36_6, hcz36_7, hfz36_0, hfz36_1, hfz36_2, hfz36_3, hfz36_4, hfz36_5, hfz36_6, hfz36_7⟩ := bx8 BK233.o) | ((with_reducible refine gate_callee (f := 59) rfl ?_); refine goesL_ (some 47) rfl rfl Try.func59 (by kernel_rfl) rfl #[.slice Ao34 x9_2.length co34, .int .i64 ((rd_T87 l1 x31_2).f0), .int .i64 t234, .int .i64 a3] rfl M0 ?_; (with_reducible refine (impl_WriteLetter.calls k2 _ _ x9_2 ((rd_T87 l1 x31_2).f0) t234 a3 t235 t236 _ ?side1 ?side2 A31.o).mono ?_); (case side1 => exact Kd.qC (Kd.R_reads' HO_9.o).2.2); (case side2 => exact (Kd.R_reads' HO_9.o).2.1); rintro e w37 ⟨v237, rfl, ho0, hb⟩; refine ⟨_, rfl, ?_⟩; have _ := zK (Kd.R_elder' (Kd.qR HO_9.o) (Kd.R_base ho0) hb); have _ := zK (Kd.R_lower (Kd.R_new' ho0 (Kd.R_lt (Kd.qR HO_9.o))) (bZ M18)); have _ := zK (bB (qK BK233.o) hb); have _ := zK (bT M18 hb); clear HO_9 BK233 HB; rename_i HO_9 HO238 BK233 HB; (try clear hb); (try clear hb2); (try clear hk); (try clear hi); (try clear ho0)))
     go_roundg k2
     case measure => have := HJ4.o; have := HK2.o; omega
     case rel => exact ⟨(t235), (wrap64 (x31_2 + 1)), M3, H', ⟨by have := HJ4.o; have := HK2.o; omega⟩, ⟨by (with_reducible repeat (first | apply Kd.RA | apply Kd.RN | apply Kd.RD)); exact Kd.R_mono HO238.o (fun _ hk => trivial)⟩, ⟨by exact qX HB.o⟩⟩
/-! ### laws_szLetterS: function 71 -/
def laws_szLetterS.f (l0 : List (S173)) (a1 : Int) : Option (Int) := if (wrap64 (a1 - (l0.length : Int))) < 0 then (some (-1)) else (some (wrap64 (a1 - (l0.length : Int))))
set_option maxHeartbeats 8000000 in
set_option maxRecDepth 100000 in
theorem laws_szLetterS.calls (A0 : Option Addr) (c0 : Nat) (l0 : List (S173)) (a1 : Int) (r : Int) (w : World) (hr0 : Kd.C k173 w A0 l0.length l0) (hc0 : l0.length ≤ c0) (h : laws_szLetterS.f l0 a1 = some r) :
  Calls Try.prog 71 #[.slice A0 l0.length c0, .int .i64 a1] w fun e w' => e = .returned (.int .i64 r) ∧ Drawn0 w w' := by
 have HR0 := zK hr0
 have HC0 := zK hc0
 clear hr0 hc0
 have H : (if (wrap64 (a1 - (l0.length : Int))) < 0 then (some (-1)) else (some (wrap64 (a1 - (l0.length : Int))))) = some r := h
 clear h
 by_cases c3 : (wrap64 (a1 - (l0.length : Int))) < 0
 ·rw [if_pos c3] at H
  have c3b0 : decide ((wrap64 (a1 - (l0.length : Int))) < 0) = true := decide_eq_true c3
  clear c3
  obtain rfl := Option.some.inj H
  go_enter Try.func71, Try.ntmps71
  go_wp2
  go_ret
  exact ⟨by first | rfl | (simp; done) | (simp [*]; done), by repeat (first | exact Drawn0.refl _ | apply Drawn0.step)⟩
 rw [if_neg c3] at H
 have c3b0 : decide ((wrap64 (a1 - (l0.length : Int))) < 0) = false := decide_eq_false c3
 clear c3
 obtain rfl := Option.some.inj H
 go_enter Try.func71, Try.ntmps71
 go_wp2
 go_ret
 exact ⟨by first | rfl | (simp; done) | (simp [*]; done), by repeat (first | exact Drawn0.refl _ | apply Drawn0.step)⟩
/-! ### laws_szIntS: function 174 -/
def laws_szIntS.f (l0 : List Int) (a1 : Int) : Option (Int) := if (wrap64 (a1 - (l0.length : Int))) < 0 then (some (-1)) else (some (wrap64 (a1 - (l0.length : Int))))
set_option maxHeartbeats 8000000 in
set_option maxRecDepth 100000 in
theorem laws_szIntS.calls (A0 : Option Addr) (c0 : Nat) (l0 : List Int) (a1 : Int) (r : Int) (w : World) (hr0 : Kd.C (Kd.int .i64) w A0 l0.length l0) (hc0 : l0.length ≤ c0) (h : laws_szIntS.f l0 a1 = some r) :
  Calls Try.prog 174 #[.slice A0 l0.length c0, .int .i64 a1] w fun e w' => e = .returned (.int .i64 r) ∧ Drawn0 w w' := by
 have HR0 := zK hr0
 have HC0 := zK hc0
 clear hr0 hc0
 have H : (if (wrap64 (a1 - (l0.length : Int))) < 0 then (some (-1)) else (some (wrap64 (a1 - (l0.length : Int))))) = some r := h
 clear h
 by_cases c3 : (wrap64 (a1 - (l0.length : Int))) < 0
 ·rw [if_pos c3] at H
  have c3b0 : decide ((wrap64 (a1 - (l0.length : Int))) < 0) = true := decide_eq_true c3
  clear c3
  obtain rfl := Option.some.inj H
  go_enter Try.func174, Try.ntmps174
  go_wp2
  go_ret
  exact ⟨by first | rfl | (simp; done) | (simp [*]; done), by repeat (first | exact Drawn0.refl _ | apply Drawn0.step)⟩
 rw [if_neg c3] at H
 have c3b0 : decide ((wrap64 (a1 - (l0.length : Int))) < 0) = false := decide_eq_false c3
 clear c3
 obtain rfl := Option.some.inj H
 go_enter Try.func174, Try.ntmps174
 go_wp2
 go_ret
 exact ⟨by first | rfl | (simp; done) | (simp [*]; done), by repeat (first | exact Drawn0.refl _ | apply Drawn0.step)⟩
/-! ### laws_szReport: function 128 -/
def laws_szReport.f (a0_0 : Int) (a0_1 : Int) (l0_2 : List Int) (a0_3 : Int) (a0_4 : Int) (l0_5 : List Int) (a0_6 : Int) (a0_7 : Int) (a1 : Int) : Option (Int) := (laws_szIntS.f l0_2 a1).bind fun t240 => (if t240 < 0 then (some (-1)) else ((laws_szIntS.f l0_5 t240).bind fun t241 => (if t241 < 0 then (some (-1)) else (some t241))))
set_option maxRecDepth 100000 in
theorem lf10_0 {p : Prop} (h : p := by
  go_enter Try.func128, Try.ntmps128
  go_wp2_with (first | ((with_reducible refine gate_dst (N := 2) rfl ?_); refine box_event ?hg (N := 2) ?hd (cs := #[.int .i64 a0_0, .int .i64 a0_1, .slice A0_2 l0_2.length c0_2, .int .i64 a0_3, .int .i64 a0_4, .slice A0_5 l0_5.length c0_5, .int .i64 a0_6, .int .i64 a0_7]) (t := 171) ?hr ?_; (case hd => rfl); (case hg => rfl); (case hr => first | (go_simp; done) | (go_simp; rfl)); intro gb239 hg wz0 hbox hb; have _ := zK (bT (qB HB.o) hb); have _ := zK (hbox); have _ := zK ((by rw [hg]; exact (bZ (qB HB.o)) : w.heap.size ≤ gb239)); have _ := zK ((by rw [hg]; exact (bZ (qB HB.o)) : w.heap.size ≤ gb239)); clear HB; rename_i HB BK239 GW239 GE239; clear hb hbox hg; obtain ⟨hczz0_0, hczz0_1, hczz0_2, hczz0_3, hczz0_4, hczz0_5, hczz0_6, hczz0_7, hfzz0_0, hfzz0_1, hfzz0_2, hfzz0_3, hfzz0_4, hfzz0_5, hfzz0_6, hfzz0_7⟩ := bx8 BK239.o) | ((with_reducible refine gate_callee (f := 174) rfl ?_); refine goesL_ (some 8) rfl rfl Try.func174 (by kernel_rfl) rfl #[.slice A0_2 l0_2.length c0_2, .int .i64 a1] rfl M0 ?_; (with_reducible refine (laws_szIntS.calls _ _ l0_2 a1 t240 _ ?side1 ?side2 A3.o).mono ?_); (case side1 => exact Kd.qC (Kd.C_below HR0_2.o HB.o)); (case side2 => exact HC0_2.o); rintro e w' ⟨rfl, ⟨nd, rfl⟩⟩; refine ⟨_, rfl, ?_⟩) | ((with_reducible refine gate_callee (f := 174) rfl ?_); refine goesL_ (some 14) rfl rfl Try.func174 (by kernel_rfl) rfl #[.slice A0_5 l0_5.length c0_5, .int .i64 t240] rfl M0 ?_; (with_reducible refine (laws_szIntS.calls _ _ l0_5 t240 t241 _ ?side1 ?side2 A7.o).mono ?_); (case side1 => repeat (first | exact (Kd.C_below HR0_5.o (qX HB.o)) | (with_reducible refine Kd.CA ?_ _) | (with_reducible refine Kd.CN ?_ _) | (with_reducible refine Kd.CD ?_))); (case side2 => exact HC0_5.o); rintro e w' ⟨rfl, ⟨nd, rfl⟩⟩; refine ⟨_, rfl, ?_⟩))
  go_ret
  exact ⟨by first | rfl | (simp [errW_none, errW_some] <;> rfl) | (simp [*, errW_none, errW_some] <;> rfl), by exact qX HB.o⟩) : p := h
set_option maxHeartbeats 8000000 in
set_option maxRecDepth 100000 in
theorem laws_szReport.calls (a0_0 : Int) (a0_1 : Int) (A0_2 : Option Addr) (c0_2 : Nat) (l0_2 : List Int) (a0_3 : Int) (a0_4 : Int) (A0_5 : Option Addr) (c0_5 : Nat) (l0_5 : List Int) (a0_6 : Int) (a0_7 : Int) (a1 : Int) (r : Int) (w : World) (hr0_2 : Kd.C (Kd.int .i64) w A0_2 l0_2.length l0_2) (hc0_2 : l0_2.length ≤ c0_2) (hr0_5 : Kd.C (Kd.int .i64) w A0_5 l0_5.length l0_5) (hc0_5 : l0_5.length ≤ c0_5) (h : laws_szReport.f a0_0 a0_1 l0_2 a0_3 a0_4 l0_5 a0_6 a0_7 a1 = some r) :
  Calls Try.prog 128 #[.agg #[.int .i64 a0_0, .int .i64 a0_1, .slice A0_2 l0_2.length c0_2, .int .i64 a0_3, .int .i64 a0_4, .slice A0_5 l0_5.length c0_5, .int .i64 a0_6, .int .i64 a0_7], .int .i64 a1] w fun e w' => e = .returned (.int .i64 r) ∧ Below w.heap.size w w' := by
 have hu171 := Try.underlying171
 have HR0_2 := zK hr0_2
 have HC0_2 := zK hc0_2
 clear hr0_2 hc0_2
 have HR0_5 := zK hr0_5
 have HC0_5 := zK hc0_5
 clear hr0_5 hc0_5
 have HB := zK (Below.refl w.heap.size w)
 have H : ((laws_szIntS.f l0_2 a1).bind fun t240 => (if t240 < 0 then (some (-1)) else ((laws_szIntS.f l0_5 t240).bind fun t241 => (if t241 < 0 then (some (-1)) else (some t241))))) = some r := h
 clear h
 replace H := Option.bind_eq_some_iff.mp H
 obtain ⟨t240, A30, H⟩ := H
 try dsimp only at H
 have A3 := zK A30
 clear A30
 by_cases c4 : t240 < 0
 ·rw [if_pos c4] at H
  have c4b0 : decide (t240 < 0) = true := decide_eq_true c4
  clear c4
  obtain rfl := Option.some.inj H
  exact lf10_0
 rw [if_neg c4] at H
 have c4b0 : decide (t240 < 0) = false := decide_eq_false c4
 clear c4
 replace H := Option.bind_eq_some_iff.mp H
 obtain ⟨t241, A70, H⟩ := H
 try dsimp only at H
 have A7 := zK A70
 clear A70
 by_cases c8 : t241 < 0
 ·rw [if_pos c8] at H
  have c8b0 : decide (t241 < 0) = true := decide_eq_true c8
  clear c8
  obtain rfl := Option.some.inj H
  exact lf10_0
 rw [if_neg c8] at H
 have c8b0 : decide (t241 < 0) = false := decide_eq_false c8
 clear c8
 obtain rfl := Option.some.inj H
 exact lf10_0
/-! ### laws_szReportS: function 72 -/
def laws_szReportS.l0 : Nat → List (S171) → Int → Int → Option (Int)
 | 0, _, _, _ => none
 | k + 1, x0, x1, x5 => if x5 < (x0.length : Int) then (if 0 ≤ x5 then ((laws_szReport.f ((rd_T171 x0 x5).f0) ((rd_T171 x0 x5).f1) ((rd_T171 x0 x5).f2) ((rd_T171 x0 x5).f3) ((rd_T171 x0 x5).f4) ((rd_T171 x0 x5).f5) ((rd_T171 x0 x5).f6.f0) ((rd_T171 x0 x5).f6.f1) x1).bind fun t243 => (if t243 < 0 then (some (-1)) else (laws_szReportS.l0 k x0 t243 (wrap64 (x5 + 1))))) else (none)) else (some x1)
def laws_szReportS.f (k : Nat) (l0 : List (S171)) (a1 : Int) : Option (Int) := if (wrap64 (a1 - (l0.length : Int))) < 0 then (some (-1)) else (laws_szReportS.l0 k l0 (wrap64 (a1 - (l0.length : Int))) 0)
set_option maxHeartbeats 8000000 in
set_option maxRecDepth 100000 in
theorem laws_szReportS.calls (k : Nat) (A0 : Option Addr) (c0 : Nat) (l0 : List (S171)) (a1 : Int) (r : Int) (w : World) (hr0 : Kd.C k171 w A0 l0.length l0) (hc0 : l0.length ≤ c0) (h : laws_szReportS.f k l0 a1 = some r) :
  Calls Try.prog 72 #[.slice A0 l0.length c0, .int .i64 a1] w fun e w' => e = .returned (.int .i64 r) ∧ Below w.heap.size w w' := by
 have hu171 := Try.underlying171
 have HR0 := zK hr0
 have HC0 := zK hc0
 clear hr0 hc0
 have HB := zK (Below.refl w.heap.size w)
 have H : (if (wrap64 (a1 - (l0.length : Int))) < 0 then (some (-1)) else (laws_szReportS.l0 k l0 (wrap64 (a1 - (l0.length : Int))) 0)) = some r := h
 clear h
 by_cases c3 : (wrap64 (a1 - (l0.length : Int))) < 0
 ·rw [if_pos c3] at H
  have c3b0 : decide ((wrap64 (a1 - (l0.length : Int))) < 0) = true := decide_eq_true c3
  clear c3
  obtain rfl := Option.some.inj H
  go_enter Try.func72, Try.ntmps72
  go_wp2
  go_ret
  exact ⟨by first | rfl | (simp [errW_none, errW_some] <;> rfl) | (simp [*, errW_none, errW_some] <;> rfl), by exact qB HB.o⟩
 rw [if_neg c3] at H
 have c3b0 : decide ((wrap64 (a1 - (l0.length : Int))) < 0) = false := decide_eq_false c3
 clear c3
 have H' := zK H
 clear H
 go_enter Try.func72, Try.ntmps72
 go_wp2
 go_loopg [1, 5] k (fun kq v1 v5 w' => ∃ (x1_1 : Int) (x5_1 : Int), v1 = .int .i64 x1_1 ∧ v5 = .int .i64 x5_1 ∧ Aside0 (laws_szReportS.l0 kq l0 x1_1 x5_1 = some r) ∧ Aside0 (kq ≤ k) ∧ Aside0 (Below w.heap.size w w'))
 case atStart => exact ⟨(wrap64 (a1 - (l0.length : Int))), (0), M3, M3, H', ⟨Nat.le_refl _⟩, ⟨by exact qB HB.o⟩⟩
 case round =>
  clear H'
  try clear p2
  try clear c3
  try clear c3b0
  obtain ⟨x1_1, x5_1, rfl, rfl, HA, HK1, HB⟩ := hrel
  cases gk with
  | zero => exact absurd HA.o (by simp [laws_szReportS.l0])
  | succ k1 =>
   have H := HA.o
   clear HA
   simp only [laws_szReportS.l0] at H
   by_cases c4 : x5_1 < (l0.length : Int)
   rotate_left
   ·rw [if_neg c4] at H
    have c4b0 : decide (x5_1 < (l0.length : Int)) = false := decide_eq_false c4
    clear c4
    obtain rfl := Option.some.inj H
    go_wp2
    go_ret
    exact ⟨by first | rfl | (simp [errW_none, errW_some] <;> rfl) | (simp [*, errW_none, errW_some] <;> rfl), by exact qB HB.o⟩
   rw [if_pos c4] at H
   have c4b0 : decide (x5_1 < (l0.length : Int)) = true := decide_eq_true c4
   clear c4
   by_cases c5 : 0 ≤ x5_1
   rotate_left
   ·rw [if_neg c5] at H
    exact absurd H (by simp)
   rw [if_pos c5] at H
   have c5b0 : decide (0 ≤ x5_1) = true := decide_eq_true c5
   clear c5
   replace H := Option.bind_eq_some_iff.mp H
   obtain ⟨t243, A60, H⟩ := H
   try dsimp only at H
   have A6 := zK A60
   clear A60
   by_cases c7 : t243 < 0
   ·rw [if_pos c7] at H
    have c7b0 : decide (t243 < 0) = true := decide_eq_true c7
    clear c7
    obtain rfl := Option.some.inj H
    have p242 : 0 ≤ (x5_1 : Int) := oD M1
    have q242 : x5_1 < (l0.length : Int) := oD M1
    obtain ⟨ad242, A242_2, c242_2, A242_5, c242_5, e242, hx242_0, hx242_1, hx242_2, hx242_3, hx242_4, hx242_5, hx242_6, hx242_7, hl242_2, hi242_2, hl242_5, hi242_5⟩ := at_T171 HR0.o x5_1 p242 q242
    cases e242
    replace hx242_0 := cB HB.o hx242_0
    replace hx242_1 := cB HB.o hx242_1
    replace hx242_2 := cB HB.o hx242_2
    replace hx242_3 := cB HB.o hx242_3
    replace hx242_4 := cB HB.o hx242_4
    replace hx242_5 := cB HB.o hx242_5
    replace hx242_6 := cB HB.o hx242_6
    replace hx242_7 := cB HB.o hx242_7
    have HR242_2 := zK hi242_2
    have HC242_2 := zK hl242_2
    clear hi242_2 hl242_2
    have HR242_5 := zK hi242_5
    have HC242_5 := zK hl242_5
    clear hi242_5 hl242_5
    replace p242 := eq_true p242
    replace q242 := eq_true q242
    go_wp2_with (first | ((with_reducible refine gate_callee (f := 128) rfl ?_); refine goesL_ (some 23) rfl rfl Try.func128 (by kernel_rfl) rfl #[.agg #[.int .i64 ((rd_T171 l0 x5_1).f0), .int .i64 ((rd_T171 l0 x5_1).f1), .slice A242_2 ((rd_T171 l0 x5_1).f2).length c242_2, .int .i64 ((rd_T171 l0 x5_1).f3), .int .i64 ((rd_T171 l0 x5_1).f4), .slice A242_5 ((rd_T171 l0 x5_1).f5).length c242_5, .int .i64 ((rd_T171 l0 x5_1).f6.f0), .int .i64 ((rd_T171 l0 x5_1).f6.f1)], .int .i64 x1_1] rfl M0 ?_; (with_reducible refine (laws_szReport.calls ((rd_T171 l0 x5_1).f0) ((rd_T171 l0 x5_1).f1) _ _ ((rd_T171 l0 x5_1).f2) ((rd_T171 l0 x5_1).f3) ((rd_T171 l0 x5_1).f4) _ _ ((rd_T171 l0 x5_1).f5) ((rd_T171 l0 x5_1).f6.f0) ((rd_T171 l0 x5_1).f6.f1) x1_1 t243 _ ?side1 ?side2 ?side3 ?side4 A6.o).mono ?_); (case side1 => exact Kd.qC (Kd.C_below HR242_2.o HB.o)); (case side2 => exact HC242_2.o); (case side3 => exact Kd.qC (Kd.C_below HR242_5.o HB.o)); (case side4 => exact HC242_5.o); rintro e w8 ⟨rfl, hb⟩; refine ⟨_, rfl, ?_⟩; have _ := zK (bT (qB HB.o) hb); clear HB; rename_i HB; (try clear hb); (try clear hb2); (try clear hk); (try clear hi)))
    go_ret
    exact ⟨by first | rfl | (simp [errW_none, errW_some] <;> rfl) | (simp [*, errW_none, errW_some] <;> rfl), by exact qB HB.o⟩
   rw [if_neg c7] at H
   have c7b0 : decide (t243 < 0) = false := decide_eq_false c7
   clear c7
   have H' := zK H
   clear H
   have p242 : 0 ≤ (x5_1 : Int) := oD M1
   have q242 : x5_1 < (l0.length : Int) := oD M1
   obtain ⟨ad242, A242_2, c242_2, A242_5, c242_5, e242, hx242_0, hx242_1, hx242_2, hx242_3, hx242_4, hx242_5, hx242_6, hx242_7, hl242_2, hi242_2, hl242_5, hi242_5⟩ := at_T171 HR0.o x5_1 p242 q242
   cases e242
   replace hx242_0 := cB HB.o hx242_0
   replace hx242_1 := cB HB.o hx242_1
   replace hx242_2 := cB HB.o hx242_2
   replace hx242_3 := cB HB.o hx242_3
   replace hx242_4 := cB HB.o hx242_4
   replace hx242_5 := cB HB.o hx242_5
   replace hx242_6 := cB HB.o hx242_6
   replace hx242_7 := cB HB.o hx242_7
   have HR242_2 := zK hi242_2
   have HC242_2 := zK hl242_2
   clear hi242_2 hl242_2
   have HR242_5 := zK hi242_5
   have HC242_5 := zK hl242_5
   clear hi242_5 hl242_5
   replace p242 := eq_true p242
   replace q242 := eq_true q242
   go_wp2_with (first | ((with_reducible refine gate_callee (f := 128) rfl ?_); refine goesL_ (some 23) rfl rfl Try.func128 (by kernel_rfl) rfl #[.agg #[.int .i64 ((rd_T171 l0 x5_1).f0), .int .i64 ((rd_T171 l0 x5_1).f1), .slice A242_2 ((rd_T171 l0 x5_1).f2).length c242_2, .int .i64 ((rd_T171 l0 x5_1).f3), .int .i64 ((rd_T171 l0 x5_1).f4), .slice A242_5 ((rd_T171 l0 x5_1).f5).length c242_5, .int .i64 ((rd_T171 l0 x5_1).f6.f0), .int .i64 ((rd_T171 l0 x5_1).f6.f1)], .int .i64 x1_1] rfl M0 ?_; (with_reducible refine (laws_szReport.calls ((rd_T171 l0 x5_1).f0) ((rd_T171 l0 x5_1).f1) _ _ ((rd_T171 l0 x5_1).f2) ((rd_T171 l0 x5_1).f3) ((rd_T171 l0 x5_1).f4) _ _ ((rd_T171 l0 x5_1).f5) ((rd_T171 l0 x5_1).f6.f0) ((rd_T171 l0 x5_1).f6.f1) x1_1 t243 _ ?side1 ?side2 ?side3 ?side4 A6.o).mono ?_); (case side1 => exact Kd.qC (Kd.C_below HR242_2.o HB.o)); (case side2 => exact HC242_2.o); (case side3 => exact Kd.qC (Kd.C_below HR242_5.o HB.o)); (case side4 => exact HC242_5.o); rintro e w9 ⟨rfl, hb⟩; refine ⟨_, rfl, ?_⟩; have _ := zK (bT (qB HB.o) hb); clear HB; rename_i HB; (try clear hb); (try clear hb2); (try clear hk); (try clear hi)))
   go_roundg k1
   case measure => have := HK1.o; omega
   case rel => exact ⟨(t243), (wrap64 (x5_1 + 1)), M3, M3, H', ⟨by have := HK1.o; omega⟩, ⟨by exact qB HB.o⟩⟩
/-! ### spec_l1In: function 95 -/
def spec_l1In.f (a0 : Int) (a1 : Int) (a2 : Int) : Option (Bool) := if a0 ≥ a1 then (some (decide (a0 ≤ a2))) else (some false)
set_option maxHeartbeats 8000000 in
set_option maxRecDepth 100000 in
theorem spec_l1In.calls (a0 : Int) (a1 : Int) (a2 : Int) (r : Bool) (w : World) (h : spec_l1In.f a0 a1 a2 = some r) :
  Calls Try.prog 95 #[.int .i64 a0, .int .i64 a1, .int .i64 a2] w fun e w' => e = .returned (.bool r) ∧ Drawn0 w w' := by
 have H : (if a0 ≥ a1 then (some (decide (a0 ≤ a2))) else (some false)) = some r := h
 clear h
 by_cases c4 : a0 ≥ a1
 ·rw [if_pos c4] at H
  have c4b0 : decide (a1 ≤ a0) = true := decide_eq_true c4
  clear c4
  obtain rfl := Option.some.inj H
  go_enter Try.func95, Try.ntmps95
  go_wp2
  go_ret
  exact ⟨by first | rfl | (simp; done) | (simp [*]; done), by repeat (first | exact Drawn0.refl _ | apply Drawn0.step)⟩
 rw [if_neg c4] at H
 have c4b0 : decide (a1 ≤ a0) = false := decide_eq_false c4
 clear c4
 obtain rfl := Option.some.inj H
 go_enter Try.func95, Try.ntmps95
 go_wp2
 go_ret
 exact ⟨by first | rfl | (simp; done) | (simp [*]; done), by repeat (first | exact Drawn0.refl _ | apply Drawn0.step)⟩

end Go.Proofs.Ytpkdbkheggfkkaa.PFnExactLettersFor
