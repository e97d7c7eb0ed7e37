/- Walks of functions that FnExactTighten reaches: written by a tool of the kit for this claim, then shortened by a program of ours. -/
import Derived.Test.YtejhjenlodclpaaPFnExactTightenx0
import Derived.Test.YtejhjenlodclpaaPFnExactTightenx2
/- narrow -/
namespace Go.Proofs.Ytejhjenlodclpaa.PFnExactTighten
open Go.RowKit Go.Proofs.YtejhjenlodclpaaW.PrintWords Go.Proofs.YtejhjenlodclpaaW.PrintLast Go.Proofs.YtejhjenlodclpaaW.PrintMore
attribute [local go_sem] max2_int min2_int max_two min_two max_three min_three max_four min_four   -- for this text's walks alone
set_option linter.unusedVariables false
set_option linter.unusedSimpArgs false

/-! ### spec_SlotOf: function 156 -/
def spec_SlotOf.l0 : Nat → List (S154) → Int → Int → Option (Int)
 | 0, _, _, _ => none
 | k + 1, x0, x1, x5 => if x5 < (x0.length : Int) then (if x1 = 0 then (spec_SlotOf.l0 k x0 x1 (wrap64 (x5 + 1))) else (if 0 ≤ x5 then (if ((rd_T154 x0 x5).f2) = x1 then (some ((rd_T154 x0 x5).f0)) else (spec_SlotOf.l0 k x0 x1 (wrap64 (x5 + 1)))) else (none))) else (some 0)
def spec_SlotOf.f (k : Nat) (l0 : List (S154)) (a1 : Int) : Option (Int) := spec_SlotOf.l0 k l0 a1 0
set_option maxHeartbeats 8000000 in
set_option maxRecDepth 100000 in
theorem spec_SlotOf.calls (k : Nat) (A0 : Option Addr) (c0 : Nat) (l0 : List (S154)) (a1 : Int) (r : Int) (w : World) (hr0 : Kd.C k154 w A0 l0.length l0) (hc0 : l0.length ≤ c0) (h : spec_SlotOf.f k l0 a1 = some r) :
  Calls Try.prog 156 #[.slice A0 l0.length c0, .int .i64 a1] w fun e w' => e = .returned (.int .i64 r) ∧ Drawn0 w w' := by
 have HR0 := zK hr0
 have HC0 := zK hc0
 clear hr0 hc0
 have H : (spec_SlotOf.l0 k l0 a1 0) = some r := h
 clear h
 have H' := zK H
 clear H
 go_enter Try.func156, Try.ntmps156
 go_wp2
 go_loopg [5] k (fun kq v5 w' => ∃ (x5_1 : Int), v5 = .int .i64 x5_1 ∧ Aside0 (spec_SlotOf.l0 kq l0 a1 x5_1 = some r) ∧ Aside0 (kq ≤ k) ∧ Drawn0 w w')
 case atStart => exact ⟨(0), (by first | rfl | (simp; done) | (simp [*]; done)), H', ⟨Nat.le_refl _⟩, by repeat (first | exact Drawn0.refl _ | apply Drawn0.step)⟩
 case round =>
  clear H'
  try clear c1
  try clear p2
  obtain ⟨x5_1, rfl, HA, HK1, ⟨m1, rfl⟩⟩ := hrel
  cases gk with
  | zero => exact absurd HA.out (by simp [spec_SlotOf.l0])
  | succ k1 =>
   have H := HA.out
   clear HA
   simp only [spec_SlotOf.l0] at H
   by_cases c3 : x5_1 < (l0.length : Int)
   rotate_left
   ·rw [if_neg c3] at H
    have c3b0 : decide (x5_1 < (l0.length : Int)) = false := decide_eq_false c3
    clear c3
    obtain rfl := Option.some.inj H
    go_wp2
    go_ret
    exact ⟨by first | rfl | (simp; done) | (simp [*]; done), by repeat (first | exact Drawn0.refl _ | apply Drawn0.step)⟩
   rw [if_pos c3] at H
   have c3b0 : decide (x5_1 < (l0.length : Int)) = true := decide_eq_true c3
   clear c3
   by_cases c4 : a1 = 0
   ·rw [if_pos c4] at H
    have c4b0 : (a1 == 0) = true := beq_iff_eq.mpr c4
    have c4b1 : (a1 != 0) = false := bne_eq_false_iff_eq.mpr c4
    clear c4
    have H' := zK H
    clear H
    go_wp2
    go_roundg k1
    case measure => have := HK1.out; omega
    case rel => exact ⟨(wrap64 (x5_1 + 1)), (by first | rfl | (simp; done) | (simp [*]; done)), H', ⟨by have := HK1.out; omega⟩, by repeat (first | exact Drawn0.refl _ | apply Drawn0.step)⟩
   rw [if_neg c4] at H
   have c4b0 : (a1 == 0) = false := beq_eq_false_iff_ne.mpr c4
   have c4b1 : (a1 != 0) = true := bne_iff_ne.mpr c4
   by_cases c5 : 0 ≤ x5_1
   rotate_left
   ·rw [if_neg c5] at H
    exact absurd H (by simp)
   rw [if_pos c5] at H
   have c5b0 : decide (0 ≤ x5_1) = true := decide_eq_true c5
   clear c5
   by_cases c6 : ((rd_T154 l0 x5_1).f2) = a1
   rotate_left
   ·rw [if_neg c6] at H
    have c6b0 : (((rd_T154 l0 x5_1).f2) == a1) = false := beq_eq_false_iff_ne.mpr c6
    have c6b1 : (((rd_T154 l0 x5_1).f2) != a1) = true := bne_iff_ne.mpr c6
    have H' := zK H
    clear H
    have p122 : 0 ≤ (x5_1 : Int) := oD (by first | (with_reducible assumption) | assumption)
    have q122 : x5_1 < (l0.length : Int) := oD (by first | (with_reducible assumption) | assumption)
    obtain ⟨ad122, e122, hx122_0, hx122_1, hx122_2⟩ := at_T154 HR0.out x5_1 p122 q122
    cases e122
    replace p122 := eq_true p122
    replace q122 := eq_true q122
    go_wp2
    go_roundg k1
    case measure => have := HK1.out; omega
    case rel => exact ⟨(wrap64 (x5_1 + 1)), (by first | rfl | (simp; done) | (simp [*]; done)), H', ⟨by have := HK1.out; omega⟩, by repeat (first | exact Drawn0.refl _ | apply Drawn0.step)⟩
   rw [if_pos c6] at H
   have c6b0 : (((rd_T154 l0 x5_1).f2) == a1) = true := beq_iff_eq.mpr c6
   have c6b1 : (((rd_T154 l0 x5_1).f2) != a1) = false := bne_eq_false_iff_eq.mpr c6
   clear c6
   obtain rfl := Option.some.inj H
   have p122 : 0 ≤ (x5_1 : Int) := oD (by first | (with_reducible assumption) | assumption)
   have q122 : x5_1 < (l0.length : Int) := oD (by first | (with_reducible assumption) | assumption)
   obtain ⟨ad122, e122, hx122_0, hx122_1, hx122_2⟩ := at_T154 HR0.out x5_1 p122 q122
   cases e122
   replace p122 := eq_true p122
   replace q122 := eq_true q122
   have p123 : 0 ≤ (x5_1 : Int) := oD (by first | (with_reducible assumption) | assumption)
   have q123 : x5_1 < (l0.length : Int) := oD (by first | (with_reducible assumption) | assumption)
   obtain ⟨ad123, e123, hx123_0, hx123_1, hx123_2⟩ := at_T154 HR0.out x5_1 p123 q123
   obtain rfl : ad122 = ad123 := (by injection e123)
   replace p123 := eq_true p123
   replace q123 := eq_true q123
   go_wp2
   go_ret
   exact ⟨by first | rfl | (simp; done) | (simp [*]; done), by repeat (first | exact Drawn0.refl _ | apply Drawn0.step)⟩
/-! ### spec_TakeOut: function 116 -/
mutual
def spec_TakeOut.j0 : Nat → List (S154) → Int → Bool → Option ((List (S154)) × Bool)
 | 0, _, _, _ => none
 | k + 1, x6, x7, x21 => if x21 = true then (some (x6, false)) else (spec_TakeOut.l0 k x6 x7 0)
def spec_TakeOut.l0 : Nat → List (S154) → Int → Int → Option ((List (S154)) × Bool)
 | 0, _, _, _ => none
 | k + 1, x6, x7, x8 => if x8 < (x6.length : Int) then (if 0 ≤ x8 then (if ((rd_T154 x6 x8).f0) = x7 then (spec_TakeOut.l0 k (x6.set (x8 : Int).toNat (⟨(rd_T154 x6 x8).f0, (rd_T154 x6 x8).f1, 0⟩ : S154)) x7 (wrap64 (x8 + 1))) else (spec_TakeOut.l0 k x6 x7 (wrap64 (x8 + 1)))) else (none)) else (some (x6, true))
end
def spec_TakeOut.f (k : Nat) (l0 : List (S154)) (a1 : Int) : Option ((List (S154)) × Bool) := (some (([] : List (S154)) : List (S154))).bind fun y124 => (if y124.length + l0.length < 5864062014805 then ((some (y124 ++ l0 : List (S154))).bind fun y127 => ((spec_SlotOf.f k l0 a1).bind fun t130 => ((spec_AreSlots.f k l0).bind fun t131 => (if t131 = true then (spec_TakeOut.j0 k y127 t130 (t130 == 0)) else (spec_TakeOut.j0 k y127 t130 true))))) else (none))
set_option maxHeartbeats 8000000 in
set_option maxRecDepth 100000 in
theorem spec_TakeOut.calls (k : Nat) (A0 : Option Addr) (c0 : Nat) (l0 : List (S154)) (a1 : Int) (r1 : List (S154)) (r2 : Bool) (w : World) (hr0 : Kd.C k154 w A0 l0.length l0) (hc0 : l0.length ≤ c0) (h : spec_TakeOut.f k l0 a1 = some (r1, r2)) :
  Calls Try.prog 116 #[.slice A0 l0.length c0, .int .i64 a1] w fun e w' => ∃ v0_ : Value, e = .returned (.tuple #[v0_, .bool r2]) ∧ Kd.R k154 154 w' w.heap.size (fun _ => True) v0_ r1 ∧ Below w.heap.size w w' := by
 have HR0 := zK hr0
 have HC0 := zK hc0
 clear hr0 hc0
 have HB := zK (Below.refl w.heap.size w)
 have H : ((some (([] : List (S154)) : List (S154))).bind fun y124 => (if y124.length + l0.length < 5864062014805 then ((some (y124 ++ l0 : List (S154))).bind fun y127 => ((spec_SlotOf.f k l0 a1).bind fun t130 => ((spec_AreSlots.f k l0).bind fun t131 => (if t131 = true then (spec_TakeOut.j0 k y127 t130 (t130 == 0)) else (spec_TakeOut.j0 k y127 t130 true))))) else (none))) = some (r1, r2) := h
 clear h
 obtain ⟨y124, hy124⟩ : ∃ y_ : List (S154), y_ = (([] : List (S154))) := ⟨_, rfl⟩
 replace H : (if y124.length + l0.length < 5864062014805 then ((some (y124 ++ l0 : List (S154))).bind fun y127 => ((spec_SlotOf.f k l0 a1).bind fun t130 => ((spec_AreSlots.f k l0).bind fun t131 => (if t131 = true then (spec_TakeOut.j0 k y127 t130 (t130 == 0)) else (spec_TakeOut.j0 k y127 t130 true))))) else (none)) = some (r1, r2) := by first | (rw [hy124]; with_reducible exact H) | (have H2_ := (Option.bind_some _ _).symm.trans H; rw [hy124]; with_reducible exact H2_) | (have H2_ := (Option.bind_some _ _).symm.trans H; with_reducible exact H2_) | with_reducible exact H | (rw [hy124]; exact H) | exact H
 have Ny124 := zK hy124
 clear hy124
 by_cases c3 : y124.length + l0.length < 5864062014805
 rotate_left
 ·rw [if_neg c3] at H
  exact absurd H (by simp)

 rw [if_pos c3] at H
 have LMc3 := zK c3
 clear c3
 obtain ⟨y127, hy127⟩ : ∃ y_ : List (S154), y_ = (y124 ++ l0) := ⟨_, rfl⟩
 replace H : ((spec_SlotOf.f k l0 a1).bind fun t130 => ((spec_AreSlots.f k l0).bind fun t131 => (if t131 = true then (spec_TakeOut.j0 k y127 t130 (t130 == 0)) else (spec_TakeOut.j0 k y127 t130 true)))) = some (r1, r2) := by first | (rw [hy127]; with_reducible exact H) | (have H2_ := (Option.bind_some _ _).symm.trans H; rw [hy127]; with_reducible exact H2_) | (have H2_ := (Option.bind_some _ _).symm.trans H; with_reducible exact H2_) | with_reducible exact H | (rw [hy127]; exact H) | exact H
 have Ny127 := zK hy127
 clear hy127
 replace H := Option.bind_eq_some_iff.mp H
 obtain ⟨t130, A40, H⟩ := H
 replace H : ((spec_AreSlots.f k l0).bind fun t131 => (if t131 = true then (spec_TakeOut.j0 k y127 t130 (t130 == 0)) else (spec_TakeOut.j0 k y127 t130 true))) = some (r1, r2) := H
 have A4 := zK A40
 clear A40
 have HC5 := zK H
 clear H
 go_enter Try.func116, Try.ntmps116
 go_upto_region 3 with (first | ((with_reducible refine gate_dst (N := 9) rfl ?_); refine Kd.R_lit k154 _ 154 ?hg (N := 9) ?hd (xs := ([] : List (S154))) (inner := []) (ok := fun _ => True) (okp := fun _ => True) ?hr ?hp (fun _ hk => hk) trivial (Below.refl _ _) (Nat.le_refl _) (by simp) ?_; (case hd => rfl); (case hg => rfl); (case hr => first | (go_simp; done) | (go_simp; rfl)); (case hp => exact (Reps.none _ _)); intro v125 w6 ho7 hb hg_ hnew_; clear hg_ hnew_; (first | rw [← Ny124.out] at ho7 | (simp only [Int.reduceToNat] at ho7; rw [← Ny124.out] at ho7)); have n0_ := zK (Kd.R_lower ho7 (bZ (qB HB.out))); have n1_ := zK (bT (qB HB.out) hb); clear HB; have HO126 := n0_; have HB := n1_; clear n0_ n1_; clear hb ho7) | ((with_reducible refine gate_builtin (b := .append) (xs := #[.tmp 9, .tmp 10]) rfl ?_); at_builtin; refine Kd.R_append_rows k154 (w0 := w) w.heap.size rfl (.tmp 9) (.tmp 10) 94 154 (.agg #[(.int .i64 0), (.int .i64 0), (.int .i64 0)]) 24 rfl Try.underlying94 info154 rfl (by decide) (by omega) v125 y124 l0 _ _ _ (fun _ => True) (fun _ => False) rfl rfl ?aO ?aR (fun _ _ h => h) (fun _ h => h.elim) ?aF ?aB ?aS ?aL ?_; (case aR => exact Kd.qC (Kd.C_below HR0.out HB.out)); (case aB => exact (qB HB.out)); (case aF => exact (fun _ _ => trivial)); (case aO => exact (Kd.qR HO126.out)); (case aS => exact (bZ (qB HB.out))); (case aL => have := LMc3.out; omega); intro v128 w8 ho hb hg hat; rw [← Ny127.out] at ho; have n0_ := zK (hb); have n1_ := zK (ho); clear HB; clear HO126; have HB := n0_; have HO129 := n1_; clear n0_ n1_; clear ho hb hg hat) | ((with_reducible refine gate_callee (f := 156) rfl ?_); refine goesL_ (some 14) rfl rfl Try.func156 (by kernel_rfl) rfl #[.slice A0 l0.length c0, .int .i64 a1] rfl (by (try simp only [List.map_toArray, List.map_cons, List.map_nil]); first | done | rfl | (simp only [List.length_drop, List.length_take]; rfl)) ?_; (with_reducible refine (spec_SlotOf.calls k _ _ l0 a1 t130 _ ?side1 ?side2 A4.out).mono ?_); (case side1 => exact Kd.qC (Kd.C_below HR0.out HB.out)); (case side2 => exact HC0.out); rintro e w' ⟨rfl, ⟨nd, rfl⟩⟩; refine ⟨_, rfl, ?_⟩))
 (try simp only [Act.put, sA, sZ, sS])
 go_cut [21] (fun v21 wc => ∃ (kq : Nat) (x21_4 : Bool), v21 = .bool x21_4 ∧ Aside0 (spec_TakeOut.j0 kq y127 t130 x21_4 = some (r1, r2)) ∧ Aside0 (kq ≤ k) ∧ Aside0 (Kd.R k154 154 wc w.heap.size (fun _ => True) v128 y127) ∧ Aside0 (Below w.heap.size w wc))
 case first =>
  have H := HC5.out
  clear HC5
  replace H := Option.bind_eq_some_iff.mp H
  obtain ⟨t131, A90, H⟩ := H
  replace H : (if t131 = true then (spec_TakeOut.j0 k y127 t130 (t130 == 0)) else (spec_TakeOut.j0 k y127 t130 true)) = some (r1, r2) := H
  have A9 := zK A90
  clear A90
  by_cases c10 : t131 = true
  ·subst c10
   have H1 : (spec_TakeOut.j0 k y127 t130 (t130 == 0)) = some (r1, r2) := by rw [if_pos rfl] at H; exact H
   clear H
   have H := H1
   clear H1
   have H' := zK H
   clear H
   go_wp2_with (first | ((with_reducible refine gate_callee (f := 114) rfl ?_); refine goesL_ (some 16) rfl rfl Try.func114 (by kernel_rfl) rfl #[.slice A0 l0.length c0] rfl (by (try simp only [List.map_toArray, List.map_cons, List.map_nil]); first | done | rfl | (simp only [List.length_drop, List.length_take]; rfl)) ?_; (with_reducible refine (spec_AreSlots.calls k _ _ l0 true _ ?side1 ?side2 A9.out).mono ?_); (case side1 => exact Kd.qC (Kd.C_below HR0.out HB.out)); (case side2 => exact HC0.out); rintro e w11 ⟨rfl, hb⟩; refine ⟨_, rfl, ?_⟩; have n0_ := zK (Kd.R_below (Kd.qR HO129.out) hb); have n1_ := zK (bT (qB HB.out) hb); clear HO129; clear HB; have HO129 := n0_; have HB := n1_; clear n0_ n1_; (try clear hb); (try clear hb2); (try clear hk); (try clear hi)))
   go_meet
   case rel => exact ⟨_, ((t130 == 0)), (by first | rfl | (simp; done) | (simp [*]; done)), H', ⟨by first | omega | exact Nat.le_refl _⟩, ⟨by exact Kd.qR HO129.out⟩, ⟨by exact qB HB.out⟩⟩
  replace c10 := Bool.eq_false_iff.mpr c10
  subst c10
  have H1 : (spec_TakeOut.j0 k y127 t130 true) = some (r1, r2) := by rw [if_neg (show ¬ (false = true) by decide)] at H; exact H
  clear H
  have H := H1
  clear H1
  have H' := zK H
  clear H
  go_wp2_with (first | ((with_reducible refine gate_callee (f := 114) rfl ?_); refine goesL_ (some 16) rfl rfl Try.func114 (by kernel_rfl) rfl #[.slice A0 l0.length c0] rfl (by (try simp only [List.map_toArray, List.map_cons, List.map_nil]); first | done | rfl | (simp only [List.length_drop, List.length_take]; rfl)) ?_; (with_reducible refine (spec_AreSlots.calls k _ _ l0 false _ ?side1 ?side2 A9.out).mono ?_); (case side1 => exact Kd.qC (Kd.C_below HR0.out HB.out)); (case side2 => exact HC0.out); rintro e w12 ⟨rfl, hb⟩; refine ⟨_, rfl, ?_⟩; have n0_ := zK (Kd.R_below (Kd.qR HO129.out) hb); have n1_ := zK (bT (qB HB.out) hb); clear HO129; clear HB; have HO129 := n0_; have HB := n1_; clear n0_ n1_; (try clear hb); (try clear hb2); (try clear hk); (try clear hi)))
  go_meet
  case rel => exact ⟨_, (true), (by first | rfl | (simp; done) | (simp [*]; done)), H', ⟨by first | omega | exact Nat.le_refl _⟩, ⟨by exact Kd.qR HO129.out⟩, ⟨by exact qB HB.out⟩⟩
 case rest =>
  clear HC5
  try clear c1
  try clear p2
  try clear c3
  try clear c10
  try clear c11
  obtain ⟨kq, x21_4, rfl, HA, HJ4, HO_6, HB⟩ := hcut
  cases kq with
  | zero => exact absurd HA.out (by simp [spec_TakeOut.j0])
  | succ kj4 =>
   have H := HA.out
   clear HA
   simp only [spec_TakeOut.j0] at H
   by_cases c13 : x21_4 = true
   ·subst c13
    have H1 : (some (y127, false)) = some (r1, r2) := by rw [if_pos rfl] at H; exact H
    clear H
    have H := H1
    clear H1
    simp only [Option.some.injEq, Prod.mk.injEq] at H
    obtain ⟨rfl, rfl⟩ := H
    go_wp2
    go_ret2
    exact ⟨_, by first | rfl | (simp [errW_none, errW_some] <;> rfl) | (simp [*, errW_none, errW_some] <;> rfl), by exact Kd.qR HO_6.out, by exact qB HB.out⟩
   replace c13 := Bool.eq_false_iff.mpr c13
   subst c13
   have H1 : (spec_TakeOut.l0 kj4 y127 t130 0) = some (r1, r2) := by rw [if_neg (show ¬ (false = true) by decide)] at H; exact H
   clear H
   have H := H1
   clear H1
   have H' := zK H
   clear H
   go_wp2
   go_loopg [8] kj4 (fun kq v8 w' => ∃ (x6_2 : List (S154)) (x8_2 : Int), v8 = .int .i64 x8_2 ∧ Aside0 (spec_TakeOut.l0 kq x6_2 t130 x8_2 = some (r1, r2)) ∧ Aside0 (kq ≤ kj4) ∧ Aside0 (Kd.R k154 154 w' w.heap.size (fun _ => True) v128 x6_2) ∧ Aside0 (Below w.heap.size w w'))
   case atStart => exact ⟨(y127), (0), (by first | rfl | (simp; done) | (simp [*]; done)), H', ⟨Nat.le_refl _⟩, ⟨by exact Kd.qR HO_6.out⟩, ⟨by exact qB HB.out⟩⟩
   case round =>
    clear H'
    try clear c1
    try clear p2
    try clear c3
    try clear c10
    try clear c11
    try clear c13
    try clear p2
    obtain ⟨x6_2, x8_2, rfl, HA, HK2, HO_6, HB⟩ := hrel
    cases gk with
    | zero => exact absurd HA.out (by simp [spec_TakeOut.l0])
    | succ k2 =>
     have H := HA.out
     clear HA
     simp only [spec_TakeOut.l0] at H
     by_cases c14 : x8_2 < (x6_2.length : Int)
     rotate_left
     ·rw [if_neg c14] at H
      have c14b0 : decide (x8_2 < (x6_2.length : Int)) = false := decide_eq_false c14
      clear c14
      simp only [Option.some.injEq, Prod.mk.injEq] at H
      obtain ⟨rfl, rfl⟩ := H
      obtain ⟨Ao22, co22, eo22⟩ := Kd.R_slice HO_6.out
      subst eo22
      go_wp2
      go_ret2
      exact ⟨_, by first | rfl | (simp [errW_none, errW_some] <;> rfl) | (simp [*, errW_none, errW_some] <;> rfl), by exact Kd.qR HO_6.out, by exact qB HB.out⟩
     rw [if_pos c14] at H
     have c14b0 : decide (x8_2 < (x6_2.length : Int)) = true := decide_eq_true c14
     clear c14
     by_cases c15 : 0 ≤ x8_2
     rotate_left
     ·rw [if_neg c15] at H
      exact absurd H (by simp)
     rw [if_pos c15] at H
     have c15b0 : decide (0 ≤ x8_2) = true := decide_eq_true c15
     clear c15
     by_cases c16 : ((rd_T154 x6_2 x8_2).f0) = t130
     rotate_left
     ·rw [if_neg c16] at H
      have c16b0 : (((rd_T154 x6_2 x8_2).f0) == t130) = false := beq_eq_false_iff_ne.mpr c16
      have c16b1 : (((rd_T154 x6_2 x8_2).f0) != t130) = true := bne_iff_ne.mpr c16
      have H' := zK H
      clear H
      obtain ⟨Ao21, co21, eo21⟩ := Kd.R_slice HO_6.out
      subst eo21
      have p132 : 0 ≤ (x8_2 : Int) := oD (by first | (with_reducible assumption) | assumption)
      have q132 : x8_2 < (x6_2.length : Int) := oD (by first | (with_reducible assumption) | assumption)
      obtain ⟨ad132, e132, hx132_0, hx132_1, hx132_2⟩ := at_T154 (Kd.R_reads' HO_6.out).2.2 x8_2 p132 q132
      cases e132
      replace p132 := eq_true p132
      replace q132 := eq_true q132
      go_wp2
      go_roundg k2
      case measure => have := HJ4.out; have := HK2.out; omega
      case rel => exact ⟨(x6_2), (wrap64 (x8_2 + 1)), (by first | rfl | (simp; done) | (simp [*]; done)), H', ⟨by have := HJ4.out; have := HK2.out; omega⟩, ⟨by exact Kd.qR HO_6.out⟩, ⟨by exact qB HB.out⟩⟩
     rw [if_pos c16] at H
     have c16b0 : (((rd_T154 x6_2 x8_2).f0) == t130) = true := beq_iff_eq.mpr c16
     have c16b1 : (((rd_T154 x6_2 x8_2).f0) != t130) = false := bne_eq_false_iff_eq.mpr c16
     clear c16
     obtain ⟨y133, hy133⟩ : ∃ y_ : List (S154), y_ = (x6_2.set (x8_2 : Int).toNat (⟨(rd_T154 x6_2 x8_2).f0, (rd_T154 x6_2 x8_2).f1, 0⟩ : S154)) := ⟨_, rfl⟩
     replace H : (spec_TakeOut.l0 k2 y133 t130 (wrap64 (x8_2 + 1))) = some (r1, r2) := by first | (rw [hy133]; with_reducible exact H) | (have H2_ := (Option.bind_some _ _).symm.trans H; rw [hy133]; with_reducible exact H2_) | (have H2_ := (Option.bind_some _ _).symm.trans H; with_reducible exact H2_) | with_reducible exact H | (rw [hy133]; exact H) | exact H
     have Ny133 := zK hy133
     clear hy133
     have H' := zK H
     clear H
     obtain ⟨Ao18, co18, eo18⟩ := Kd.R_slice HO_6.out
     subst eo18
     have p132 : 0 ≤ (x8_2 : Int) := oD (by first | (with_reducible assumption) | assumption)
     have q132 : x8_2 < (x6_2.length : Int) := oD (by first | (with_reducible assumption) | assumption)
     obtain ⟨ad132, e132, hx132_0, hx132_1, hx132_2⟩ := at_T154 (Kd.R_reads' HO_6.out).2.2 x8_2 p132 q132
     cases e132
     replace p132 := eq_true p132
     replace q132 := eq_true q132
     have p17 : 0 ≤ (x8_2 : Int) := oD (by first | (with_reducible assumption) | assumption)
     have q17 : (x8_2 : Int) < ((x6_2.length : Int) : Int) := oD (by first | (with_reducible assumption) | assumption)
     obtain ⟨go17, co17, eo17, gb17, gl17, cl17, HG17⟩ := Kd.R_form HO_6.out (by omega)
     (first | cases eo17 | (injection eo17 with ea_ en_ ec_; (first | subst ea_ | (injection ea_ with ea_; subst ea_)); subst ec_; clear en_))
     have GB17 := zK gb17
     have GG17 := zK HG17
     clear gb17 gl17 HG17
     (first | simp only [add_plain] at hx132_0 | skip)
     (first | simp only [add_plain] at hx132_1 | skip)
     (first | simp only [add_plain] at hx132_2 | skip)
     obtain ⟨ce17, hcl17, hM17, hcc17, hfr17⟩ := Kd.R_elem HO_6.out z154 (x8_2 : Int) p17 q17
     obtain rfl := k154_openM hM17
     have hx17_0 : wr.cell? ⟨go17, (x8_2 : Int).toNat * 3, none⟩ = some (.int .i64 ((rd_T154 x6_2 x8_2).f0)) := hcc17 0 _ rfl
     have hx17_1 : wr.cell? ⟨go17, (x8_2 : Int).toNat * 3 + 1, none⟩ = some (.int .i64 ((rd_T154 x6_2 x8_2).f1)) := hcc17 1 _ rfl
     have hx17_2 : wr.cell? ⟨go17, (x8_2 : Int).toNat * 3 + 2, none⟩ = some (.int .i64 ((rd_T154 x6_2 x8_2).f2)) := hcc17 2 _ rfl
     have hf17_0 : wr.frozen? ⟨go17, (x8_2 : Int).toNat * 3, none⟩ = false := hfr17 0
     have hf17_1 : wr.frozen? ⟨go17, (x8_2 : Int).toNat * 3 + 1, none⟩ = false := hfr17 1
     have hf17_2 : wr.frozen? ⟨go17, (x8_2 : Int).toNat * 3 + 2, none⟩ = false := hfr17 2
     clear hcl17 hcc17 hfr17 hM17
     replace p17 := eq_true p17
     replace q17 := eq_true q17
     have HX19 := zK (show Kd.R k154 154 wr w.heap.size (fun _ => True) (.slice (some ⟨go17, 0, none⟩) x6_2.length co18) x6_2 from (Kd.qR HO_6.out))
     obtain ⟨ce19, hcl19, hM19, hcc19, hfr19⟩ := Kd.R_elem HX19.out z154 (x8_2 : Int) (oD (by first | (with_reducible assumption) | assumption)) (by have h_ : (x8_2 : Int) < ((x6_2.length : Int) : Int) := oD (by first | (with_reducible assumption) | assumption); first | exact h_ | (have e_ := (Kd.R_reads' HO_6.out).1; omega) | simpa using h_)
     obtain rfl := k154_openM hM19
     have HP19 := Kd.R_seg HX19.out (x8_2 : Int) (oD (by first | (with_reducible assumption) | assumption)) (by have h_ : (x8_2 : Int) < ((x6_2.length : Int) : Int) := oD (by first | (with_reducible assumption) | assumption); first | exact h_ | (have e_ := (Kd.R_reads' HO_6.out).1; omega) | simpa using h_) (seg := [.int .i64 0]) (j := 2) hcl19 hcc19 (show 3 ≤ 3 from by decide) (x' := (⟨(rd_T154 x6_2 x8_2).f0, (rd_T154 x6_2 x8_2).f1, 0⟩ : S154)) (k154_mkM _ _ _ (⟨(rd_T154 x6_2 x8_2).f0, (rd_T154 x6_2 x8_2).f1, 0⟩ : S154) ) (fun _ hk => hk)
     have hx19_2 := hcc19 2 _ rfl
     (try simp only [show (k154).sz = 3 from rfl, Nat.mul_one, Nat.add_zero] at hx19_2)
     have hf19_2 := hfr19 2
     (try simp only [show (k154).sz = 3 from rfl, Nat.mul_one, Nat.add_zero] at hf19_2)
     clear hcl19 hcc19 hfr19 hM19
     go_wp2_with (first | ((with_reducible refine gate_store (t := 3) (p := 39) rfl ?_); refine store_event (t := 3) (p := 39) (v := ?vo_w20) (w1 := (wr.setCell ⟨go17, (x8_2 : Int).toNat * 3 + 2, none⟩ (.int .i64 0))) ?hg ?ho ?hn ?hr ?_; (case ho => rfl); (case hg => rfl); (case hn => rfl); (case hr => first | (go_simp; done) | (go_simp; rfl)); intro w20 hw; have hg : wr.grownBy w20 (some go17) := (by rw [hw]; exact HP19.2); have hp_ : Kd.R k154 154 w20 w.heap.size (fun _ => True) (.slice (some ⟨go17, 0, none⟩) x6_2.length co18) y133 := (by rw [hw, Ny133.out]; exact HP19.1); clear HP19; have n0_ := zK (hp_); have n1_ := zK ((by rw [hw]; exact bS (HB.out) GB17.out : Below w.heap.size w w20)); clear HO_6; clear HB; have HO_6 := n0_; have HB := n1_; clear n0_ n1_; clear hg hw hp_))
     go_roundg k2
     case measure => have := HJ4.out; have := HK2.out; omega
     case rel => exact ⟨(y133), (wrap64 (x8_2 + 1)), (by first | rfl | (simp; done) | (simp [*]; done)), H', ⟨by have := HJ4.out; have := HK2.out; omega⟩, ⟨by exact Kd.qR HO_6.out⟩, ⟨by exact qB HB.out⟩⟩
end Go.Proofs.Ytejhjenlodclpaa.PFnExactTighten
