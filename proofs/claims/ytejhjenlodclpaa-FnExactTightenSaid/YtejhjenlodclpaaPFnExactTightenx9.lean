/- Walks of functions that FnExactTighten reaches: written by a tool of the kit for this claim, then shortened by a program of ours. -/
import Derived.Test.YtejhjenlodclpaaPFnExactTightenx0
import Derived.Test.YtejhjenlodclpaaPFnExactTightenx2
import Derived.Test.YtejhjenlodclpaaPFnExactTightenx4
import Derived.Test.YtejhjenlodclpaaPFnExactTightenx5
import Derived.Test.YtejhjenlodclpaaPFnExactTightenx6
import Derived.Test.YtejhjenlodclpaaPFnExactTightenx7
import Derived.Test.YtejhjenlodclpaaPFnExactTightenx8
/- narrow -/
namespace Go.Proofs.Ytejhjenlodclpaa.PFnExactTighten
open Go.RowKit Go.Proofs.YtejhjenlodclpaaW.PrintWords Go.Proofs.YtejhjenlodclpaaW.PrintLast Go.Proofs.YtejhjenlodclpaaW.PrintMore
attribute [local go_sem] max2_int min2_int max_two min_two max_three min_three max_four min_four   -- for this text's walks alone
set_option linter.unusedVariables false
set_option linter.unusedSimpArgs false

/-! ### spec_PutAll: function 117 -/
mutual
def spec_PutAll.l0 : Nat → List (S154) → List (S111) → List (S154) → List Int → List (S111) → Int → Option ((List (S154)) × List Int)
 | 0, _, _, _, _, _, _ => none
 | k + 1, x0, x1, x6, x7, x8, x9 => if x9 < (x8.length : Int) then ((spec_AreSlots.f k x0).bind fun t206 => (if t206 = true then ((spec_AreThings.f k x1).bind fun t207 => (spec_PutAll.j1 k x0 x1 x6 x7 x8 x9 t207)) else (spec_PutAll.j1 k x0 x1 x6 x7 x8 x9 false))) else (spec_PutAll.j1 k x0 x1 x6 x7 x8 x9 false)
def spec_PutAll.j1 : Nat → List (S154) → List (S111) → List (S154) → List Int → List (S111) → Int → Bool → Option ((List (S154)) × List Int)
 | 0, _, _, _, _, _, _, _ => none
 | k + 1, x0, x1, x6, x7, x8, x9, x29 => if x29 = true then (if 0 ≤ x9 then (if x9 < (x8.length : Int) then ((spec_PutAway.f k x6 ((rd_T111 x8 x9).f0) ((rd_T111 x8 x9).f1) ((rd_T111 x8 x9).f2) ((rd_T111 x8 x9).f3) ((rd_T111 x8 x9).f4)).bind fun bt209 => (if bt209.2 = true then (spec_PutAll.l0 k x0 x1 bt209.1 x7 x8 (wrap64 (x9 + 1))) else ((spec_l9Put.f k x7 ((rd_T111 x8 x9).f0)).bind fun t214 => (spec_PutAll.l0 k x0 x1 bt209.1 t214 x8 (wrap64 (x9 + 1)))))) else (none)) else (none)) else (some (x6, x7))
end
def spec_PutAll.f (k : Nat) (l0 : List (S154)) (l1 : List (S111)) : Option ((List (S154)) × List Int) := (some (([] : List (S154)) : List (S154))).bind fun y194 => (if y194.length + l0.length < 5864062014805 then ((spec_l15Sorted.f l1).bind fun t203 => (spec_PutAll.l0 k l0 l1 (y194 ++ l0) (([] : List Int)) t203 0)) else (none))
set_option maxHeartbeats 8000000 in
set_option maxRecDepth 100000 in
theorem spec_PutAll.calls (k : Nat) (A0 : Option Addr) (c0 : Nat) (l0 : List (S154)) (A1 : Option Addr) (c1 : Nat) (l1 : List (S111)) (r1 : List (S154)) (r2 : List Int) (w : World) (hr0 : Kd.C k154 w A0 l0.length l0) (hc0 : l0.length ≤ c0) (hr1 : Kd.C k111 w A1 l1.length l1) (hc1 : l1.length ≤ c1) (h : spec_PutAll.f k l0 l1 = some (r1, r2)) :
  Calls Try.prog 117 #[.slice A0 l0.length c0, .slice A1 l1.length c1] w fun e w' => ∃ v0_ v1_ : Value, e = .returned (.tuple #[v0_, v1_]) ∧ Kd.R k154 154 w' w.heap.size (fun _ => True) v0_ r1 ∧ Kd.R (Kd.int .i64) 3 w' w.heap.size (fun _ => True) v1_ r2 ∧ Below w.heap.size w w' := by
 have hu111 := Try.underlying111
 have HR0 := zK hr0
 have HC0 := zK hc0
 clear hr0 hc0
 have HR1 := zK hr1
 have HC1 := zK hc1
 clear hr1 hc1
 have HB := zK (Below.refl w.heap.size w)
 have H : ((some (([] : List (S154)) : List (S154))).bind fun y194 => (if y194.length + l0.length < 5864062014805 then ((spec_l15Sorted.f l1).bind fun t203 => (spec_PutAll.l0 k l0 l1 (y194 ++ l0) (([] : List Int)) t203 0)) else (none))) = some (r1, r2) := h
 clear h
 obtain ⟨y194, hy194⟩ : ∃ y_ : List (S154), y_ = (([] : List (S154))) := ⟨_, rfl⟩
 replace H : (if y194.length + l0.length < 5864062014805 then ((spec_l15Sorted.f l1).bind fun t203 => (spec_PutAll.l0 k l0 l1 (y194 ++ l0) (([] : List Int)) t203 0)) else (none)) = some (r1, r2) := by first | (rw [hy194]; with_reducible exact H) | (have H2_ := (Option.bind_some _ _).symm.trans H; rw [hy194]; with_reducible exact H2_) | (have H2_ := (Option.bind_some _ _).symm.trans H; with_reducible exact H2_) | with_reducible exact H | (rw [hy194]; exact H) | exact H
 have Ny194 := zK hy194
 clear hy194
 by_cases c3 : y194.length + l0.length < 5864062014805
 rotate_left
 ·rw [if_neg c3] at H
  exact absurd H (by simp)
 rw [if_pos c3] at H
 have LMc3 := zK c3
 clear c3
 obtain ⟨y197, hy197⟩ : ∃ y_ : List (S154), y_ = (y194 ++ l0) := ⟨_, rfl⟩
 replace H : ((spec_l15Sorted.f l1).bind fun t203 => (spec_PutAll.l0 k l0 l1 y197 (([] : List Int)) t203 0)) = some (r1, r2) := by first | (rw [hy197]; with_reducible exact H) | (have H2_ := (Option.bind_some _ _).symm.trans H; rw [hy197]; with_reducible exact H2_) | (have H2_ := (Option.bind_some _ _).symm.trans H; with_reducible exact H2_) | with_reducible exact H | (rw [hy197]; exact H) | exact H
 have Ny197 := zK hy197
 clear hy197
 obtain ⟨y200, hy200⟩ : ∃ y_ : List Int, y_ = (([] : List Int)) := ⟨_, rfl⟩
 replace H : ((spec_l15Sorted.f l1).bind fun t203 => (spec_PutAll.l0 k l0 l1 y197 y200 t203 0)) = some (r1, r2) := by first | (rw [hy200]; with_reducible exact H) | (have H2_ := (Option.bind_some _ _).symm.trans H; rw [hy200]; with_reducible exact H2_) | (have H2_ := (Option.bind_some _ _).symm.trans H; with_reducible exact H2_) | with_reducible exact H | (rw [hy200]; exact H) | exact H
 have Ny200 := zK hy200
 clear hy200
 replace H := Option.bind_eq_some_iff.mp H
 obtain ⟨t203, A40, H⟩ := H
 replace H : (spec_PutAll.l0 k l0 l1 y197 y200 t203 0) = some (r1, r2) := H
 have A4 := zK A40
 clear A40
 have H' := zK H
 clear H
 go_enter Try.func117, Try.ntmps117
 go_wp2_with (first | ((with_reducible refine gate_dst (N := 12) rfl ?_); refine Kd.R_lit k154 _ 154 ?hg (N := 12) ?hd (xs := ([] : List (S154))) (inner := []) (ok := fun _ => True) (okp := fun _ => True) ?hr ?hp (fun _ hk => hk) trivial (Below.refl _ _) (Nat.le_refl _) (by simp) ?_; (case hd => rfl); (case hg => rfl); (case hr => first | (go_simp; done) | (go_simp; rfl)); (case hp => exact (Reps.none _ _)); intro v195 w5 ho6 hb hg_ hnew_; clear hg_ hnew_; (first | rw [← Ny194.out] at ho6 | (simp only [Int.reduceToNat] at ho6; rw [← Ny194.out] at ho6)); have n0_ := zK (Kd.R_lower ho6 (bZ (qB HB.out))); have n1_ := zK (bT (qB HB.out) hb); clear HB; have HO196 := n0_; have HB := n1_; clear n0_ n1_; clear hb ho6) | ((with_reducible refine gate_builtin (b := .append) (xs := #[.tmp 12, .tmp 13]) rfl ?_); at_builtin; refine Kd.R_append_rows k154 (w0 := w) w.heap.size rfl (.tmp 12) (.tmp 13) 94 154 (.agg #[(.int .i64 0), (.int .i64 0), (.int .i64 0)]) 24 rfl Try.underlying94 info154 rfl (by decide) (by omega) v195 y194 l0 _ _ _ (fun _ => True) (fun _ => False) rfl rfl ?aO ?aR (fun _ _ h => h) (fun _ h => h.elim) ?aF ?aB ?aS ?aL ?_; (case aR => exact Kd.qC (Kd.C_below HR0.out HB.out)); (case aB => exact (qB HB.out)); (case aF => exact (fun _ _ => trivial)); (case aO => exact (Kd.qR HO196.out)); (case aS => exact (bZ (qB HB.out))); (case aL => have := LMc3.out; omega); intro v198 w7 ho hb hg hat; rw [← Ny197.out] at ho; have n0_ := zK (hb); have n1_ := zK (ho); clear HB; clear HO196; have HB := n0_; have HO199 := n1_; clear n0_ n1_; clear ho hb hg hat) | ((with_reducible refine gate_dst (N := 15) rfl ?_); refine Kd.R_lit (Kd.int .i64) _ 3 ?hg (N := 15) ?hd (xs := ([] : List Int)) (inner := []) (ok := fun _ => True) (okp := fun _ => True) ?hr ?hp (fun _ hk => hk) trivial (Below.refl _ _) (Nat.le_refl _) (by simp) ?_; (case hd => rfl); (case hg => rfl); (case hr => first | (go_simp; done) | (go_simp; rfl)); (case hp => exact (Reps.none _ _)); intro v201 w8 ho9 hb hg_ hnew_; clear hg_ hnew_; (first | rw [← Ny200.out] at ho9 | (simp only [Int.reduceToNat] at ho9; rw [← Ny200.out] at ho9)); have n0_ := zK (Kd.R_below (Kd.qR HO199.out) hb); have n1_ := zK (Kd.R_lower ho9 (bZ (qB HB.out))); have n2_ := zK (bT (qB HB.out) hb); clear HO199; clear HB; have HO199 := n0_; have HO202 := n1_; have HB := n2_; clear n0_ n1_ n2_; clear hb ho9) | ((with_reducible refine gate_callee (f := 157) rfl ?_); refine goesL_ (some 17) rfl rfl Try.func157 (by kernel_rfl) rfl #[.slice A1 l1.length c1] rfl (by (try simp only [List.map_toArray, List.map_cons, List.map_nil]); first | done | rfl | (simp only [List.length_drop, List.length_take]; rfl)) ?_; (with_reducible refine (spec_l15Sorted.calls _ _ l1 t203 _ ?side1 ?side2 A4.out).mono ?_); (case side1 => exact Kd.qC (Kd.C_below HR1.out HB.out)); (case side2 => exact HC1.out); rintro e w10 ⟨v204, rfl, ho0, hb⟩; refine ⟨_, rfl, ?_⟩; have n0_ := zK (Kd.R_below (Kd.qR HO199.out) hb); have n1_ := zK (Kd.R_below (Kd.qR HO202.out) hb); have n2_ := zK (Kd.R_lower ho0 (bZ (qB HB.out))); have n3_ := zK (bT (qB HB.out) hb); clear HO199; clear HO202; clear HB; have HO199 := n0_; have HO202 := n1_; have HO205 := n2_; have HB := n3_; clear n0_ n1_ n2_ n3_; (try clear hb); (try clear hb2); (try clear hk); (try clear hi); (try clear ho0)))
 go_loopg [6, 7, 9] k (fun kq v6 v7 v9 w' => ∃ (x6_1 : List (S154)) (x7_1 : List Int) (x9_1 : Int), v9 = .int .i64 x9_1 ∧ Aside0 (spec_PutAll.l0 kq l0 l1 x6_1 x7_1 t203 x9_1 = some (r1, r2)) ∧ Aside0 (kq ≤ k) ∧ Aside0 (Kd.R k154 154 w' w.heap.size (fun _ => True) v6 x6_1) ∧ Aside0 (Kd.R (Kd.int .i64) 3 w' w.heap.size (fun _ => True) v7 x7_1) ∧ Aside0 (Kd.R k111 111 w' w.heap.size (fun _ => True) v204 t203) ∧ Aside0 (Below w.heap.size w w'))
 case atStart => exact ⟨(y197), (y200), (0), (by first | rfl | (simp; done) | (simp [*]; done)), H', ⟨Nat.le_refl _⟩, ⟨by exact Kd.qR HO199.out⟩, ⟨by exact Kd.qR HO202.out⟩, ⟨by exact Kd.qR HO205.out⟩, ⟨by exact qB HB.out⟩⟩
 case round =>
  clear H'
  try clear c1
  try clear p2
  try clear c3
  obtain ⟨x6_1, x7_1, x9_1, rfl, HA, HK1, HO_6, HO_7, HO_8, HB⟩ := hrel
  cases gk with
  | zero => exact absurd HA.out (by simp [spec_PutAll.l0])
  | succ k1 =>
   have H := HA.out
   clear HA
   simp only [spec_PutAll.l0] at H
   have HC11 := zK H
   clear H
   go_upto_region 5 with (fail)
   go_cut [29] (fun v29 wc => ∃ (kq : Nat) (x29_10 : Bool), v29 = .bool x29_10 ∧ Aside0 (spec_PutAll.j1 kq l0 l1 x6_1 x7_1 t203 x9_1 x29_10 = some (r1, r2)) ∧ Aside0 (kq ≤ k1) ∧ Aside0 (Kd.R k154 154 wc w.heap.size (fun _ => True) u6 x6_1) ∧ Aside0 (Kd.R (Kd.int .i64) 3 wc w.heap.size (fun _ => True) u7 x7_1) ∧ Aside0 (Kd.R k111 111 wc w.heap.size (fun _ => True) v204 t203) ∧ Aside0 (Below w.heap.size w wc))
   case first =>
    have H := HC11.out
    clear HC11
    by_cases c12 : x9_1 < (t203.length : Int)
    rotate_left
    ·rw [if_neg c12] at H
     have c12b0 : decide (x9_1 < (t203.length : Int)) = false := decide_eq_false c12
     clear c12
     (first | rw [c12b0] | rw [c12b1] | (simp only [i64_w, i32_w]; rw [c12b0]) | skip)
     have H' := zK H
     clear H
     obtain ⟨Ao21, co21, eo21⟩ := Kd.R_slice HO_8.out
     subst eo21
     go_wp2
     go_meet
     case rel => exact ⟨_, (false), (by first | rfl | (simp; done) | (simp [*]; done)), H', ⟨by have := HK1.out; first | omega | exact Nat.le_refl _⟩, ⟨by exact Kd.qR HO_6.out⟩, ⟨by exact Kd.qR HO_7.out⟩, ⟨by exact Kd.qR HO_8.out⟩, ⟨by exact qB HB.out⟩⟩
    rw [if_pos c12] at H
    have c12b0 : decide (x9_1 < (t203.length : Int)) = true := decide_eq_true c12
    clear c12
    (first | rw [c12b0] | rw [c12b1] | (simp only [i64_w, i32_w]; rw [c12b0]) | skip)
    replace H := Option.bind_eq_some_iff.mp H
    obtain ⟨t206, A130, H⟩ := H
    replace H : (if t206 = true then ((spec_AreThings.f k1 l1).bind fun t207 => (spec_PutAll.j1 k1 l0 l1 x6_1 x7_1 t203 x9_1 t207)) else (spec_PutAll.j1 k1 l0 l1 x6_1 x7_1 t203 x9_1 false)) = some (r1, r2) := H
    have A13 := zK A130
    clear A130
    by_cases c14 : t206 = true
    rotate_left
    ·replace c14 := Bool.eq_false_iff.mpr c14
     subst c14
     have H1 : (spec_PutAll.j1 k1 l0 l1 x6_1 x7_1 t203 x9_1 false) = some (r1, r2) := by rw [if_neg (show ¬ (false = true) by decide)] at H; exact H
     clear H
     have H := H1
     clear H1
     have H' := zK H
     clear H
     obtain ⟨Ao19, co19, eo19⟩ := Kd.R_slice HO_8.out
     subst eo19
     go_wp2_with (first | (go_at_call 114; (with_reducible refine (spec_AreSlots.calls k1 _ _ l0 false _ ?side1 ?side2 A13.out).mono ?_); (case side1 => exact Kd.qC (Kd.C_below HR0.out HB.out)); (case side2 => exact HC0.out); rintro e w20 ⟨rfl, hb⟩; have n0_ := zK (Kd.R_below (Kd.qR HO_6.out) hb); have n1_ := zK (Kd.R_below (Kd.qR HO_7.out) hb); have n2_ := zK (Kd.R_below (Kd.qR HO_8.out) hb); have n3_ := zK (bT (qB HB.out) hb); clear HO_6; clear HO_7; clear HO_8; clear HB; have HO_6 := n0_; have HO_7 := n1_; have HO_8 := n2_; have HB := n3_; clear n0_ n1_ n2_ n3_; (try clear hb); (try clear hb2); (try clear hk); (try clear hi)))
     go_meet
     case rel => exact ⟨_, (false), (by first | rfl | (simp; done) | (simp [*]; done)), H', ⟨by have := HK1.out; first | omega | exact Nat.le_refl _⟩, ⟨by exact Kd.qR HO_6.out⟩, ⟨by exact Kd.qR HO_7.out⟩, ⟨by exact Kd.qR HO_8.out⟩, ⟨by exact qB HB.out⟩⟩
    subst c14
    have H1 : ((spec_AreThings.f k1 l1).bind fun t207 => (spec_PutAll.j1 k1 l0 l1 x6_1 x7_1 t203 x9_1 t207)) = some (r1, r2) := by rw [if_pos rfl] at H; exact H
    clear H
    have H := H1
    clear H1
    replace H := Option.bind_eq_some_iff.mp H
    obtain ⟨t207, A150, H⟩ := H
    replace H : (spec_PutAll.j1 k1 l0 l1 x6_1 x7_1 t203 x9_1 t207) = some (r1, r2) := H
    have A15 := zK A150
    clear A150
    have H' := zK H
    clear H
    obtain ⟨Ao16, co16, eo16⟩ := Kd.R_slice HO_8.out
    subst eo16
    go_wp2_with (first | (go_at_call 114; (with_reducible refine (spec_AreSlots.calls k1 _ _ l0 true _ ?side1 ?side2 A13.out).mono ?_); (case side1 => exact Kd.qC (Kd.C_below HR0.out HB.out)); (case side2 => exact HC0.out); rintro e w17 ⟨rfl, hb⟩; have n0_ := zK (Kd.R_below (Kd.qR HO_6.out) hb); have n1_ := zK (Kd.R_below (Kd.qR HO_7.out) hb); have n2_ := zK (Kd.R_below (Kd.qR HO_8.out) hb); have n3_ := zK (bT (qB HB.out) hb); clear HO_6; clear HO_7; clear HO_8; clear HB; have HO_6 := n0_; have HO_7 := n1_; have HO_8 := n2_; have HB := n3_; clear n0_ n1_ n2_ n3_; (try clear hb); (try clear hb2); (try clear hk); (try clear hi)) | (go_at_call 115; (with_reducible refine (spec_AreThings.calls k1 _ _ l1 t207 _ ?side1 ?side2 A15.out).mono ?_); (case side1 => exact Kd.qC (Kd.C_below HR1.out HB.out)); (case side2 => exact HC1.out); rintro e w18 ⟨rfl, hb⟩; have n0_ := zK (Kd.R_below (Kd.qR HO_6.out) hb); have n1_ := zK (Kd.R_below (Kd.qR HO_7.out) hb); have n2_ := zK (Kd.R_below (Kd.qR HO_8.out) hb); have n3_ := zK (bT (qB HB.out) hb); clear HO_6; clear HO_7; clear HO_8; clear HB; have HO_6 := n0_; have HO_7 := n1_; have HO_8 := n2_; have HB := n3_; clear n0_ n1_ n2_ n3_; (try clear hb); (try clear hb2); (try clear hk); (try clear hi)))
    go_meet
    case rel => exact ⟨_, (t207), (by first | rfl | (simp; done) | (simp [*]; done)), H', ⟨by have := HK1.out; first | omega | exact Nat.le_refl _⟩, ⟨by exact Kd.qR HO_6.out⟩, ⟨by exact Kd.qR HO_7.out⟩, ⟨by exact Kd.qR HO_8.out⟩, ⟨by exact qB HB.out⟩⟩
   case rest =>
    clear HC11
    try clear c1
    try clear p2
    try clear c3
    try clear c11
    try clear c12
    try clear c12b0
    try clear c14
    try clear c15
    try clear p2
    obtain ⟨kq, x29_10, rfl, HA, HJ10, HO_6, HO_7, HO_8, HB⟩ := hcut
    cases kq with
    | zero => exact absurd HA.out (by simp [spec_PutAll.j1])
    | succ kj10 =>
     have H := HA.out
     clear HA
     simp only [spec_PutAll.j1] at H
     by_cases c22 : x29_10 = true
     rotate_left
     ·replace c22 := Bool.eq_false_iff.mpr c22
      subst c22
      have H1 : (some (x6_1, x7_1)) = some (r1, r2) := by rw [if_neg (show ¬ (false = true) by decide)] at H; exact H
      clear H
      have H := H1
      clear H1
      simp only [Option.some.injEq, Prod.mk.injEq] at H
      obtain ⟨rfl, rfl⟩ := H
      go_wp2
      go_ret2
      exact ⟨_, _, by first | rfl | (simp [errW_none, errW_some] <;> rfl) | (simp [*, errW_none, errW_some] <;> rfl), by exact Kd.qR HO_6.out, by exact Kd.qR HO_7.out, by exact qB HB.out⟩
     subst c22
     have H1 : (if 0 ≤ x9_1 then (if x9_1 < (t203.length : Int) then ((spec_PutAway.f kj10 x6_1 ((rd_T111 t203 x9_1).f0) ((rd_T111 t203 x9_1).f1) ((rd_T111 t203 x9_1).f2) ((rd_T111 t203 x9_1).f3) ((rd_T111 t203 x9_1).f4)).bind fun bt209 => (if bt209.2 = true then (spec_PutAll.l0 kj10 l0 l1 bt209.1 x7_1 t203 (wrap64 (x9_1 + 1))) else ((spec_l9Put.f kj10 x7_1 ((rd_T111 t203 x9_1).f0)).bind fun t214 => (spec_PutAll.l0 kj10 l0 l1 bt209.1 t214 t203 (wrap64 (x9_1 + 1)))))) else (none)) else (none)) = some (r1, r2) := by rw [if_pos rfl] at H; exact H
     clear H
     have H := H1
     clear H1
     by_cases c23 : 0 ≤ x9_1
     rotate_left
     ·rw [if_neg c23] at H
      exact absurd H (by simp)
     rw [if_pos c23] at H
     have c23b0 : decide (0 ≤ x9_1) = true := decide_eq_true c23
     clear c23
     by_cases c24 : x9_1 < (t203.length : Int)
     rotate_left
     ·rw [if_neg c24] at H
      exact absurd H (by simp)
     rw [if_pos c24] at H
     have c24b0 : decide (x9_1 < (t203.length : Int)) = true := decide_eq_true c24
     clear c24
     replace H := Option.bind_eq_some_iff.mp H
     obtain ⟨⟨t209, t212⟩, A250, H⟩ := H
     replace H : (if t212 = true then (spec_PutAll.l0 kj10 l0 l1 t209 x7_1 t203 (wrap64 (x9_1 + 1))) else ((spec_l9Put.f kj10 x7_1 ((rd_T111 t203 x9_1).f0)).bind fun t214 => (spec_PutAll.l0 kj10 l0 l1 t209 t214 t203 (wrap64 (x9_1 + 1))))) = some (r1, r2) := H
     have A25 := zK A250
     clear A250
     by_cases c26 : t212 = true
     ·subst c26
      have H1 : (spec_PutAll.l0 kj10 l0 l1 t209 x7_1 t203 (wrap64 (x9_1 + 1))) = some (r1, r2) := by rw [if_pos rfl] at H; exact H
      clear H
      have H := H1
      clear H1
      have H' := zK H
      clear H
      obtain ⟨Ao27, co27, eo27⟩ := Kd.R_slice HO_8.out
      subst eo27
      have p208 : 0 ≤ (x9_1 : Int) := oD (by first | (with_reducible assumption) | assumption)
      have q208 : x9_1 < (t203.length : Int) := oD (by first | (with_reducible assumption) | assumption)
      obtain ⟨ad208, e208, hx208_0, hx208_1, hx208_2, hx208_3, hx208_4⟩ := at_T111 (Kd.R_reads' HO_8.out).2.2 x9_1 p208 q208
      cases e208
      replace p208 := eq_true p208
      replace q208 := eq_true q208
      obtain ⟨Ao28, co28, eo28⟩ := Kd.R_slice HO_6.out
      subst eo28
      go_wp2_with (first | ((with_reducible refine gate_callee (f := 158) rfl ?_); refine goesL_ (some 38) rfl rfl Try.func158 (by kernel_rfl) rfl #[.slice Ao28 x6_1.length co28, .agg #[.int .i64 ((rd_T111 t203 x9_1).f0), .int .i64 ((rd_T111 t203 x9_1).f1), .int .i64 ((rd_T111 t203 x9_1).f2), .int .i64 ((rd_T111 t203 x9_1).f3), .int .i64 ((rd_T111 t203 x9_1).f4)]] rfl (by (try simp only [List.map_toArray, List.map_cons, List.map_nil]); first | done | rfl | (simp only [List.length_drop, List.length_take]; rfl)) ?_; (with_reducible refine (spec_PutAway.calls kj10 _ _ x6_1 ((rd_T111 t203 x9_1).f0) ((rd_T111 t203 x9_1).f1) ((rd_T111 t203 x9_1).f2) ((rd_T111 t203 x9_1).f3) ((rd_T111 t203 x9_1).f4) t209 true _ ?side1 ?side2 A25.out).mono ?_); (case side1 => repeat (first | exact (Kd.R_reads' HO_6.out).2.2 | (with_reducible refine Kd.CA ?_ _) | (with_reducible refine Kd.CN ?_ _) | (with_reducible refine Kd.CD ?_))); (case side2 => exact (Kd.R_reads' HO_6.out).2.1); rintro e w29 ⟨v210, rfl, ho0, hb⟩; refine ⟨_, rfl, ?_⟩; have n0_ := zK (Kd.R_elder' (Kd.qR HO_6.out) (Kd.R_base ho0) hb); have n1_ := zK (Kd.R_below (Kd.qR HO_7.out) hb); have n2_ := zK (Kd.R_below (Kd.qR HO_8.out) hb); have n3_ := zK (Kd.R_lower (Kd.R_new' ho0 (Kd.R_lt (Kd.qR HO_6.out))) (bZ (qB HB.out))); have n4_ := zK (bT (qB HB.out) hb); clear HO_6; clear HO_7; clear HO_8; clear HB; have HO_6 := n0_; have HO_7 := n1_; have HO_8 := n2_; have HO211 := n3_; have HB := n4_; clear n0_ n1_ n2_ n3_ n4_; (try clear hb); (try clear hb2); (try clear hk); (try clear hi); (try clear ho0)))
      go_roundg kj10
      case measure => have := HK1.out; have := HJ10.out; omega
      case rel => exact ⟨(t209), (x7_1), (wrap64 (x9_1 + 1)), (by first | rfl | (simp; done) | (simp [*]; done)), H', ⟨by have := HK1.out; have := HJ10.out; omega⟩, ⟨by (with_reducible repeat (first | apply Kd.RA | apply Kd.RN | apply Kd.RD)); exact Kd.R_mono HO211.out (fun _ hk => trivial)⟩, ⟨by exact Kd.qR HO_7.out⟩, ⟨by exact Kd.qR HO_8.out⟩, ⟨by exact qB HB.out⟩⟩
     replace c26 := Bool.eq_false_iff.mpr c26
     subst c26
     have H1 : ((spec_l9Put.f kj10 x7_1 ((rd_T111 t203 x9_1).f0)).bind fun t214 => (spec_PutAll.l0 kj10 l0 l1 t209 t214 t203 (wrap64 (x9_1 + 1)))) = some (r1, r2) := by rw [if_neg (show ¬ (false = true) by decide)] at H; exact H
     clear H
     have H := H1
     clear H1
     replace H := Option.bind_eq_some_iff.mp H
     obtain ⟨t214, A300, H⟩ := H
     replace H : (spec_PutAll.l0 kj10 l0 l1 t209 t214 t203 (wrap64 (x9_1 + 1))) = some (r1, r2) := H
     have A30 := zK A300
     clear A300
     have H' := zK H
     clear H
     obtain ⟨Ao31, co31, eo31⟩ := Kd.R_slice HO_8.out
     subst eo31
     have p208 : 0 ≤ (x9_1 : Int) := oD (by first | (with_reducible assumption) | assumption)
     have q208 : x9_1 < (t203.length : Int) := oD (by first | (with_reducible assumption) | assumption)
     obtain ⟨ad208, e208, hx208_0, hx208_1, hx208_2, hx208_3, hx208_4⟩ := at_T111 (Kd.R_reads' HO_8.out).2.2 x9_1 p208 q208
     cases e208
     replace p208 := eq_true p208
     replace q208 := eq_true q208
     obtain ⟨Ao32, co32, eo32⟩ := Kd.R_slice HO_6.out
     subst eo32
     go_wp2_with (first | ((with_reducible refine gate_callee (f := 158) rfl ?_); refine goesL_ (some 38) rfl rfl Try.func158 (by kernel_rfl) rfl #[.slice Ao32 x6_1.length co32, .agg #[.int .i64 ((rd_T111 t203 x9_1).f0), .int .i64 ((rd_T111 t203 x9_1).f1), .int .i64 ((rd_T111 t203 x9_1).f2), .int .i64 ((rd_T111 t203 x9_1).f3), .int .i64 ((rd_T111 t203 x9_1).f4)]] rfl (by (try simp only [List.map_toArray, List.map_cons, List.map_nil]); first | done | rfl | (simp only [List.length_drop, List.length_take]; rfl)) ?_; (with_reducible refine (spec_PutAway.calls kj10 _ _ x6_1 ((rd_T111 t203 x9_1).f0) ((rd_T111 t203 x9_1).f1) ((rd_T111 t203 x9_1).f2) ((rd_T111 t203 x9_1).f3) ((rd_T111 t203 x9_1).f4) t209 false _ ?side1 ?side2 A25.out).mono ?_); (case side1 => repeat (first | exact (Kd.R_reads' HO_6.out).2.2 | (with_reducible refine Kd.CA ?_ _) | (with_reducible refine Kd.CN ?_ _) | (with_reducible refine Kd.CD ?_))); (case side2 => exact (Kd.R_reads' HO_6.out).2.1); rintro e w33 ⟨v210, rfl, ho0, hb⟩; refine ⟨_, rfl, ?_⟩; have n0_ := zK (Kd.R_elder' (Kd.qR HO_6.out) (Kd.R_base ho0) hb); have n1_ := zK (Kd.R_below (Kd.qR HO_7.out) hb); have n2_ := zK (Kd.R_below (Kd.qR HO_8.out) hb); have n3_ := zK (Kd.R_lower (Kd.R_new' ho0 (Kd.R_lt (Kd.qR HO_6.out))) (bZ (qB HB.out))); have n4_ := zK (bT (qB HB.out) hb); clear HO_6; clear HO_7; clear HO_8; clear HB; have HO_6 := n0_; have HO_7 := n1_; have HO_8 := n2_; have HO211 := n3_; have HB := n4_; clear n0_ n1_ n2_ n3_ n4_; (try clear hb); (try clear hb2); (try clear hk); (try clear hi); (try clear ho0); have p213 : 0 ≤ (x9_1 : Int) := oD (by first | (with_reducible assumption) | assumption); have q213 : x9_1 < (t203.length : Int) := oD (by first | (with_reducible assumption) | assumption); obtain ⟨ad213, e213, hx213_0, hx213_1, hx213_2, hx213_3, hx213_4⟩ := at_T111 (Kd.R_reads' HO_8.out).2.2 x9_1 p213 q213; obtain rfl : ad208 = ad213 := (by injection e213); replace p213 := eq_true p213; replace q213 := eq_true q213; obtain ⟨Ao34, co34, eo34⟩ := Kd.R_slice HO_7.out; subst eo34) | ((with_reducible refine gate_callee (f := 83) rfl ?_); refine goesL_ (some 50) rfl rfl Try.func83 (by kernel_rfl) rfl #[.slice Ao34 x7_1.length co34, .int .i64 ((rd_T111 t203 x9_1).f0)] rfl (by (try simp only [List.map_toArray, List.map_cons, List.map_nil]); first | done | rfl | (simp only [List.length_drop, List.length_take]; rfl)) ?_; (with_reducible refine (spec_l9Put.calls kj10 _ _ x7_1 ((rd_T111 t203 x9_1).f0) t214 _ ?side1 ?side2 A30.out).mono ?_); (case side1 => repeat (first | exact (Kd.R_reads' HO_7.out).2.2 | (with_reducible refine Kd.CA ?_ _) | (with_reducible refine Kd.CN ?_ _) | (with_reducible refine Kd.CD ?_))); (case side2 => exact (Kd.R_reads' HO_7.out).2.1); rintro e w35 ⟨v215, rfl, ho0, hb⟩; refine ⟨_, rfl, ?_⟩; have n0_ := zK (Kd.R_below (Kd.qR HO_6.out) hb); have n1_ := zK (Kd.R_elder' (Kd.qR HO_7.out) (Kd.R_base ho0) hb); have n2_ := zK (Kd.R_below (Kd.qR HO_8.out) hb); have n3_ := zK (Kd.R_below (Kd.qR HO211.out) hb); have n4_ := zK (Kd.R_lower (Kd.R_new' ho0 (Kd.R_lt (Kd.qR HO_7.out))) (bZ (qB HB.out))); have n5_ := zK (bT (qB HB.out) hb); clear HO_6; clear HO_7; clear HO_8; clear HO211; clear HB; have HO_6 := n0_; have HO_7 := n1_; have HO_8 := n2_; have HO211 := n3_; have HO216 := n4_; have HB := n5_; clear n0_ n1_ n2_ n3_ n4_ n5_; (try clear hb); (try clear hb2); (try clear hk); (try clear hi); (try clear ho0)))
     go_roundg kj10
     case measure => have := HK1.out; have := HJ10.out; omega
     case rel => exact ⟨(t209), (t214), (wrap64 (x9_1 + 1)), (by first | rfl | (simp; done) | (simp [*]; done)), H', ⟨by have := HK1.out; have := HJ10.out; omega⟩, ⟨by (with_reducible repeat (first | apply Kd.RA | apply Kd.RN | apply Kd.RD)); exact Kd.R_mono HO211.out (fun _ hk => trivial)⟩, ⟨by (with_reducible repeat (first | apply Kd.RA | apply Kd.RN | apply Kd.RD)); exact Kd.R_mono HO216.out (fun _ hk => trivial)⟩, ⟨by exact Kd.qR HO_8.out⟩, ⟨by exact qB HB.out⟩⟩
/-! ### spec_Tighten: function 64 -/
mutual
def spec_Tighten.l0 : Nat → List (S154) → List (S111) → List (S154) → List (S111) → Int → Option ((List (S154)))
 | 0, _, _, _, _, _ => none
 | k + 1, x0, x1, x5, x6, x7 => if x7 < (x1.length : Int) then ((spec_AreSlots.f k x0).bind fun t226 => (if t226 = true then ((spec_AreThings.f k x1).bind fun t227 => (spec_Tighten.j1 k x0 x1 x5 x6 x7 t227)) else (spec_Tighten.j1 k x0 x1 x5 x6 x7 false))) else (spec_Tighten.j1 k x0 x1 x5 x6 x7 false)
def spec_Tighten.j1 : Nat → List (S154) → List (S111) → List (S154) → List (S111) → Int → Bool → Option ((List (S154)))
 | 0, _, _, _, _, _, _ => none
 | k + 1, x0, x1, x5, x6, x7, x27 => if x27 = true then (if 0 ≤ x7 then (if x7 < (x1.length : Int) then ((spec_TakeOut.f k x5 ((rd_T111 x1 x7).f0)).bind fun bt229 => (if bt229.2 = true then (if x6.length < 3518437208883 then (spec_Tighten.l0 k x0 x1 bt229.1 (x6 ++ [(⟨(rd_T111 x1 x7).f0, (rd_T111 x1 x7).f1, (rd_T111 x1 x7).f2, (rd_T111 x1 x7).f3, (rd_T111 x1 x7).f4⟩ : S111)]) (wrap64 (x7 + 1))) else (none)) else (spec_Tighten.l0 k x0 x1 bt229.1 x6 (wrap64 (x7 + 1))))) else (none)) else (none)) else ((spec_PutAll.f k x5 x6).bind fun bt237 => (if (bt237.2.length : Int) > 0 then ((some (([] : List (S154)) : List (S154))).bind fun y243 => (if y243.length + x0.length < 5864062014805 then (some (y243 ++ x0)) else (none))) else (some bt237.1)))
end
def spec_Tighten.f (k : Nat) (l0 : List (S154)) (l1 : List (S111)) : Option ((List (S154))) := (some (([] : List (S154)) : List (S154))).bind fun y217 => (if y217.length + l0.length < 5864062014805 then (spec_Tighten.l0 k l0 l1 (y217 ++ l0) (([] : List (S111))) 0) else (none))
set_option maxHeartbeats 8000000 in
set_option maxRecDepth 100000 in
theorem spec_Tighten.calls (k : Nat) (A0 : Option Addr) (c0 : Nat) (l0 : List (S154)) (A1 : Option Addr) (c1 : Nat) (l1 : List (S111)) (r : List (S154)) (w : World) (hr0 : Kd.C k154 w A0 l0.length l0) (hc0 : l0.length ≤ c0) (hr1 : Kd.C k111 w A1 l1.length l1) (hc1 : l1.length ≤ c1) (h : spec_Tighten.f k l0 l1 = some r) :
  Calls Try.prog 64 #[.slice A0 l0.length c0, .slice A1 l1.length c1] w fun e w' => ∃ v0_ : Value, e = .returned (v0_) ∧ Kd.R k154 154 w' w.heap.size (fun _ => True) v0_ r ∧ Below w.heap.size w w' := by
 have hu111 := Try.underlying111
 have HR0 := zK hr0
 have HC0 := zK hc0
 clear hr0 hc0
 have HR1 := zK hr1
 have HC1 := zK hc1
 clear hr1 hc1
 have HB := zK (Below.refl w.heap.size w)
 have H : ((some (([] : List (S154)) : List (S154))).bind fun y217 => (if y217.length + l0.length < 5864062014805 then (spec_Tighten.l0 k l0 l1 (y217 ++ l0) (([] : List (S111))) 0) else (none))) = some r := h
 clear h
 obtain ⟨y217, hy217⟩ : ∃ y_ : List (S154), y_ = (([] : List (S154))) := ⟨_, rfl⟩
 replace H : (if y217.length + l0.length < 5864062014805 then (spec_Tighten.l0 k l0 l1 (y217 ++ l0) (([] : List (S111))) 0) else (none)) = some r := by first | (rw [hy217]; with_reducible exact H) | (have H2_ := (Option.bind_some _ _).symm.trans H; rw [hy217]; with_reducible exact H2_) | (have H2_ := (Option.bind_some _ _).symm.trans H; with_reducible exact H2_) | with_reducible exact H | (rw [hy217]; exact H) | exact H
 have Ny217 := zK hy217
 clear hy217
 by_cases c3 : y217.length + l0.length < 5864062014805
 rotate_left
 ·rw [if_neg c3] at H
  exact absurd H (by simp)
 rw [if_pos c3] at H
 have LMc3 := zK c3
 clear c3
 obtain ⟨y220, hy220⟩ : ∃ y_ : List (S154), y_ = (y217 ++ l0) := ⟨_, rfl⟩
 replace H : (spec_Tighten.l0 k l0 l1 y220 (([] : List (S111))) 0) = some r := by first | (rw [hy220]; with_reducible exact H) | (have H2_ := (Option.bind_some _ _).symm.trans H; rw [hy220]; with_reducible exact H2_) | (have H2_ := (Option.bind_some _ _).symm.trans H; with_reducible exact H2_) | with_reducible exact H | (rw [hy220]; exact H) | exact H
 have Ny220 := zK hy220
 clear hy220
 obtain ⟨y223, hy223⟩ : ∃ y_ : List (S111), y_ = (([] : List (S111))) := ⟨_, rfl⟩
 replace H : (spec_Tighten.l0 k l0 l1 y220 y223 0) = some r := by first | (rw [hy223]; with_reducible exact H) | (have H2_ := (Option.bind_some _ _).symm.trans H; rw [hy223]; with_reducible exact H2_) | (have H2_ := (Option.bind_some _ _).symm.trans H; with_reducible exact H2_) | with_reducible exact H | (rw [hy223]; exact H) | exact H
 have Ny223 := zK hy223
 clear hy223
 have H' := zK H
 clear H
 go_enter Try.func64, Try.ntmps64
 go_wp2_with (first | ((with_reducible refine gate_dst (N := 12) rfl ?_); refine Kd.R_lit k154 _ 154 ?hg (N := 12) ?hd (xs := ([] : List (S154))) (inner := []) (ok := fun _ => True) (okp := fun _ => True) ?hr ?hp (fun _ hk => hk) trivial (Below.refl _ _) (Nat.le_refl _) (by simp) ?_; (case hd => rfl); (case hg => rfl); (case hr => first | (go_simp; done) | (go_simp; rfl)); (case hp => exact (Reps.none _ _)); intro v218 w4 ho5 hb hg_ hnew_; clear hg_ hnew_; (first | rw [← Ny217.out] at ho5 | (simp only [Int.reduceToNat] at ho5; rw [← Ny217.out] at ho5)); have n0_ := zK (Kd.R_lower ho5 (bZ (qB HB.out))); have n1_ := zK (bT (qB HB.out) hb); clear HB; have HO219 := n0_; have HB := n1_; clear n0_ n1_; clear hb ho5) | ((with_reducible refine gate_builtin (b := .append) (xs := #[.tmp 12, .tmp 13]) rfl ?_); at_builtin; refine Kd.R_append_rows k154 (w0 := w) w.heap.size rfl (.tmp 12) (.tmp 13) 94 154 (.agg #[(.int .i64 0), (.int .i64 0), (.int .i64 0)]) 24 rfl Try.underlying94 info154 rfl (by decide) (by omega) v218 y217 l0 _ _ _ (fun _ => True) (fun _ => False) rfl rfl ?aO ?aR (fun _ _ h => h) (fun _ h => h.elim) ?aF ?aB ?aS ?aL ?_; (case aR => exact Kd.qC (Kd.C_below HR0.out HB.out)); (case aB => exact (qB HB.out)); (case aF => exact (fun _ _ => trivial)); (case aO => exact (Kd.qR HO219.out)); (case aS => exact (bZ (qB HB.out))); (case aL => have := LMc3.out; omega); intro v221 w6 ho hb hg hat; rw [← Ny220.out] at ho; have n0_ := zK (hb); have n1_ := zK (ho); clear HB; clear HO219; have HB := n0_; have HO222 := n1_; clear n0_ n1_; clear ho hb hg hat) | ((with_reducible refine gate_dst (N := 15) rfl ?_); refine Kd.R_lit k111 _ 111 ?hg (N := 15) ?hd (xs := ([] : List (S111))) (inner := []) (ok := fun _ => True) (okp := fun _ => True) ?hr ?hp (fun _ hk => hk) trivial (Below.refl _ _) (Nat.le_refl _) (by simp) ?_; (case hd => rfl); (case hg => rfl); (case hr => first | (go_simp; done) | (go_simp; rfl)); (case hp => exact (Reps.none _ _)); intro v224 w7 ho8 hb hg_ hnew_; clear hg_ hnew_; (first | rw [← Ny223.out] at ho8 | (simp only [Int.reduceToNat] at ho8; rw [← Ny223.out] at ho8)); have n0_ := zK (Kd.R_below (Kd.qR HO222.out) hb); have n1_ := zK (Kd.R_lower ho8 (bZ (qB HB.out))); have n2_ := zK (bT (qB HB.out) hb); clear HO222; clear HB; have HO222 := n0_; have HO225 := n1_; have HB := n2_; clear n0_ n1_ n2_; clear hb ho8))
 go_loopg [5, 6, 7] k (fun kq v5 v6 v7 w' => ∃ (x5_1 : List (S154)) (x6_1 : List (S111)) (x7_1 : Int), v7 = .int .i64 x7_1 ∧ Aside0 (spec_Tighten.l0 kq l0 l1 x5_1 x6_1 x7_1 = some r) ∧ Aside0 (kq ≤ k) ∧ Aside0 (Kd.R k154 154 w' w.heap.size (fun _ => True) v5 x5_1) ∧ Aside0 (Kd.R k111 111 w' w.heap.size (fun _ => True) v6 x6_1) ∧ Aside0 (Below w.heap.size w w'))
 case atStart => exact ⟨(y220), (y223), (0), (by first | rfl | (simp; done) | (simp [*]; done)), H', ⟨Nat.le_refl _⟩, ⟨by exact Kd.qR HO222.out⟩, ⟨by exact Kd.qR HO225.out⟩, ⟨by exact qB HB.out⟩⟩
 case round =>
  clear H'
  try clear c1
  try clear p2
  try clear c3
  try clear c6
  obtain ⟨x5_1, x6_1, x7_1, rfl, HA, HK1, HO_5, HO_6, HB⟩ := hrel
  cases gk with
  | zero => exact absurd HA.out (by simp [spec_Tighten.l0])
  | succ k1 =>
   have H := HA.out
   clear HA
   simp only [spec_Tighten.l0] at H
   have HC9 := zK H
   clear H
   go_upto_region 4 with (fail)
   go_cut [27] (fun v27 wc => ∃ (kq : Nat) (x27_8 : Bool), v27 = .bool x27_8 ∧ Aside0 (spec_Tighten.j1 kq l0 l1 x5_1 x6_1 x7_1 x27_8 = some r) ∧ Aside0 (kq ≤ k1) ∧ Aside0 (Kd.R k154 154 wc w.heap.size (fun _ => True) u5 x5_1) ∧ Aside0 (Kd.R k111 111 wc w.heap.size (fun _ => True) u6 x6_1) ∧ Aside0 (Below w.heap.size w wc))
   case first =>
    have H := HC9.out
    clear HC9
    by_cases c10 : x7_1 < (l1.length : Int)
    rotate_left
    ·rw [if_neg c10] at H
     have c10b0 : decide (x7_1 < (l1.length : Int)) = false := decide_eq_false c10
     clear c10
     (first | rw [c10b0] | rw [c10b1] | (simp only [i64_w, i32_w]; rw [c10b0]) | skip)
     have H' := zK H
     clear H
     go_wp2
     go_meet
     case rel => exact ⟨_, (false), (by first | rfl | (simp; done) | (simp [*]; done)), H', ⟨by have := HK1.out; first | omega | exact Nat.le_refl _⟩, ⟨by exact Kd.qR HO_5.out⟩, ⟨by exact Kd.qR HO_6.out⟩, ⟨by exact qB HB.out⟩⟩
    rw [if_pos c10] at H
    have c10b0 : decide (x7_1 < (l1.length : Int)) = true := decide_eq_true c10
    clear c10
    (first | rw [c10b0] | rw [c10b1] | (simp only [i64_w, i32_w]; rw [c10b0]) | skip)
    replace H := Option.bind_eq_some_iff.mp H
    obtain ⟨t226, A110, H⟩ := H
    replace H : (if t226 = true then ((spec_AreThings.f k1 l1).bind fun t227 => (spec_Tighten.j1 k1 l0 l1 x5_1 x6_1 x7_1 t227)) else (spec_Tighten.j1 k1 l0 l1 x5_1 x6_1 x7_1 false)) = some r := H
    have A11 := zK A110
    clear A110
    by_cases c12 : t226 = true
    rotate_left
    ·replace c12 := Bool.eq_false_iff.mpr c12
     subst c12
     have H1 : (spec_Tighten.j1 k1 l0 l1 x5_1 x6_1 x7_1 false) = some r := by rw [if_neg (show ¬ (false = true) by decide)] at H; exact H
     clear H
     have H := H1
     clear H1
     have H' := zK H
     clear H
     go_wp2_with (first | (go_at_call 114; (with_reducible refine (spec_AreSlots.calls k1 _ _ l0 false _ ?side1 ?side2 A11.out).mono ?_); (case side1 => exact Kd.qC (Kd.C_below HR0.out HB.out)); (case side2 => exact HC0.out); rintro e w16 ⟨rfl, hb⟩; have n0_ := zK (Kd.R_below (Kd.qR HO_5.out) hb); have n1_ := zK (Kd.R_below (Kd.qR HO_6.out) hb); have n2_ := zK (bT (qB HB.out) hb); clear HO_5; clear HO_6; clear HB; have HO_5 := n0_; have HO_6 := n1_; have HB := n2_; clear n0_ n1_ n2_; (try clear hb); (try clear hb2); (try clear hk); (try clear hi)))
     go_meet
     case rel => exact ⟨_, (false), (by first | rfl | (simp; done) | (simp [*]; done)), H', ⟨by have := HK1.out; first | omega | exact Nat.le_refl _⟩, ⟨by exact Kd.qR HO_5.out⟩, ⟨by exact Kd.qR HO_6.out⟩, ⟨by exact qB HB.out⟩⟩
    subst c12
    have H1 : ((spec_AreThings.f k1 l1).bind fun t227 => (spec_Tighten.j1 k1 l0 l1 x5_1 x6_1 x7_1 t227)) = some r := by rw [if_pos rfl] at H; exact H
    clear H
    have H := H1
    clear H1
    replace H := Option.bind_eq_some_iff.mp H
    obtain ⟨t227, A130, H⟩ := H
    replace H : (spec_Tighten.j1 k1 l0 l1 x5_1 x6_1 x7_1 t227) = some r := H
    have A13 := zK A130
    clear A130
    have H' := zK H
    clear H
    go_wp2_with (first | (go_at_call 114; (with_reducible refine (spec_AreSlots.calls k1 _ _ l0 true _ ?side1 ?side2 A11.out).mono ?_); (case side1 => exact Kd.qC (Kd.C_below HR0.out HB.out)); (case side2 => exact HC0.out); rintro e w14 ⟨rfl, hb⟩; have n0_ := zK (Kd.R_below (Kd.qR HO_5.out) hb); have n1_ := zK (Kd.R_below (Kd.qR HO_6.out) hb); have n2_ := zK (bT (qB HB.out) hb); clear HO_5; clear HO_6; clear HB; have HO_5 := n0_; have HO_6 := n1_; have HB := n2_; clear n0_ n1_ n2_; (try clear hb); (try clear hb2); (try clear hk); (try clear hi)) | (go_at_call 115; (with_reducible refine (spec_AreThings.calls k1 _ _ l1 t227 _ ?side1 ?side2 A13.out).mono ?_); (case side1 => exact Kd.qC (Kd.C_below HR1.out HB.out)); (case side2 => exact HC1.out); rintro e w15 ⟨rfl, hb⟩; have n0_ := zK (Kd.R_below (Kd.qR HO_5.out) hb); have n1_ := zK (Kd.R_below (Kd.qR HO_6.out) hb); have n2_ := zK (bT (qB HB.out) hb); clear HO_5; clear HO_6; clear HB; have HO_5 := n0_; have HO_6 := n1_; have HB := n2_; clear n0_ n1_ n2_; (try clear hb); (try clear hb2); (try clear hk); (try clear hi)))
    go_meet
    case rel => exact ⟨_, (t227), (by first | rfl | (simp; done) | (simp [*]; done)), H', ⟨by have := HK1.out; first | omega | exact Nat.le_refl _⟩, ⟨by exact Kd.qR HO_5.out⟩, ⟨by exact Kd.qR HO_6.out⟩, ⟨by exact qB HB.out⟩⟩
   case rest =>
    clear HC9
    try clear c1
    try clear p2
    try clear c3
    try clear c6
    try clear c10
    try clear c10b0
    try clear c12
    try clear p2
    obtain ⟨kq, x27_8, rfl, HA, HJ8, HO_5, HO_6, HB⟩ := hcut
    cases kq with
    | zero => exact absurd HA.out (by simp [spec_Tighten.j1])
    | succ kj8 =>
     have H := HA.out
     clear HA
     simp only [spec_Tighten.j1] at H
     by_cases c17 : x27_8 = true
     rotate_left
     ·replace c17 := Bool.eq_false_iff.mpr c17
      subst c17
      have H1 : ((spec_PutAll.f kj8 x5_1 x6_1).bind fun bt237 => (if (bt237.2.length : Int) > 0 then ((some (([] : List (S154)) : List (S154))).bind fun y243 => (if y243.length + l0.length < 5864062014805 then (some (y243 ++ l0)) else (none))) else (some bt237.1))) = some r := by rw [if_neg (show ¬ (false = true) by decide)] at H; exact H
      clear H
      have H := H1
      clear H1
      replace H := Option.bind_eq_some_iff.mp H
      obtain ⟨⟨t237, t238⟩, A280, H⟩ := H
      replace H : (if (t238.length : Int) > 0 then ((some (([] : List (S154)) : List (S154))).bind fun y243 => (if y243.length + l0.length < 5864062014805 then (some (y243 ++ l0)) else (none))) else (some t237)) = some r := H
      have A28 := zK A280
      clear A280
      by_cases c29 : (t238.length : Int) > 0
      rotate_left
      ·rw [if_neg c29] at H
       have c29b0 : decide (0 < (t238.length : Int)) = false := decide_eq_false c29
       have c29b1 : decide (0 < t238.length) = false := decide_eq_false (by omega)
       clear c29
       obtain rfl := Option.some.inj H
       obtain ⟨Ao38, co38, eo38⟩ := Kd.R_slice HO_5.out
       subst eo38
       obtain ⟨Ao39, co39, eo39⟩ := Kd.R_slice HO_6.out
       subst eo39
       go_wp2_with (first | ((with_reducible refine gate_callee (f := 117) rfl ?_); refine goesL_ (some 52) rfl rfl Try.func117 (by kernel_rfl) rfl #[.slice Ao38 x5_1.length co38, .slice Ao39 x6_1.length co39] rfl (by (try simp only [List.map_toArray, List.map_cons, List.map_nil]); first | done | rfl | (simp only [List.length_drop, List.length_take]; rfl)) ?_; (with_reducible refine (spec_PutAll.calls kj8 _ _ x5_1 _ _ x6_1 t237 t238 _ ?side1 ?side2 ?side3 ?side4 A28.out).mono ?_); (case side1 => repeat (first | exact (Kd.R_reads' HO_5.out).2.2 | (with_reducible refine Kd.CA ?_ _) | (with_reducible refine Kd.CN ?_ _) | (with_reducible refine Kd.CD ?_))); (case side2 => exact (Kd.R_reads' HO_5.out).2.1); (case side3 => repeat (first | exact (Kd.R_reads' HO_6.out).2.2 | (with_reducible refine Kd.CA ?_ _) | (with_reducible refine Kd.CN ?_ _) | (with_reducible refine Kd.CD ?_))); (case side4 => exact (Kd.R_reads' HO_6.out).2.1); rintro e w40 ⟨v239, v241, rfl, ho0, ho1, hb⟩; refine ⟨_, rfl, ?_⟩; have n0_ := zK (Kd.R_elder' (Kd.qR HO_5.out) (Kd.R_base ho0) hb); have n1_ := zK (Kd.R_below (Kd.qR HO_6.out) hb); have n2_ := zK (Kd.R_lower (Kd.R_new' ho0 (Kd.R_lt (Kd.qR HO_5.out))) (bZ (qB HB.out))); have n3_ := zK (Kd.R_lower ho1 (bZ (qB HB.out))); have n4_ := zK (bT (qB HB.out) hb); clear HO_5; clear HO_6; clear HB; have HO_5 := n0_; have HO_6 := n1_; have HO240 := n2_; have HO242 := n3_; have HB := n4_; clear n0_ n1_ n2_ n3_ n4_; (try clear hb); (try clear hb2); (try clear hk); (try clear hi); (try clear ho0); (try clear ho1); obtain ⟨Ao41, co41, eo41⟩ := Kd.R_slice HO242.out; subst eo41))
       go_ret
       exact ⟨_, by first | rfl | (simp [errW_none, errW_some] <;> rfl) | (simp [*, errW_none, errW_some] <;> rfl), by (with_reducible repeat (first | apply Kd.RA | apply Kd.RN | apply Kd.RD)); exact Kd.R_mono HO240.out (fun _ hk => trivial), by exact qB HB.out⟩
      rw [if_pos c29] at H
      have c29b0 : decide (0 < (t238.length : Int)) = true := decide_eq_true c29
      have c29b1 : decide (0 < t238.length) = true := decide_eq_true (by omega)
      clear c29
      obtain ⟨y243, hy243⟩ : ∃ y_ : List (S154), y_ = (([] : List (S154))) := ⟨_, rfl⟩
      replace H : (if y243.length + l0.length < 5864062014805 then (some (y243 ++ l0)) else (none)) = some r := by first | (rw [hy243]; with_reducible exact H) | (have H2_ := (Option.bind_some _ _).symm.trans H; rw [hy243]; with_reducible exact H2_) | (have H2_ := (Option.bind_some _ _).symm.trans H; with_reducible exact H2_) | with_reducible exact H | (rw [hy243]; exact H) | exact H
      have Ny243 := zK hy243
      clear hy243
      by_cases c30 : y243.length + l0.length < 5864062014805
      rotate_left
      ·rw [if_neg c30] at H
       exact absurd H (by simp)
      rw [if_pos c30] at H
      have LMc30 := zK c30
      clear c30
      obtain ⟨y246, hy246⟩ : ∃ y_ : List (S154), y_ = (y243 ++ l0) := ⟨_, rfl⟩
      replace H : (some y246) = some r := by first | (rw [hy246]; with_reducible exact H) | (have H2_ := (Option.bind_some _ _).symm.trans H; rw [hy246]; with_reducible exact H2_) | (have H2_ := (Option.bind_some _ _).symm.trans H; with_reducible exact H2_) | with_reducible exact H | (rw [hy246]; exact H) | exact H
      have Ny246 := zK hy246
      clear hy246
      obtain rfl := Option.some.inj H
      obtain ⟨Ao31, co31, eo31⟩ := Kd.R_slice HO_5.out
      subst eo31
      obtain ⟨Ao32, co32, eo32⟩ := Kd.R_slice HO_6.out
      subst eo32
      go_wp2_with (first | ((with_reducible refine gate_callee (f := 117) rfl ?_); refine goesL_ (some 52) rfl rfl Try.func117 (by kernel_rfl) rfl #[.slice Ao31 x5_1.length co31, .slice Ao32 x6_1.length co32] rfl (by (try simp only [List.map_toArray, List.map_cons, List.map_nil]); first | done | rfl | (simp only [List.length_drop, List.length_take]; rfl)) ?_; (with_reducible refine (spec_PutAll.calls kj8 _ _ x5_1 _ _ x6_1 t237 t238 _ ?side1 ?side2 ?side3 ?side4 A28.out).mono ?_); (case side1 => repeat (first | exact (Kd.R_reads' HO_5.out).2.2 | (with_reducible refine Kd.CA ?_ _) | (with_reducible refine Kd.CN ?_ _) | (with_reducible refine Kd.CD ?_))); (case side2 => exact (Kd.R_reads' HO_5.out).2.1); (case side3 => repeat (first | exact (Kd.R_reads' HO_6.out).2.2 | (with_reducible refine Kd.CA ?_ _) | (with_reducible refine Kd.CN ?_ _) | (with_reducible refine Kd.CD ?_))); (case side4 => exact (Kd.R_reads' HO_6.out).2.1); rintro e w33 ⟨v239, v241, rfl, ho0, ho1, hb⟩; refine ⟨_, rfl, ?_⟩; have n0_ := zK (Kd.R_elder' (Kd.qR HO_5.out) (Kd.R_base ho0) hb); have n1_ := zK (Kd.R_below (Kd.qR HO_6.out) hb); have n2_ := zK (Kd.R_lower (Kd.R_new' ho0 (Kd.R_lt (Kd.qR HO_5.out))) (bZ (qB HB.out))); have n3_ := zK (Kd.R_lower ho1 (bZ (qB HB.out))); have n4_ := zK (bT (qB HB.out) hb); clear HO_5; clear HO_6; clear HB; have HO_5 := n0_; have HO_6 := n1_; have HO240 := n2_; have HO242 := n3_; have HB := n4_; clear n0_ n1_ n2_ n3_ n4_; (try clear hb); (try clear hb2); (try clear hk); (try clear hi); (try clear ho0); (try clear ho1); obtain ⟨Ao34, co34, eo34⟩ := Kd.R_slice HO242.out; subst eo34) | ((with_reducible refine gate_dst (N := 58) rfl ?_); refine Kd.R_lit k154 _ 154 ?hg (N := 58) ?hd (xs := ([] : List (S154))) (inner := []) (ok := fun _ => True) (okp := fun _ => True) ?hr ?hp (fun _ hk => hk) trivial (Below.refl _ _) (Nat.le_refl _) (by simp) ?_; (case hd => rfl); (case hg => rfl); (case hr => first | (go_simp; done) | (go_simp; rfl)); (case hp => exact (Reps.none _ _)); intro v244 w35 ho36 hb hg_ hnew_; clear hg_ hnew_; (first | rw [← Ny243.out] at ho36 | (simp only [Int.reduceToNat] at ho36; rw [← Ny243.out] at ho36)); have n0_ := zK (Kd.R_elder' (Kd.qR HO_5.out) (Kd.R_base ho36) hb); have n1_ := zK (Kd.R_below (Kd.qR HO_6.out) hb); have n2_ := zK (Kd.R_elder' (Kd.qR HO240.out) (Kd.R_base ho36) hb); have n3_ := zK (Kd.R_below (Kd.qR HO242.out) hb); have n4_ := zK (Kd.R_lower (Kd.R_new' (Kd.R_new' ho36 (Kd.R_lt (Kd.qR HO_5.out))) (Kd.R_lt (Kd.qR HO240.out))) (bZ (qB HB.out))); have n5_ := zK (bT (qB HB.out) hb); clear HO_5; clear HO_6; clear HO240; clear HO242; clear HB; have HO_5 := n0_; have HO_6 := n1_; have HO240 := n2_; have HO242 := n3_; have HO245 := n4_; have HB := n5_; clear n0_ n1_ n2_ n3_ n4_ n5_; clear hb ho36) | ((with_reducible refine gate_builtin (b := .append) (xs := #[.tmp 58, .tmp 59]) rfl ?_); at_builtin; refine Kd.R_append_rows k154 (w0 := w) w.heap.size rfl (.tmp 58) (.tmp 59) 94 154 (.agg #[(.int .i64 0), (.int .i64 0), (.int .i64 0)]) 24 rfl Try.underlying94 info154 rfl (by decide) (by omega) v244 y243 l0 _ _ _ (fun k_ => some k_ ≠ (.slice Ao31 x5_1.length co31 : Value).ownBlock ∧ some k_ ≠ (v239 : Value).ownBlock) (fun _ => False) rfl rfl ?aO ?aR (fun _ _ h => h) (fun _ h => h.elim) ?aF ?aB ?aS ?aL ?_; (case aR => exact Kd.qC (Kd.C_below HR0.out HB.out)); (case aB => exact (qB HB.out)); (case aF => exact (fun k_ hk => ⟨Kd.fresh' (Kd.R_lt (Kd.qR HO_5.out)) k_ hk, Kd.fresh' (Kd.R_lt (Kd.qR HO240.out)) k_ hk⟩)); (case aO => exact (by (with_reducible repeat (first | apply Kd.RA | apply Kd.RN | apply Kd.RD)); exact Kd.R_mono HO245.out (fun _ hk => ⟨hk.1.2, hk.2⟩))); (case aS => exact (bZ (qB HB.out))); (case aL => have := LMc30.out; omega); intro v247 w37 ho hb hg hat; rw [← Ny246.out] at ho; have n0_ := zK (Kd.R_after (ok := (fun k_ => some k_ ≠ (v239 : Value).ownBlock)) (by (with_reducible repeat (first | apply Kd.RA | apply Kd.RN | apply Kd.RD)); exact Kd.R_mono HO_5.out (fun _ hk => ⟨hk.1.2, hk.2⟩)) hg hat); have n1_ := zK (Kd.R_over' (Kd.qR HO_6.out) (Kd.R_typed (Kd.qR HO245.out)) (by decide) hg); have n2_ := zK (Kd.R_after (ok := (fun k_ => some k_ ≠ (.slice Ao31 x5_1.length co31 : Value).ownBlock)) (by (with_reducible repeat (first | apply Kd.RA | apply Kd.RN | apply Kd.RD)); exact Kd.R_mono HO240.out (fun _ hk => ⟨hk.1.2, hk.2⟩)) hg hat); have n3_ := zK (Kd.R_over' (Kd.qR HO242.out) (Kd.R_typed (Kd.qR HO245.out)) (by decide) hg); have n4_ := zK (hb); have n5_ := zK (ho); clear HO_5; clear HO_6; clear HO240; clear HO242; clear HB; clear HO245; have HO_5 := n0_; have HO_6 := n1_; have HO240 := n2_; have HO242 := n3_; have HB := n4_; have HO248 := n5_; clear n0_ n1_ n2_ n3_ n4_ n5_; clear ho hb hg hat))
      go_ret
      exact ⟨_, by first | rfl | (simp [errW_none, errW_some] <;> rfl) | (simp [*, errW_none, errW_some] <;> rfl), by (with_reducible repeat (first | apply Kd.RA | apply Kd.RN | apply Kd.RD)); exact Kd.R_mono HO248.out (fun _ hk => trivial), by exact qB HB.out⟩
     subst c17
     have H1 : (if 0 ≤ x7_1 then (if x7_1 < (l1.length : Int) then ((spec_TakeOut.f kj8 x5_1 ((rd_T111 l1 x7_1).f0)).bind fun bt229 => (if bt229.2 = true then (if x6_1.length < 3518437208883 then (spec_Tighten.l0 kj8 l0 l1 bt229.1 (x6_1 ++ [(⟨(rd_T111 l1 x7_1).f0, (rd_T111 l1 x7_1).f1, (rd_T111 l1 x7_1).f2, (rd_T111 l1 x7_1).f3, (rd_T111 l1 x7_1).f4⟩ : S111)]) (wrap64 (x7_1 + 1))) else (none)) else (spec_Tighten.l0 kj8 l0 l1 bt229.1 x6_1 (wrap64 (x7_1 + 1))))) else (none)) else (none)) = some r := by rw [if_pos rfl] at H; exact H
     clear H
     have H := H1
     clear H1
     by_cases c18 : 0 ≤ x7_1
     rotate_left
     ·rw [if_neg c18] at H
      exact absurd H (by simp)
     rw [if_pos c18] at H
     have c18b0 : decide (0 ≤ x7_1) = true := decide_eq_true c18
     clear c18
     by_cases c19 : x7_1 < (l1.length : Int)
     rotate_left
     ·rw [if_neg c19] at H
      exact absurd H (by simp)
     rw [if_pos c19] at H
     have c19b0 : decide (x7_1 < (l1.length : Int)) = true := decide_eq_true c19
     clear c19
     replace H := Option.bind_eq_some_iff.mp H
     obtain ⟨⟨t229, t230⟩, A200, H⟩ := H
     replace H : (if t230 = true then (if x6_1.length < 3518437208883 then (spec_Tighten.l0 kj8 l0 l1 t229 (x6_1 ++ [(⟨(rd_T111 l1 x7_1).f0, (rd_T111 l1 x7_1).f1, (rd_T111 l1 x7_1).f2, (rd_T111 l1 x7_1).f3, (rd_T111 l1 x7_1).f4⟩ : S111)]) (wrap64 (x7_1 + 1))) else (none)) else (spec_Tighten.l0 kj8 l0 l1 t229 x6_1 (wrap64 (x7_1 + 1)))) = some r := H
     have A20 := zK A200
     clear A200
     by_cases c21 : t230 = true
     rotate_left
     ·replace c21 := Bool.eq_false_iff.mpr c21
      subst c21
      have H1 : (spec_Tighten.l0 kj8 l0 l1 t229 x6_1 (wrap64 (x7_1 + 1))) = some r := by rw [if_neg (show ¬ (false = true) by decide)] at H; exact H
      clear H
      have H := H1
      clear H1
      have H' := zK H
      clear H
      have p228 : 0 ≤ (x7_1 : Int) := oD (by first | (with_reducible assumption) | assumption)
      have q228 : x7_1 < (l1.length : Int) := oD (by first | (with_reducible assumption) | assumption)
      obtain ⟨ad228, e228, hx228_0, hx228_1, hx228_2, hx228_3, hx228_4⟩ := at_T111 HR1.out x7_1 p228 q228
      cases e228
      replace hx228_0 := (HB.out.cell (bL w hx228_0)).trans hx228_0
      replace hx228_1 := (HB.out.cell (bL w hx228_1)).trans hx228_1
      replace hx228_2 := (HB.out.cell (bL w hx228_2)).trans hx228_2
      replace hx228_3 := (HB.out.cell (bL w hx228_3)).trans hx228_3
      replace hx228_4 := (HB.out.cell (bL w hx228_4)).trans hx228_4
      replace p228 := eq_true p228
      replace q228 := eq_true q228
      obtain ⟨Ao26, co26, eo26⟩ := Kd.R_slice HO_5.out
      subst eo26
      go_wp2_with (first | ((with_reducible refine gate_callee (f := 116) rfl ?_); refine goesL_ (some 37) rfl rfl Try.func116 (by kernel_rfl) rfl #[.slice Ao26 x5_1.length co26, .int .i64 ((rd_T111 l1 x7_1).f0)] rfl (by (try simp only [List.map_toArray, List.map_cons, List.map_nil]); first | done | rfl | (simp only [List.length_drop, List.length_take]; rfl)) ?_; (with_reducible refine (spec_TakeOut.calls kj8 _ _ x5_1 ((rd_T111 l1 x7_1).f0) t229 false _ ?side1 ?side2 A20.out).mono ?_); (case side1 => repeat (first | exact (Kd.R_reads' HO_5.out).2.2 | (with_reducible refine Kd.CA ?_ _) | (with_reducible refine Kd.CN ?_ _) | (with_reducible refine Kd.CD ?_))); (case side2 => exact (Kd.R_reads' HO_5.out).2.1); rintro e w27 ⟨v231, rfl, ho0, hb⟩; refine ⟨_, rfl, ?_⟩; have n0_ := zK (Kd.R_elder' (Kd.qR HO_5.out) (Kd.R_base ho0) hb); have n1_ := zK (Kd.R_below (Kd.qR HO_6.out) hb); have n2_ := zK (Kd.R_lower (Kd.R_new' ho0 (Kd.R_lt (Kd.qR HO_5.out))) (bZ (qB HB.out))); have n3_ := zK (bT (qB HB.out) hb); clear HO_5; clear HO_6; clear HB; have HO_5 := n0_; have HO_6 := n1_; have HO232 := n2_; have HB := n3_; clear n0_ n1_ n2_ n3_; (try clear hb); (try clear hb2); (try clear hk); (try clear hi); (try clear ho0)))
      go_roundg kj8
      case measure => have := HK1.out; have := HJ8.out; omega
      case rel => exact ⟨(t229), (x6_1), (wrap64 (x7_1 + 1)), (by first | rfl | (simp; done) | (simp [*]; done)), H', ⟨by have := HK1.out; have := HJ8.out; omega⟩, ⟨by (with_reducible repeat (first | apply Kd.RA | apply Kd.RN | apply Kd.RD)); exact Kd.R_mono HO232.out (fun _ hk => trivial)⟩, ⟨by exact Kd.qR HO_6.out⟩, ⟨by exact qB HB.out⟩⟩
     subst c21
     have H1 : (if x6_1.length < 3518437208883 then (spec_Tighten.l0 kj8 l0 l1 t229 (x6_1 ++ [(⟨(rd_T111 l1 x7_1).f0, (rd_T111 l1 x7_1).f1, (rd_T111 l1 x7_1).f2, (rd_T111 l1 x7_1).f3, (rd_T111 l1 x7_1).f4⟩ : S111)]) (wrap64 (x7_1 + 1))) else (none)) = some r := by rw [if_pos rfl] at H; exact H
     clear H
     have H := H1
     clear H1
     by_cases c22 : x6_1.length < 3518437208883
     rotate_left
     ·rw [if_neg c22] at H
      exact absurd H (by simp)
     rw [if_pos c22] at H
     have LMc22 := zK c22
     clear c22
     obtain ⟨y234, hy234⟩ : ∃ y_ : List (S111), y_ = (x6_1 ++ [(⟨(rd_T111 l1 x7_1).f0, (rd_T111 l1 x7_1).f1, (rd_T111 l1 x7_1).f2, (rd_T111 l1 x7_1).f3, (rd_T111 l1 x7_1).f4⟩ : S111)]) := ⟨_, rfl⟩
     replace H : (spec_Tighten.l0 kj8 l0 l1 t229 y234 (wrap64 (x7_1 + 1))) = some r := by first | (rw [hy234]; with_reducible exact H) | (have H2_ := (Option.bind_some _ _).symm.trans H; rw [hy234]; with_reducible exact H2_) | (have H2_ := (Option.bind_some _ _).symm.trans H; with_reducible exact H2_) | with_reducible exact H | (rw [hy234]; exact H) | exact H
     have Ny234 := zK hy234
     clear hy234
     have H' := zK H
     clear H
     have p228 : 0 ≤ (x7_1 : Int) := oD (by first | (with_reducible assumption) | assumption)
     have q228 : x7_1 < (l1.length : Int) := oD (by first | (with_reducible assumption) | assumption)
     obtain ⟨ad228, e228, hx228_0, hx228_1, hx228_2, hx228_3, hx228_4⟩ := at_T111 HR1.out x7_1 p228 q228
     cases e228
     replace hx228_0 := (HB.out.cell (bL w hx228_0)).trans hx228_0
     replace hx228_1 := (HB.out.cell (bL w hx228_1)).trans hx228_1
     replace hx228_2 := (HB.out.cell (bL w hx228_2)).trans hx228_2
     replace hx228_3 := (HB.out.cell (bL w hx228_3)).trans hx228_3
     replace hx228_4 := (HB.out.cell (bL w hx228_4)).trans hx228_4
     replace p228 := eq_true p228
     replace q228 := eq_true q228
     obtain ⟨Ao23, co23, eo23⟩ := Kd.R_slice HO_5.out
     subst eo23
     go_wp2_with (first | ((with_reducible refine gate_callee (f := 116) rfl ?_); refine goesL_ (some 37) rfl rfl Try.func116 (by kernel_rfl) rfl #[.slice Ao23 x5_1.length co23, .int .i64 ((rd_T111 l1 x7_1).f0)] rfl (by (try simp only [List.map_toArray, List.map_cons, List.map_nil]); first | done | rfl | (simp only [List.length_drop, List.length_take]; rfl)) ?_; (with_reducible refine (spec_TakeOut.calls kj8 _ _ x5_1 ((rd_T111 l1 x7_1).f0) t229 true _ ?side1 ?side2 A20.out).mono ?_); (case side1 => repeat (first | exact (Kd.R_reads' HO_5.out).2.2 | (with_reducible refine Kd.CA ?_ _) | (with_reducible refine Kd.CN ?_ _) | (with_reducible refine Kd.CD ?_))); (case side2 => exact (Kd.R_reads' HO_5.out).2.1); rintro e w24 ⟨v231, rfl, ho0, hb⟩; refine ⟨_, rfl, ?_⟩; have n0_ := zK (Kd.R_elder' (Kd.qR HO_5.out) (Kd.R_base ho0) hb); have n1_ := zK (Kd.R_below (Kd.qR HO_6.out) hb); have n2_ := zK (Kd.R_lower (Kd.R_new' ho0 (Kd.R_lt (Kd.qR HO_5.out))) (bZ (qB HB.out))); have n3_ := zK (bT (qB HB.out) hb); clear HO_5; clear HO_6; clear HB; have HO_5 := n0_; have HO_6 := n1_; have HO232 := n2_; have HB := n3_; clear n0_ n1_ n2_ n3_; (try clear hb); (try clear hb2); (try clear hk); (try clear hi); (try clear ho0); have p233 : 0 ≤ (x7_1 : Int) := oD (by first | (with_reducible assumption) | assumption); have q233 : x7_1 < (l1.length : Int) := oD (by first | (with_reducible assumption) | assumption); obtain ⟨ad233, e233, hx233_0, hx233_1, hx233_2, hx233_3, hx233_4⟩ := at_T111 HR1.out x7_1 p233 q233; obtain rfl : ad228 = ad233 := (by injection e233); replace hx233_0 := (HB.out.cell (bL w hx233_0)).trans hx233_0; replace hx233_1 := (HB.out.cell (bL w hx233_1)).trans hx233_1; replace hx233_2 := (HB.out.cell (bL w hx233_2)).trans hx233_2; replace hx233_3 := (HB.out.cell (bL w hx233_3)).trans hx233_3; replace hx233_4 := (HB.out.cell (bL w hx233_4)).trans hx233_4; replace p233 := eq_true p233; replace q233 := eq_true q233) | ((with_reducible refine gate_builtin (b := .append) (xs := #[.tmp 42, .tmp 47]) rfl ?_); at_builtin; refine Kd.R_append k111 (w0 := w) w.heap.size rfl (.tmp 42) (.tmp 47) 97 111 (.agg #[(.int .i64 0), (.int .i64 0), (.int .i64 0), (.int .i64 0), (.int .i64 0)]) 40 rfl Try.underlying97 info111 rfl (by decide) (by omega) u6 x6_1 (⟨(rd_T111 l1 x7_1).f0, (rd_T111 l1 x7_1).f1, (rd_T111 l1 x7_1).f2, (rd_T111 l1 x7_1).f3, (rd_T111 l1 x7_1).f4⟩ : S111) [.int .i64 ((rd_T111 l1 x7_1).f0), .int .i64 ((rd_T111 l1 x7_1).f1), .int .i64 ((rd_T111 l1 x7_1).f2), .int .i64 ((rd_T111 l1 x7_1).f3), .int .i64 ((rd_T111 l1 x7_1).f4)] (fun _ => True) (fun _ => False) rfl rfl ?aP (fun _ hk => hk.elim) ?aF ?aO ?aB ?aS ?aL ?_; (case aP => exact k111_mkM _ _ _ (⟨(rd_T111 l1 x7_1).f0, (rd_T111 l1 x7_1).f1, (rd_T111 l1 x7_1).f2, (rd_T111 l1 x7_1).f3, (rd_T111 l1 x7_1).f4⟩ : S111)); (case aB => exact (qB HB.out)); (case aF => exact (fun _ _ => trivial)); (case aO => exact (Kd.qR HO_6.out)); (case aS => exact (bZ (qB HB.out))); (case aL => have := LMc22.out; omega); intro v235 w25 ho hb hg hat; rw [← Ny234.out] at ho; have n0_ := zK (Kd.R_over' (Kd.qR HO_5.out) (Kd.R_typed (Kd.qR HO_6.out)) (by decide) hg); have n1_ := zK (Kd.R_over' (Kd.qR HO232.out) (Kd.R_typed (Kd.qR HO_6.out)) (by decide) hg); have n2_ := zK (hb); have n3_ := zK (ho); clear HO_5; clear HO232; clear HB; clear HO_6; have HO_5 := n0_; have HO232 := n1_; have HB := n2_; have HO236 := n3_; clear n0_ n1_ n2_ n3_; clear ho hb hg hat))
     go_roundg kj8
     case measure => have := HK1.out; have := HJ8.out; omega
     case rel => exact ⟨(t229), (y234), (wrap64 (x7_1 + 1)), (by first | rfl | (simp; done) | (simp [*]; done)), H', ⟨by have := HK1.out; have := HJ8.out; omega⟩, ⟨by (with_reducible repeat (first | apply Kd.RA | apply Kd.RN | apply Kd.RD)); exact Kd.R_mono HO232.out (fun _ hk => trivial)⟩, ⟨by exact Kd.qR HO236.out⟩, ⟨by exact qB HB.out⟩⟩
/-! ### laws_toSlot: function 118 -/
def laws_toSlot.f (a0_0 : Int) (a0_1 : Int) (a0_2 : Int) : Option (Int × Int × Int) := some (a0_0, a0_1, a0_2)
set_option maxHeartbeats 8000000 in
set_option maxRecDepth 100000 in
theorem laws_toSlot.calls (a0_0 : Int) (a0_1 : Int) (a0_2 : Int) (r1 : Int) (r2 : Int) (r3 : Int) (w : World) (h : laws_toSlot.f a0_0 a0_1 a0_2 = some (r1, r2, r3)) :
  Calls Try.prog 118 #[.agg #[.int .i64 a0_0, .int .i64 a0_1, .int .i64 a0_2]] w fun e w' => e = .returned (.agg #[.int .i64 r1, .int .i64 r2, .int .i64 r3]) ∧ Below w.heap.size w w' := by
 have hu156 := Try.underlying156
 have hu154 := Try.underlying154
 have HB := zK (Below.refl w.heap.size w)
 have H : (some (a0_0, a0_1, a0_2)) = some (r1, r2, r3) := h
 clear h
 simp only [Option.some.injEq, Prod.mk.injEq] at H
 obtain ⟨rfl, rfl, rfl⟩ := H
 go_enter Try.func118, Try.ntmps118
 go_wp2_with (first | ((with_reducible refine gate_dst (N := 1) rfl ?_); refine box_event ?hg (N := 1) ?hd (cs := #[.int .i64 a0_0, .int .i64 a0_1, .int .i64 a0_2]) (t := 156) ?hr ?_; (case hd => rfl); (case hg => rfl); (case hr => first | (go_simp; done) | (go_simp; rfl)); intro gb249 hg w2 hbox hb; have n0_ := zK (bT (qB HB.out) hb); have n1_ := zK (hbox); have n2_ := zK ((by rw [hg]; exact (bZ (qB HB.out)) : w.heap.size ≤ gb249)); have n3_ := zK ((by rw [hg]; exact (bZ (qB HB.out)) : w.heap.size ≤ gb249)); clear HB; have HB := n0_; have BK249 := n1_; have GW249 := n2_; have GE249 := n3_; clear n0_ n1_ n2_ n3_; clear hb hbox hg) | ((with_reducible refine gate_dst (N := 2) rfl ?_); refine box_event ?hg (N := 2) ?hd (cs := #[.int .i64 0, .int .i64 0, .int .i64 0]) (t := 154) ?hr ?_; (case hd => rfl); (case hg => rfl); (case hr => first | (go_simp; done) | (go_simp; rfl)); intro gb250 hg w3 hbox hb; have n0_ := zK (bB (g := gb249) (o := .cells #[.int .i64 a0_0, .int .i64 a0_1, .int .i64 a0_2] 156 (0, 0)) (qK BK249.out) hb); have n1_ := zK (bT (by repeat (first | (with_reducible first | exact HB.out | apply bA | apply bN | apply b1 | refine bS ?_ GE249.out) | exact HB.out)) hb); have n2_ := zK (hbox); have n3_ := zK ((by rw [hg]; exact (bZ (by repeat (first | (with_reducible first | exact HB.out | apply bA | apply bN | apply b1 | refine bS ?_ GE249.out) | exact HB.out))) : w.heap.size ≤ gb250)); have n4_ := zK ((by rw [hg]; exact (bZ (by repeat (first | (with_reducible first | exact HB.out | apply bA | apply bN | apply b1 | refine bS ?_ GE249.out) | exact HB.out))) : w.heap.size ≤ gb250)); have n5_ := zK ((by rw [hg]; exact Nat.ne_of_lt (blk_lt (g := gb249) (o := .cells #[.int .i64 a0_0, .int .i64 a0_1, .int .i64 a0_2] 156 (0, 0)) (qK BK249.out)) : gb249 ≠ gb250)); have n6_ := zK ((by rw [hg]; exact Nat.ne_of_gt (blk_lt (g := gb249) (o := .cells #[.int .i64 a0_0, .int .i64 a0_1, .int .i64 a0_2] 156 (0, 0)) (qK BK249.out)) : gb250 ≠ gb249)); clear BK249; clear HB; have BK249 := n0_; have HB := n1_; have BK250 := n2_; have GW250 := n3_; have GE250 := n4_; have NB249_250 := n5_; have NB250_249 := n6_; clear n0_ n1_ n2_ n3_ n4_ n5_ n6_; clear hb hbox hg) | ((with_reducible refine gate_dst (N := 3) rfl ?_); refine box_event ?hg (N := 3) ?hd (cs := #[.int .i64 0, .int .i64 0, .int .i64 0]) (t := 154) ?hr ?_; (case hd => rfl); (case hg => rfl); (case hr => first | (go_simp; done) | (go_simp; rfl)); intro gb251 hg w4 hbox hb; have n0_ := zK (bB (g := gb249) (o := .cells #[.int .i64 a0_0, .int .i64 a0_1, .int .i64 a0_2] 156 (0, 0)) (qK BK249.out) hb); have n1_ := zK (bB (g := gb250) (o := .cells #[.int .i64 0, .int .i64 0, .int .i64 0] 154 (0, 0)) (qK BK250.out) hb); have n2_ := zK (bT (by repeat (first | (with_reducible first | exact HB.out | apply bA | apply bN | apply b1 | refine bS ?_ GE249.out | refine bS ?_ GE250.out) | exact HB.out)) hb); have n3_ := zK (hbox); have n4_ := zK ((by rw [hg]; exact (bZ (by repeat (first | (with_reducible first | exact HB.out | apply bA | apply bN | apply b1 | refine bS ?_ GE249.out | refine bS ?_ GE250.out) | exact HB.out))) : w.heap.size ≤ gb251)); have n5_ := zK ((by rw [hg]; exact (bZ (by repeat (first | (with_reducible first | exact HB.out | apply bA | apply bN | apply b1 | refine bS ?_ GE249.out | refine bS ?_ GE250.out) | exact HB.out))) : w.heap.size ≤ gb251)); have n6_ := zK ((by rw [hg]; exact Nat.ne_of_lt (blk_lt (g := gb249) (o := .cells #[.int .i64 a0_0, .int .i64 a0_1, .int .i64 a0_2] 156 (0, 0)) (qK BK249.out)) : gb249 ≠ gb251)); have n7_ := zK ((by rw [hg]; exact Nat.ne_of_gt (blk_lt (g := gb249) (o := .cells #[.int .i64 a0_0, .int .i64 a0_1, .int .i64 a0_2] 156 (0, 0)) (qK BK249.out)) : gb251 ≠ gb249)); have n8_ := zK ((by rw [hg]; exact Nat.ne_of_lt (blk_lt (g := gb250) (o := .cells #[.int .i64 0, .int .i64 0, .int .i64 0] 154 (0, 0)) (qK BK250.out)) : gb250 ≠ gb251)); have n9_ := zK ((by rw [hg]; exact Nat.ne_of_gt (blk_lt (g := gb250) (o := .cells #[.int .i64 0, .int .i64 0, .int .i64 0] 154 (0, 0)) (qK BK250.out)) : gb251 ≠ gb250)); clear BK249; clear BK250; clear HB; have BK249 := n0_; have BK250 := n1_; have HB := n2_; have BK251 := n3_; have GW251 := n4_; have GE251 := n5_; have NB249_251 := n6_; have NB251_249 := n7_; have NB250_251 := n8_; have NB251_250 := n9_; clear n0_ n1_ n2_ n3_ n4_ n5_ n6_ n7_ n8_ n9_; clear hb hbox hg; have hnb5 := NB249_250.out; have hnc5 := NB250_249.out; have hnb6 := NB249_251.out; have hnc6 := NB251_249.out; have hcz7_0 : w4.cell? ⟨gb249, 0, none⟩ = some (.int .i64 a0_0) := (bc BK249.out 0).trans rfl; have hcz7_1 : w4.cell? ⟨gb249, 1, none⟩ = some (.int .i64 a0_1) := (bc BK249.out 1).trans rfl; have hcz7_2 : w4.cell? ⟨gb249, 2, none⟩ = some (.int .i64 a0_2) := (bc BK249.out 2).trans rfl; have hfz7_0 := bf BK249.out 0; have hfz7_1 := bf BK249.out 1; have hfz7_2 := bf BK249.out 2; have hnb8 := NB251_250.out; have hnc8 := NB250_251.out; have hcz9_0 : w4.cell? ⟨gb251, 0, none⟩ = some (.int .i64 0) := (bc BK251.out 0).trans rfl; have hcz9_1 : w4.cell? ⟨gb251, 1, none⟩ = some (.int .i64 0) := (bc BK251.out 1).trans rfl; have hcz9_2 : w4.cell? ⟨gb251, 2, none⟩ = some (.int .i64 0) := (bc BK251.out 2).trans rfl; have hfz9_0 := bf BK251.out 0; have hfz9_1 := bf BK251.out 1; have hfz9_2 := bf BK251.out 2; have hcz10_0 : w4.cell? ⟨gb250, 0, none⟩ = some (.int .i64 0) := (bc BK250.out 0).trans rfl; have hcz10_1 : w4.cell? ⟨gb250, 1, none⟩ = some (.int .i64 0) := (bc BK250.out 1).trans rfl; have hcz10_2 : w4.cell? ⟨gb250, 2, none⟩ = some (.int .i64 0) := (bc BK250.out 2).trans rfl; have hfz10_0 := bf BK250.out 0; have hfz10_1 := bf BK250.out 1; have hfz10_2 := bf BK250.out 2))
 refine bodyPost_ret (results_cell_row rfl _ _ gb250 154 #[.int .i64 a0_0, .int .i64 a0_1, .int .i64 a0_2] (0, 0) _ rfl (by (with_reducible repeat (first | refine kN ?_ _ | refine kD ?_ | refine kA ?_ _)); refine blk_put (cs := #[.int .i64 a0_0, .int .i64 a0_1, .int .i64 0]) ?_ 2 _ rfl; (with_reducible repeat (first | refine kN ?_ _ | refine kD ?_ | refine kA ?_ _)); refine blk_put (cs := #[.int .i64 a0_0, .int .i64 0, .int .i64 0]) ?_ 1 _ rfl; (with_reducible repeat (first | refine kN ?_ _ | refine kD ?_ | refine kA ?_ _)); refine blk_put (cs := #[.int .i64 0, .int .i64 0, .int .i64 0]) ?_ 0 _ rfl; (with_reducible repeat (first | refine kN ?_ _ | refine kD ?_ | refine kA ?_ _)); refine blk_far ?_ NB250_251.out _; (with_reducible repeat (first | refine kN ?_ _ | refine kD ?_ | refine kA ?_ _)); refine blk_far ?_ NB250_251.out _; (with_reducible repeat (first | refine kN ?_ _ | refine kD ?_ | refine kA ?_ _)); refine blk_far ?_ NB250_251.out _; exact qK BK250.out) Try.underlying154 rfl (by kernel_rfl)) rfl ?_
 exact ⟨by first | rfl | (simp [errW_none, errW_some] <;> rfl) | (simp [*, errW_none, errW_some] <;> rfl), by repeat (first | (with_reducible first | exact HB.out | apply bA | apply bN | apply b1 | refine bS ?_ GE249.out | refine bS ?_ GE250.out | refine bS ?_ GE251.out) | exact HB.out)⟩
/-! ### laws_toSlotS: function 65 -/
def laws_toSlotS.l0 : Nat → List (S156) → List (S154) → Int → Option ((List (S154)))
 | 0, _, _, _ => none
 | k + 1, x0, x3, x4 => if x4 < (x0.length : Int) then (if 0 ≤ x4 then ((laws_toSlot.f ((rd_T156 x0 x4).f0) ((rd_T156 x0 x4).f1) ((rd_T156 x0 x4).f2)).bind fun bt256 => (if x4 < (x3.length : Int) then (laws_toSlotS.l0 k x0 (x3.set (x4 : Int).toNat (⟨bt256.1, bt256.2.1, bt256.2.2⟩ : S154)) (wrap64 (x4 + 1))) else (none))) else (none)) else (some x3)
def laws_toSlotS.f (k : Nat) (l0 : List (S156)) : Option ((List (S154))) := if 0 ≤ (l0.length : Int) then (if ((l0.length : Int) : Int).toNat ≤ 11728124029610 then (laws_toSlotS.l0 k l0 (List.replicate ((l0.length : Int) : Int).toNat z154) 0) else (none)) else (none)
set_option maxHeartbeats 8000000 in
set_option maxRecDepth 100000 in
theorem laws_toSlotS.calls (k : Nat) (A0 : Option Addr) (c0 : Nat) (l0 : List (S156)) (r : List (S154)) (w : World) (hr0 : Kd.C k156 w A0 l0.length l0) (hc0 : l0.length ≤ c0) (h : laws_toSlotS.f k l0 = some r) :
  Calls Try.prog 65 #[.slice A0 l0.length c0] w fun e w' => ∃ v0_ : Value, e = .returned (v0_) ∧ Kd.R k154 154 w' w.heap.size (fun _ => True) v0_ r ∧ Below w.heap.size w w' := by
 have hu156 := Try.underlying156
 have hu154 := Try.underlying154
 have HR0 := zK hr0
 have HC0 := zK hc0
 clear hr0 hc0
 have HB := zK (Below.refl w.heap.size w)
 have H : (if 0 ≤ (l0.length : Int) then (if ((l0.length : Int) : Int).toNat ≤ 11728124029610 then (laws_toSlotS.l0 k l0 (List.replicate ((l0.length : Int) : Int).toNat z154) 0) else (none)) else (none)) = some r := h
 clear h
 by_cases c2 : 0 ≤ (l0.length : Int)
 rotate_left
 ·rw [if_neg c2] at H
  exact absurd H (by simp)
 rw [if_pos c2] at H
 have c2b0 := eq_true c2
 have c2b1 : decide (0 ≤ (l0.length : Int)) = true := decide_eq_true c2
 clear c2
 by_cases c3 : ((l0.length : Int) : Int).toNat ≤ 11728124029610
 rotate_left
 ·rw [if_neg c3] at H
  exact absurd H (by simp)
 rw [if_pos c3] at H
 have c3b0 := eq_true c3
 have c3b1 : decide (((l0.length : Int) : Int).toNat ≤ 11728124029610) = true := decide_eq_true c3
 clear c3
 obtain ⟨y252, hy252⟩ : ∃ y_ : List (S154), y_ = (List.replicate ((l0.length : Int) : Int).toNat z154) := ⟨_, rfl⟩
 replace H : (laws_toSlotS.l0 k l0 y252 0) = some r := by first | (rw [hy252]; with_reducible exact H) | (have H2_ := (Option.bind_some _ _).symm.trans H; rw [hy252]; with_reducible exact H2_) | (have H2_ := (Option.bind_some _ _).symm.trans H; with_reducible exact H2_) | with_reducible exact H | (rw [hy252]; exact H) | exact H
 have Ny252 := zK hy252
 clear hy252
 have H' := zK H
 clear H
 go_enter Try.func65, Try.ntmps65
 go_wp2_with (first | ((with_reducible refine gate_dst (N := 7) rfl ?_); refine Kd.R_make k154 _ 154 rfl (N := 7) rfl 94 _ _ rfl (l0.length : Int) rfl rfl Try.underlying94 (.agg #[(.int .i64 0), (.int .i64 0), (.int .i64 0)]) 24 info154 rfl (by decide) (by omega) z154 (ok := fun _ => True) (okp := fun _ => True) (k154_mkM _ _ _ z154 ) (fun _ hk => hk) trivial (oD (by first | (with_reducible assumption) | assumption)) (Nat.le_trans (Nat.mul_le_mul_right _ (oD (by first | (with_reducible assumption) | assumption) : (l0.length : Int).toNat ≤ 11728124029610)) (by omega)) (Below.refl _ _) (Nat.le_refl _) ?_; intro v253 w4 ho5 hb hg_ hnew_; clear hg_ hnew_; (first | rw [← Ny252.out] at ho5 | (simp only [Int.reduceToNat] at ho5; rw [← Ny252.out] at ho5)); have n0_ := zK (Kd.R_lower ho5 (bZ (qB HB.out))); have n1_ := zK (bT (qB HB.out) hb); clear HB; have HO254 := n0_; have HB := n1_; clear n0_ n1_; clear hb ho5))
 go_loopg [4] k (fun kq v4 w' => ∃ (x3_1 : List (S154)) (x4_1 : Int), v4 = .int .i64 x4_1 ∧ Aside0 (laws_toSlotS.l0 kq l0 x3_1 x4_1 = some r) ∧ Aside0 (kq ≤ k) ∧ Aside0 (Kd.R k154 154 w' w.heap.size (fun _ => True) v253 x3_1) ∧ Aside0 (Below w.heap.size w w'))
 case atStart => exact ⟨(y252), (0), (by first | rfl | (simp; done) | (simp [*]; done)), H', ⟨Nat.le_refl _⟩, ⟨by exact Kd.qR HO254.out⟩, ⟨by exact qB HB.out⟩⟩
 case round =>
  clear H'
  try clear c2
  try clear c2b0
  try clear c2b1
  try clear p2
  try clear c3
  try clear c3b0
  try clear c3b1
  obtain ⟨x3_1, x4_1, rfl, HA, HK1, HO_3, HB⟩ := hrel
  cases gk with
  | zero => exact absurd HA.out (by simp [laws_toSlotS.l0])
  | succ k1 =>
   have H := HA.out
   clear HA
   simp only [laws_toSlotS.l0] at H
   by_cases c6 : x4_1 < (l0.length : Int)
   rotate_left
   ·rw [if_neg c6] at H
    have c6b0 : decide (x4_1 < (l0.length : Int)) = false := decide_eq_false c6
    clear c6
    obtain rfl := Option.some.inj H
    go_wp2
    go_ret
    exact ⟨_, by first | rfl | (simp [errW_none, errW_some] <;> rfl) | (simp [*, errW_none, errW_some] <;> rfl), by exact Kd.qR HO_3.out, by exact qB HB.out⟩
   rw [if_pos c6] at H
   have c6b0 : decide (x4_1 < (l0.length : Int)) = true := decide_eq_true c6
   clear c6
   by_cases c7 : 0 ≤ x4_1
   rotate_left
   ·rw [if_neg c7] at H
    exact absurd H (by simp)
   rw [if_pos c7] at H
   have c7b0 : decide (0 ≤ x4_1) = true := decide_eq_true c7
   clear c7
   replace H := Option.bind_eq_some_iff.mp H
   obtain ⟨⟨t256, t257, t258⟩, A80, H⟩ := H
   replace H : (if x4_1 < (x3_1.length : Int) then (laws_toSlotS.l0 k1 l0 (x3_1.set (x4_1 : Int).toNat (⟨t256, t257, t258⟩ : S154)) (wrap64 (x4_1 + 1))) else (none)) = some r := H
   have A8 := zK A80
   clear A80
   by_cases c9 : x4_1 < (x3_1.length : Int)
   rotate_left
   ·rw [if_neg c9] at H
    exact absurd H (by simp)
   rw [if_pos c9] at H
   have c9b0 : decide (x4_1 < (x3_1.length : Int)) = true := decide_eq_true c9
   clear c9
   obtain ⟨y259, hy259⟩ : ∃ y_ : List (S154), y_ = (x3_1.set (x4_1 : Int).toNat (⟨t256, t257, t258⟩ : S154)) := ⟨_, rfl⟩
   replace H : (laws_toSlotS.l0 k1 l0 y259 (wrap64 (x4_1 + 1))) = some r := by first | (rw [hy259]; with_reducible exact H) | (have H2_ := (Option.bind_some _ _).symm.trans H; rw [hy259]; with_reducible exact H2_) | (have H2_ := (Option.bind_some _ _).symm.trans H; with_reducible exact H2_) | with_reducible exact H | (rw [hy259]; exact H) | exact H
   have Ny259 := zK hy259
   clear hy259
   have H' := zK H
   clear H
   have p255 : 0 ≤ (x4_1 : Int) := oD (by first | (with_reducible assumption) | assumption)
   have q255 : x4_1 < (l0.length : Int) := oD (by first | (with_reducible assumption) | assumption)
   obtain ⟨ad255, e255, hx255_0, hx255_1, hx255_2⟩ := at_T156 HR0.out x4_1 p255 q255
   cases e255
   replace hx255_0 := (HB.out.cell (bL w hx255_0)).trans hx255_0
   replace hx255_1 := (HB.out.cell (bL w hx255_1)).trans hx255_1
   replace hx255_2 := (HB.out.cell (bL w hx255_2)).trans hx255_2
   replace p255 := eq_true p255
   replace q255 := eq_true q255
   go_wp2_with (first | ((with_reducible refine gate_callee (f := 118) rfl ?_); refine goesL_ (some 20) rfl rfl Try.func118 (by kernel_rfl) rfl #[.agg #[.int .i64 ((rd_T156 l0 x4_1).f0), .int .i64 ((rd_T156 l0 x4_1).f1), .int .i64 ((rd_T156 l0 x4_1).f2)]] rfl (by (try simp only [List.map_toArray, List.map_cons, List.map_nil]); first | done | rfl | (simp only [List.length_drop, List.length_take]; rfl)) ?_; (with_reducible refine (laws_toSlot.calls ((rd_T156 l0 x4_1).f0) ((rd_T156 l0 x4_1).f1) ((rd_T156 l0 x4_1).f2) t256 t257 t258 _ A8.out).mono ?_); rintro e w11 ⟨rfl, hb⟩; refine ⟨_, rfl, ?_⟩; have n0_ := zK (Kd.R_below (Kd.qR HO_3.out) hb); have n1_ := zK (bT (qB HB.out) hb); clear HO_3; clear HB; have HO_3 := n0_; have HB := n1_; clear n0_ n1_; (try clear hb); (try clear hb2); (try clear hk); (try clear hi); have p10 : 0 ≤ (x4_1 : Int) := oD (by first | (with_reducible assumption) | assumption); have q10 : (x4_1 : Int) < ((x3_1.length : Int) : Int) := oD (by first | (with_reducible assumption) | assumption); obtain ⟨go10, co10, eo10, gb10, gl10, cl10, HG10⟩ := Kd.R_form HO_3.out (by omega); (first | cases eo10 | (injection eo10 with ea_ en_ ec_; (first | subst ea_ | (injection ea_ with ea_; subst ea_)); subst ec_; clear en_)); have GB10 := zK gb10; have GG10 := zK HG10; clear gb10 gl10 HG10; obtain ⟨ce10, hcl10, hM10, hcc10, hfr10⟩ := Kd.R_elem HO_3.out z154 (x4_1 : Int) p10 q10; obtain rfl := k154_openM hM10; have hx10_0 : w11.cell? ⟨go10, (x4_1 : Int).toNat * 3, none⟩ = some (.int .i64 ((rd_T154 x3_1 x4_1).f0)) := hcc10 0 _ rfl; have hx10_1 : w11.cell? ⟨go10, (x4_1 : Int).toNat * 3 + 1, none⟩ = some (.int .i64 ((rd_T154 x3_1 x4_1).f1)) := hcc10 1 _ rfl; have hx10_2 : w11.cell? ⟨go10, (x4_1 : Int).toNat * 3 + 2, none⟩ = some (.int .i64 ((rd_T154 x3_1 x4_1).f2)) := hcc10 2 _ rfl; have hf10_0 : w11.frozen? ⟨go10, (x4_1 : Int).toNat * 3, none⟩ = false := hfr10 0; have hf10_1 : w11.frozen? ⟨go10, (x4_1 : Int).toNat * 3 + 1, none⟩ = false := hfr10 1; have hf10_2 : w11.frozen? ⟨go10, (x4_1 : Int).toNat * 3 + 2, none⟩ = false := hfr10 2; clear hcl10 hcc10 hfr10 hM10; replace p10 := eq_true p10; replace q10 := eq_true q10; have HX12 := zK (show Kd.R k154 154 w11 w.heap.size (fun _ => True) (.slice (some ⟨go10, 0, none⟩) x3_1.length co10) x3_1 from (Kd.qR HO_3.out)); obtain ⟨ce12, hcl12, hM12, hcc12, hfr12⟩ := Kd.R_elem HX12.out z154 (x4_1 : Int) (oD (by first | (with_reducible assumption) | assumption)) (by have h_ : (x4_1 : Int) < ((x3_1.length : Int) : Int) := oD (by first | (with_reducible assumption) | assumption); first | exact h_ | (have e_ := (Kd.R_reads' HO_3.out).1; omega) | simpa using h_); obtain rfl := k154_openM hM12; have HP12 := Kd.R_seg HX12.out (x4_1 : Int) (oD (by first | (with_reducible assumption) | assumption)) (by have h_ : (x4_1 : Int) < ((x3_1.length : Int) : Int) := oD (by first | (with_reducible assumption) | assumption); first | exact h_ | (have e_ := (Kd.R_reads' HO_3.out).1; omega) | simpa using h_) (seg := [.int .i64 t256, .int .i64 t257, .int .i64 t258]) (j := 0) hcl12 hcc12 (show 3 ≤ 3 from by decide) (x' := (⟨t256, t257, t258⟩ : S154)) (k154_mkM _ _ _ (⟨t256, t257, t258⟩ : S154) ) (fun _ hk => hk); have hx12_0 := hcc12 0 _ rfl; (try simp only [show (k154).sz = 3 from rfl, Nat.mul_one, Nat.add_zero] at hx12_0); have hf12_0 := hfr12 0; (try simp only [show (k154).sz = 3 from rfl, Nat.mul_one, Nat.add_zero] at hf12_0); have hx12_1 := hcc12 1 _ rfl; (try simp only [show (k154).sz = 3 from rfl, Nat.mul_one, Nat.add_zero] at hx12_1); have hf12_1 := hfr12 1; (try simp only [show (k154).sz = 3 from rfl, Nat.mul_one, Nat.add_zero] at hf12_1); have hx12_2 := hcc12 2 _ rfl; (try simp only [show (k154).sz = 3 from rfl, Nat.mul_one, Nat.add_zero] at hx12_2); have hf12_2 := hfr12 2; (try simp only [show (k154).sz = 3 from rfl, Nat.mul_one, Nat.add_zero] at hf12_2); clear hcl12 hcc12 hfr12 hM12) | ((with_reducible refine gate_store (t := 154) (p := 21) rfl ?_); refine store_event (t := 154) (p := 21) (v := ?vo_w13) (w1 := (((w11.setCell ⟨go10, (x4_1 : Int).toNat * 3, none⟩ (.int .i64 t256)).setCell ⟨go10, (x4_1 : Int).toNat * 3 + 1, none⟩ (.int .i64 t257)).setCell ⟨go10, (x4_1 : Int).toNat * 3 + 2, none⟩ (.int .i64 t258))) ?hg ?ho ?hn ?hr ?_; (case ho => rfl); (case hg => rfl); (case hn => rfl); (case hr => first | (go_simp; done) | (go_simp; rfl)); intro w13 hw; have hg : w11.grownBy w13 (some go10) := (by rw [hw]; exact HP12.2); have hp_ : Kd.R k154 154 w13 w.heap.size (fun _ => True) (.slice (some ⟨go10, 0, none⟩) x3_1.length co10) y259 := (by rw [hw, Ny259.out]; exact HP12.1); clear HP12; have n0_ := zK (hp_); have n1_ := zK ((by rw [hw]; exact bS (bS (bS (HB.out) GB10.out) GB10.out) GB10.out : Below w.heap.size w w13)); clear HO_3; clear HB; have HO_3 := n0_; have HB := n1_; clear n0_ n1_; clear hg hw hp_))
   go_roundg k1
   case measure => have := HK1.out; omega
   case rel => exact ⟨(y259), (wrap64 (x4_1 + 1)), (by first | rfl | (simp; done) | (simp [*]; done)), H', ⟨by have := HK1.out; omega⟩, ⟨by exact Kd.qR HO_3.out⟩, ⟨by exact qB HB.out⟩⟩
/-! ### laws_toThing: function 119 -/
def laws_toThing.f (a0_0 : Int) (a0_1 : Int) (a0_2 : Int) (a0_3 : Int) (a0_4 : Int) : Option (Int × Int × Int × Int × Int) := some (a0_0, a0_1, a0_2, a0_3, a0_4)
set_option maxHeartbeats 8000000 in
set_option maxRecDepth 100000 in
theorem laws_toThing.calls (a0_0 : Int) (a0_1 : Int) (a0_2 : Int) (a0_3 : Int) (a0_4 : Int) (r1 : Int) (r2 : Int) (r3 : Int) (r4 : Int) (r5 : Int) (w : World) (h : laws_toThing.f a0_0 a0_1 a0_2 a0_3 a0_4 = some (r1, r2, r3, r4, r5)) :
  Calls Try.prog 119 #[.agg #[.int .i64 a0_0, .int .i64 a0_1, .int .i64 a0_2, .int .i64 a0_3, .int .i64 a0_4]] w fun e w' => e = .returned (.agg #[.int .i64 r1, .int .i64 r2, .int .i64 r3, .int .i64 r4, .int .i64 r5]) ∧ Below w.heap.size w w' := by
 have hu122 := Try.underlying122
 have hu111 := Try.underlying111
 have HB := zK (Below.refl w.heap.size w)
 have H : (some (a0_0, a0_1, a0_2, a0_3, a0_4)) = some (r1, r2, r3, r4, r5) := h
 clear h
 simp only [Option.some.injEq, Prod.mk.injEq] at H
 obtain ⟨rfl, rfl, rfl, rfl, rfl⟩ := H
 go_enter Try.func119, Try.ntmps119
 go_wp2_with (first | ((with_reducible refine gate_dst (N := 1) rfl ?_); refine box_event ?hg (N := 1) ?hd (cs := #[.int .i64 a0_0, .int .i64 a0_1, .int .i64 a0_2, .int .i64 a0_3, .int .i64 a0_4]) (t := 122) ?hr ?_; (case hd => rfl); (case hg => rfl); (case hr => first | (go_simp; done) | (go_simp; rfl)); intro gb260 hg w2 hbox hb; have n0_ := zK (bT (qB HB.out) hb); have n1_ := zK (hbox); have n2_ := zK ((by rw [hg]; exact (bZ (qB HB.out)) : w.heap.size ≤ gb260)); have n3_ := zK ((by rw [hg]; exact (bZ (qB HB.out)) : w.heap.size ≤ gb260)); clear HB; have HB := n0_; have BK260 := n1_; have GW260 := n2_; have GE260 := n3_; clear n0_ n1_ n2_ n3_; clear hb hbox hg) | ((with_reducible refine gate_dst (N := 2) rfl ?_); refine box_event ?hg (N := 2) ?hd (cs := #[.int .i64 0, .int .i64 0, .int .i64 0, .int .i64 0, .int .i64 0]) (t := 111) ?hr ?_; (case hd => rfl); (case hg => rfl); (case hr => first | (go_simp; done) | (go_simp; rfl)); intro gb261 hg w3 hbox hb; have n0_ := zK (bB (g := gb260) (o := .cells #[.int .i64 a0_0, .int .i64 a0_1, .int .i64 a0_2, .int .i64 a0_3, .int .i64 a0_4] 122 (0, 0)) (qK BK260.out) hb); have n1_ := zK (bT (by repeat (first | (with_reducible first | exact HB.out | apply bA | apply bN | apply b1 | refine bS ?_ GE260.out) | exact HB.out)) hb); have n2_ := zK (hbox); have n3_ := zK ((by rw [hg]; exact (bZ (by repeat (first | (with_reducible first | exact HB.out | apply bA | apply bN | apply b1 | refine bS ?_ GE260.out) | exact HB.out))) : w.heap.size ≤ gb261)); have n4_ := zK ((by rw [hg]; exact (bZ (by repeat (first | (with_reducible first | exact HB.out | apply bA | apply bN | apply b1 | refine bS ?_ GE260.out) | exact HB.out))) : w.heap.size ≤ gb261)); have n5_ := zK ((by rw [hg]; exact Nat.ne_of_lt (blk_lt (g := gb260) (o := .cells #[.int .i64 a0_0, .int .i64 a0_1, .int .i64 a0_2, .int .i64 a0_3, .int .i64 a0_4] 122 (0, 0)) (qK BK260.out)) : gb260 ≠ gb261)); have n6_ := zK ((by rw [hg]; exact Nat.ne_of_gt (blk_lt (g := gb260) (o := .cells #[.int .i64 a0_0, .int .i64 a0_1, .int .i64 a0_2, .int .i64 a0_3, .int .i64 a0_4] 122 (0, 0)) (qK BK260.out)) : gb261 ≠ gb260)); clear BK260; clear HB; have BK260 := n0_; have HB := n1_; have BK261 := n2_; have GW261 := n3_; have GE261 := n4_; have NB260_261 := n5_; have NB261_260 := n6_; clear n0_ n1_ n2_ n3_ n4_ n5_ n6_; clear hb hbox hg) | ((with_reducible refine gate_dst (N := 3) rfl ?_); refine box_event ?hg (N := 3) ?hd (cs := #[.int .i64 0, .int .i64 0, .int .i64 0, .int .i64 0, .int .i64 0]) (t := 111) ?hr ?_; (case hd => rfl); (case hg => rfl); (case hr => first | (go_simp; done) | (go_simp; rfl)); intro gb262 hg w4 hbox hb; have n0_ := zK (bB (g := gb260) (o := .cells #[.int .i64 a0_0, .int .i64 a0_1, .int .i64 a0_2, .int .i64 a0_3, .int .i64 a0_4] 122 (0, 0)) (qK BK260.out) hb); have n1_ := zK (bB (g := gb261) (o := .cells #[.int .i64 0, .int .i64 0, .int .i64 0, .int .i64 0, .int .i64 0] 111 (0, 0)) (qK BK261.out) hb); have n2_ := zK (bT (by repeat (first | (with_reducible first | exact HB.out | apply bA | apply bN | apply b1 | refine bS ?_ GE260.out | refine bS ?_ GE261.out) | exact HB.out)) hb); have n3_ := zK (hbox); have n4_ := zK ((by rw [hg]; exact (bZ (by repeat (first | (with_reducible first | exact HB.out | apply bA | apply bN | apply b1 | refine bS ?_ GE260.out | refine bS ?_ GE261.out) | exact HB.out))) : w.heap.size ≤ gb262)); have n5_ := zK ((by rw [hg]; exact (bZ (by repeat (first | (with_reducible first | exact HB.out | apply bA | apply bN | apply b1 | refine bS ?_ GE260.out | refine bS ?_ GE261.out) | exact HB.out))) : w.heap.size ≤ gb262)); have n6_ := zK ((by rw [hg]; exact Nat.ne_of_lt (blk_lt (g := gb260) (o := .cells #[.int .i64 a0_0, .int .i64 a0_1, .int .i64 a0_2, .int .i64 a0_3, .int .i64 a0_4] 122 (0, 0)) (qK BK260.out)) : gb260 ≠ gb262)); have n7_ := zK ((by rw [hg]; exact Nat.ne_of_gt (blk_lt (g := gb260) (o := .cells #[.int .i64 a0_0, .int .i64 a0_1, .int .i64 a0_2, .int .i64 a0_3, .int .i64 a0_4] 122 (0, 0)) (qK BK260.out)) : gb262 ≠ gb260)); have n8_ := zK ((by rw [hg]; exact Nat.ne_of_lt (blk_lt (g := gb261) (o := .cells #[.int .i64 0, .int .i64 0, .int .i64 0, .int .i64 0, .int .i64 0] 111 (0, 0)) (qK BK261.out)) : gb261 ≠ gb262)); have n9_ := zK ((by rw [hg]; exact Nat.ne_of_gt (blk_lt (g := gb261) (o := .cells #[.int .i64 0, .int .i64 0, .int .i64 0, .int .i64 0, .int .i64 0] 111 (0, 0)) (qK BK261.out)) : gb262 ≠ gb261)); clear BK260; clear BK261; clear HB; have BK260 := n0_; have BK261 := n1_; have HB := n2_; have BK262 := n3_; have GW262 := n4_; have GE262 := n5_; have NB260_262 := n6_; have NB262_260 := n7_; have NB261_262 := n8_; have NB262_261 := n9_; clear n0_ n1_ n2_ n3_ n4_ n5_ n6_ n7_ n8_ n9_; clear hb hbox hg; have hnb5 := NB260_261.out; have hnc5 := NB261_260.out; have hnb6 := NB260_262.out; have hnc6 := NB262_260.out; have hcz7_0 : w4.cell? ⟨gb260, 0, none⟩ = some (.int .i64 a0_0) := (bc BK260.out 0).trans rfl; have hcz7_1 : w4.cell? ⟨gb260, 1, none⟩ = some (.int .i64 a0_1) := (bc BK260.out 1).trans rfl; have hcz7_2 : w4.cell? ⟨gb260, 2, none⟩ = some (.int .i64 a0_2) := (bc BK260.out 2).trans rfl; have hcz7_3 : w4.cell? ⟨gb260, 3, none⟩ = some (.int .i64 a0_3) := (bc BK260.out 3).trans rfl; have hcz7_4 : w4.cell? ⟨gb260, 4, none⟩ = some (.int .i64 a0_4) := (bc BK260.out 4).trans rfl; have hfz7_0 := bf BK260.out 0; have hfz7_1 := bf BK260.out 1; have hfz7_2 := bf BK260.out 2; have hfz7_3 := bf BK260.out 3; have hfz7_4 := bf BK260.out 4; have hnb8 := NB262_261.out; have hnc8 := NB261_262.out; have hcz9_0 : w4.cell? ⟨gb262, 0, none⟩ = some (.int .i64 0) := (bc BK262.out 0).trans rfl; have hcz9_1 : w4.cell? ⟨gb262, 1, none⟩ = some (.int .i64 0) := (bc BK262.out 1).trans rfl; have hcz9_2 : w4.cell? ⟨gb262, 2, none⟩ = some (.int .i64 0) := (bc BK262.out 2).trans rfl; have hcz9_3 : w4.cell? ⟨gb262, 3, none⟩ = some (.int .i64 0) := (bc BK262.out 3).trans rfl; have hcz9_4 : w4.cell? ⟨gb262, 4, none⟩ = some (.int .i64 0) := (bc BK262.out 4).trans rfl; have hfz9_0 := bf BK262.out 0; have hfz9_1 := bf BK262.out 1; have hfz9_2 := bf BK262.out 2; have hfz9_3 := bf BK262.out 3; have hfz9_4 := bf BK262.out 4; have hcz10_0 : w4.cell? ⟨gb261, 0, none⟩ = some (.int .i64 0) := (bc BK261.out 0).trans rfl; have hcz10_1 : w4.cell? ⟨gb261, 1, none⟩ = some (.int .i64 0) := (bc BK261.out 1).trans rfl; have hcz10_2 : w4.cell? ⟨gb261, 2, none⟩ = some (.int .i64 0) := (bc BK261.out 2).trans rfl; have hcz10_3 : w4.cell? ⟨gb261, 3, none⟩ = some (.int .i64 0) := (bc BK261.out 3).trans rfl; have hcz10_4 : w4.cell? ⟨gb261, 4, none⟩ = some (.int .i64 0) := (bc BK261.out 4).trans rfl; have hfz10_0 := bf BK261.out 0; have hfz10_1 := bf BK261.out 1; have hfz10_2 := bf BK261.out 2; have hfz10_3 := bf BK261.out 3; have hfz10_4 := bf BK261.out 4))
 refine bodyPost_ret (results_cell_row rfl _ _ gb261 111 #[.int .i64 a0_0, .int .i64 a0_1, .int .i64 a0_2, .int .i64 a0_3, .int .i64 a0_4] (0, 0) _ rfl (by (with_reducible repeat (first | refine kN ?_ _ | refine kD ?_ | refine kA ?_ _)); refine blk_put (cs := #[.int .i64 a0_0, .int .i64 a0_1, .int .i64 a0_2, .int .i64 a0_3, .int .i64 0]) ?_ 4 _ rfl; (with_reducible repeat (first | refine kN ?_ _ | refine kD ?_ | refine kA ?_ _)); refine blk_put (cs := #[.int .i64 a0_0, .int .i64 a0_1, .int .i64 a0_2, .int .i64 0, .int .i64 0]) ?_ 3 _ rfl; (with_reducible repeat (first | refine kN ?_ _ | refine kD ?_ | refine kA ?_ _)); refine blk_put (cs := #[.int .i64 a0_0, .int .i64 a0_1, .int .i64 0, .int .i64 0, .int .i64 0]) ?_ 2 _ rfl; (with_reducible repeat (first | refine kN ?_ _ | refine kD ?_ | refine kA ?_ _)); refine blk_put (cs := #[.int .i64 a0_0, .int .i64 0, .int .i64 0, .int .i64 0, .int .i64 0]) ?_ 1 _ rfl; (with_reducible repeat (first | refine kN ?_ _ | refine kD ?_ | refine kA ?_ _)); refine blk_put (cs := #[.int .i64 0, .int .i64 0, .int .i64 0, .int .i64 0, .int .i64 0]) ?_ 0 _ rfl; (with_reducible repeat (first | refine kN ?_ _ | refine kD ?_ | refine kA ?_ _)); refine blk_far ?_ NB261_262.out _; (with_reducible repeat (first | refine kN ?_ _ | refine kD ?_ | refine kA ?_ _)); refine blk_far ?_ NB261_262.out _; (with_reducible repeat (first | refine kN ?_ _ | refine kD ?_ | refine kA ?_ _)); refine blk_far ?_ NB261_262.out _; (with_reducible repeat (first | refine kN ?_ _ | refine kD ?_ | refine kA ?_ _)); refine blk_far ?_ NB261_262.out _; (with_reducible repeat (first | refine kN ?_ _ | refine kD ?_ | refine kA ?_ _)); refine blk_far ?_ NB261_262.out _; exact qK BK261.out) Try.underlying111 rfl (by kernel_rfl)) rfl ?_
 exact ⟨by first | rfl | (simp [errW_none, errW_some] <;> rfl) | (simp [*, errW_none, errW_some] <;> rfl), by repeat (first | (with_reducible first | exact HB.out | apply bA | apply bN | apply b1 | refine bS ?_ GE260.out | refine bS ?_ GE261.out | refine bS ?_ GE262.out) | exact HB.out)⟩

end Go.Proofs.Ytejhjenlodclpaa.PFnExactTighten
