/- Walks of functions that FnExactTighten reaches: written by a tool of the kit for this claim, then shortened by a program of ours. -/
import Derived.Test.YtejhjenlodclpaaPFnExactTightenx0
import Derived.Test.YtejhjenlodclpaaPFnExactTightenx12
/- narrow -/
namespace Go.Proofs.Ytejhjenlodclpaa.PFnExactTighten
open Go.RowKit Go.Proofs.YtejhjenlodclpaaW.PrintWords Go.Proofs.YtejhjenlodclpaaW.PrintLast Go.Proofs.YtejhjenlodclpaaW.PrintMore
attribute [local go_sem] max2_int min2_int max_two min_two max_three min_three max_four min_four   -- for this text's walks alone
set_option linter.unusedVariables false
set_option linter.unusedSimpArgs false

abbrev b13A0 : Array Bool := #[bo, bo, bo, bo, bo, bo, bo, bo, bo, bo, bo, bo, bo, bo, bo, bo, bo, bo]
abbrev b13A1 : Array Bool := #[bi, bo, bo, bo, bo, bo, bo, bo, bo, bo, bo, bo, bo, bo, bo, bo, bo, bo]
abbrev b13A2 : Array Bool := #[bi, bi, bo, bo, bo, bo, bo, bo, bo, bo, bo, bo, bo, bo, bo, bo, bo, bo]
abbrev b13A3 : Array Bool := #[bi, bi, bi, bo, bo, bo, bo, bo, bo, bo, bo, bo, bo, bo, bo, bo, bo, bo]
abbrev b13A4 : Array Bool := #[bi, bi, bi, bi, bo, bo, bo, bo, bo, bo, bo, bo, bo, bo, bo, bo, bo, bo]
abbrev b13A5 : Array Bool := #[bi, bi, bi, bi, bi, bo, bo, bo, bo, bo, bo, bo, bo, bo, bo, bo, bo, bo]
abbrev b13A6 : Array Bool := #[bi, bi, bi, bi, bi, bi, bo, bo, bo, bo, bo, bo, bo, bo, bo, bo, bo, bo]
abbrev b13A7 : Array Bool := #[bi, bi, bi, bi, bi, bi, bi, bo, bo, bo, bo, bo, bo, bo, bo, bo, bo, bo]
abbrev b13A8 : Array Bool := #[bi, bi, bi, bi, bi, bi, bi, bi, bo, bo, bo, bo, bo, bo, bo, bo, bo, bo]
abbrev b13A9 : Array Bool := #[bi, bi, bi, bi, bi, bi, bi, bi, bo, bi, bo, bo, bo, bo, bo, bo, bo, bo]
abbrev b13A10 : Array Bool := #[bi, bi, bi, bi, bi, bi, bi, bi, bo, bi, bi, bo, bo, bo, bo, bo, bo, bo]
abbrev b13A11 : Array Bool := #[bi, bi, bi, bi, bi, bi, bi, bi, bo, bi, bi, bi, bo, bo, bo, bo, bo, bo]
abbrev b13A12 : Array Bool := #[bi, bi, bi, bi, bi, bi, bi, bi, bo, bi, bi, bi, bi, bo, bo, bo, bo, bo]
abbrev b13A13 : Array Bool := #[bi, bi, bi, bi, bi, bi, bi, bi, bo, bi, bi, bi, bi, bi, bo, bo, bo, bo]
abbrev b13A14 : Array Bool := #[bi, bi, bi, bi, bi, bi, bi, bi, bi, bi, bi, bi, bi, bi, bo, bo, bo, bo]
abbrev b13A15 : Array Bool := #[bi, bi, bi, bi, bi, bi, bi, bi, bi, bi, bi, bi, bi, bi, bi, bo, bo, bo]
abbrev b13A16 : Array Bool := #[bi, bi, bi, bi, bi, bi, bi, bi, bi, bi, bi, bi, bi, bi, bi, bi, bo, bo]
abbrev b13A17 : Array Bool := #[bi, bi, bi, bi, bi, bi, bi, bi, bi, bi, bi, bi, bi, bi, bi, bi, bi, bo]
abbrev b13A18 : Array Bool := #[bi, bi, bi, bi, bi, bi, bi, bi, bi, bi, bi, bi, bi, bi, bi, bi, bi, bi]
abbrev b13A19 : Array Bool := #[bi, bi, bi, bi, bi, bi, bi, bi, bi, bo, bo, bo, bo, bo, bo, bo, bo, bo]
abbrev b13A20 : Array Bool := #[bi, bi, bi, bi, bi, bi, bi, bi, bi, bi, bo, bo, bo, bo, bo, bo, bo, bo]
abbrev b13A21 : Array Bool := #[bi, bi, bi, bi, bi, bi, bi, bi, bi, bi, bi, bo, bo, bo, bo, bo, bo, bo]
abbrev b13A22 : Array Bool := #[bi, bi, bi, bi, bi, bi, bi, bi, bi, bi, bi, bi, bo, bo, bo, bo, bo, bo]
abbrev b13A23 : Array Bool := #[bi, bi, bi, bi, bi, bi, bi, bi, bi, bi, bi, bi, bi, bo, bo, bo, bo, bo]
/-! ### impl_AreThings: function 121 -/
def impl_AreThings.l0 : Nat → List (S111) → List (S111) → Int → Int → Option (Bool)
 | 0, _, _, _, _ => none
 | k + 1, x0, x8, x9, x10 => if x10 < x9 then (if 0 ≤ x10 then (if x10 < (x8.length : Int) then ((impl_IsThing.f ((rd_T111 x8 x10).f0) ((rd_T111 x8 x10).f1) ((rd_T111 x8 x10).f2) ((rd_T111 x8 x10).f3) ((rd_T111 x8 x10).f4)).bind fun t301 => (if t301 = true then (if x10 > 0 then (if 0 ≤ (wrap64 (x10 - 1)) then (if (wrap64 (x10 - 1)) < (x0.length : Int) then (if ((rd_T111 x8 x10).f0) ≤ ((rd_T111 x0 (wrap64 (x10 - 1))).f0) then (some false) else (impl_AreThings.l0 k x0 x8 x9 (wrap64 (x10 + 1)))) else (none)) else (none)) else (impl_AreThings.l0 k x0 x8 x9 (wrap64 (x10 + 1)))) else (some false))) else (none)) else (none)) else (some true)
def impl_AreThings.f (k : Nat) (l0 : List (S111)) : Option (Bool) := if (l0.length : Int) > 20 then (some false) else (impl_AreThings.l0 k l0 l0 (l0.length : Int) 0)
def impl_AreThings.T6 : Bool × List (List Nat × List Nat) := (true, [([], []), ([0], [0]), ([1], [1]), ([2, 1], [2]), ([3], [3]), ([4, 3], [3, 4]), ([5, 3, 3], [3, 5]), ([6], [6]), ([7, 6], [6, 7]), ([6], [6]), ([6], [6]), ([10, 6], [6, 10]), ([9, 11, 6], [6, 9, 11]), ([12, 6], [6, 12]), ([13, 6], [6, 13]), ([8, 14, 6], [6, 8, 14]), ([6, 15, 3], [3, 6, 15]), ([3, 16], [3, 16])])
def impl_AreThings.B6 : List Nat := [0, 1, 3, 7, 15, 31, 63, 127, 255, 127, 127, 1151, 3711, 7807, 15999, 32767, 65535, 131071]
theorem impl_AreThings.tab6 : rtab .any (opsOf Try.f121 6) = impl_AreThings.T6 := by kernel_rfl
theorem impl_AreThings.bits6 : waitsOk impl_AreThings.T6.2 impl_AreThings.B6 = true := by kernel_rfl
set_option maxHeartbeats 8000000 in
set_option maxRecDepth 100000 in
theorem impl_AreThings.calls (k : Nat) (A0 : Option Addr) (c0 : Nat) (l0 : List (S111)) (r : Bool) (w : World) (hr0 : Kd.C k111 w A0 l0.length l0) (hc0 : l0.length ≤ c0) (h : impl_AreThings.f k l0 = some r) :
  Calls Try.prog 121 #[.slice A0 l0.length c0] w fun e w' => e = .returned (.bool r) ∧ Below w.heap.size w w' := by
 have hu111 := Try.underlying111
 have HR0 := zK hr0
 have HC0 := zK hc0
 clear hr0 hc0
 have HB := zK (Below.refl w.heap.size w)
 have H : (if (l0.length : Int) > 20 then (some false) else (impl_AreThings.l0 k l0 l0 (l0.length : Int) 0)) = some r := h
 clear h
 by_cases c2 : (l0.length : Int) > 20
 ·rw [if_pos c2] at H
  have c2b0 : decide (20 < (l0.length : Int)) = true := decide_eq_true c2
  have c2b1 : decide (20 < l0.length) = true := decide_eq_true (by omega)
  clear c2
  obtain rfl := Option.some.inj H
  go_enter Try.func121, Try.ntmps121
  go_wp2
  go_ret
  exact ⟨by first | rfl | (simp [errW_none, errW_some] <;> rfl) | (simp [*, errW_none, errW_some] <;> rfl), by exact qB HB.out⟩
 rw [if_neg c2] at H
 have c2b0 : decide (20 < (l0.length : Int)) = false := decide_eq_false c2
 have c2b1 : decide (20 < l0.length) = false := decide_eq_false (by omega)
 clear c2
 have H' := zK H
 clear H
 go_enter Try.func121, Try.ntmps121
 go_wp2
 go_loopg [10] k (fun kq v10 w' => ∃ (x10_1 : Int), v10 = .int .i64 x10_1 ∧ Aside0 (impl_AreThings.l0 kq l0 l0 (l0.length : Int) x10_1 = some r) ∧ Aside0 (kq ≤ k) ∧ Aside0 (Below w.heap.size w w'))
 case atStart => exact ⟨(0), (by first | rfl | (simp; done) | (simp [*]; done)), H', ⟨Nat.le_refl _⟩, ⟨by exact qB HB.out⟩⟩
 case round =>
  clear H'
  try clear c1
  try clear c2
  try clear c2b0
  try clear c2b1
  try clear p2
  obtain ⟨x10_1, rfl, HA, HK1, HB⟩ := hrel
  cases gk with
  | zero => exact absurd HA.out (by simp [impl_AreThings.l0])
  | succ k1 =>
   have H := HA.out
   clear HA
   simp only [impl_AreThings.l0] at H
   by_cases c3 : x10_1 < (l0.length : Int)
   rotate_left
   ·rw [if_neg c3] at H
    have c3b0 : decide (x10_1 < (l0.length : Int)) = false := decide_eq_false c3
    clear c3
    obtain rfl := Option.some.inj H
    go_wp2
    go_ret
    exact ⟨by first | rfl | (simp [errW_none, errW_some] <;> rfl) | (simp [*, errW_none, errW_some] <;> rfl), by exact qB HB.out⟩

   rw [if_pos c3] at H
   have c3b0 : decide (x10_1 < (l0.length : Int)) = true := decide_eq_true c3
   clear c3
   by_cases c4 : 0 ≤ x10_1
   rotate_left
   ·rw [if_neg c4] at H
    exact absurd H (by simp)
   rw [if_pos c4] at H
   have c4b0 : decide (0 ≤ x10_1) = true := decide_eq_true c4
   clear c4
   by_cases c5 : x10_1 < (l0.length : Int)
   rotate_left
   ·rw [if_neg c5] at H
    exact absurd H (by simp)
   rw [if_pos c5] at H
   have c5b0 : decide (x10_1 < (l0.length : Int)) = true := decide_eq_true c5
   clear c5
   replace H := Option.bind_eq_some_iff.mp H
   obtain ⟨t301, A60, H⟩ := H
   replace H : (if t301 = true then (if x10_1 > 0 then (if 0 ≤ (wrap64 (x10_1 - 1)) then (if (wrap64 (x10_1 - 1)) < (l0.length : Int) then (if ((rd_T111 l0 x10_1).f0) ≤ ((rd_T111 l0 (wrap64 (x10_1 - 1))).f0) then (some false) else (impl_AreThings.l0 k1 l0 l0 (l0.length : Int) (wrap64 (x10_1 + 1)))) else (none)) else (none)) else (impl_AreThings.l0 k1 l0 l0 (l0.length : Int) (wrap64 (x10_1 + 1)))) else (some false)) = some r := H
   have A6 := zK A60
   clear A60
   by_cases c7 : t301 = true
   rotate_left
   ·replace c7 := Bool.eq_false_iff.mpr c7
    subst c7
    have H1 : (some false) = some r := by rw [if_neg (show ¬ (false = true) by decide)] at H; exact H
    clear H
    have H := H1
    clear H1
    obtain rfl := Option.some.inj H
    have p299 : 0 ≤ (x10_1 : Int) := oD (by first | (with_reducible assumption) | assumption)
    have q299 : x10_1 < (l0.length : Int) := oD (by first | (with_reducible assumption) | assumption)
    obtain ⟨ad299, e299, hx299_0, hx299_1, hx299_2, hx299_3, hx299_4⟩ := at_T111 HR0.out x10_1 p299 q299
    cases e299
    replace hx299_0 := (HB.out.cell (bL w hx299_0)).trans hx299_0
    replace hx299_1 := (HB.out.cell (bL w hx299_1)).trans hx299_1
    replace hx299_2 := (HB.out.cell (bL w hx299_2)).trans hx299_2
    replace hx299_3 := (HB.out.cell (bL w hx299_3)).trans hx299_3
    replace hx299_4 := (HB.out.cell (bL w hx299_4)).trans hx299_4
    replace p299 := eq_true p299
    replace q299 := eq_true q299
    try go_wp2_with (first | ((with_reducible refine gate_dst (N := 4) rfl ?_); refine box_event ?hg (N := 4) ?hd (cs := #[.int .i64 0, .int .i64 0, .int .i64 0, .int .i64 0, .int .i64 0]) (t := 111) ?hr ?_; (case hd => rfl); (case hg => rfl); (case hr => first | (go_simp; done) | (go_simp; rfl)); intro gb300 hg w28 hbox hb; have n0_ := zK (bT (qB HB.out) hb); have n1_ := zK (hbox); have n2_ := zK ((by rw [hg]; exact (bZ (qB HB.out)) : w.heap.size ≤ gb300)); have n3_ := zK ((by rw [hg]; exact (bZ (qB HB.out)) : w.heap.size ≤ gb300)); clear HB; have HB := n0_; have BK300 := n1_; have GW300 := n2_; have GE300 := n3_; clear n0_ n1_ n2_ n3_; clear hb hbox hg; have hcz29_0 : w28.cell? ⟨gb300, 0, none⟩ = some (.int .i64 0) := (bc BK300.out 0).trans rfl; have hcz29_1 : w28.cell? ⟨gb300, 1, none⟩ = some (.int .i64 0) := (bc BK300.out 1).trans rfl; have hcz29_2 : w28.cell? ⟨gb300, 2, none⟩ = some (.int .i64 0) := (bc BK300.out 2).trans rfl; have hcz29_3 : w28.cell? ⟨gb300, 3, none⟩ = some (.int .i64 0) := (bc BK300.out 3).trans rfl; have hcz29_4 : w28.cell? ⟨gb300, 4, none⟩ = some (.int .i64 0) := (bc BK300.out 4).trans rfl; have hfz29_0 := bf BK300.out 0; have hfz29_1 := bf BK300.out 1; have hfz29_2 := bf BK300.out 2; have hfz29_3 := bf BK300.out 3; have hfz29_4 := bf BK300.out 4))
    have n0_ : Aside0 ((((((w28.setCell ⟨gb300, 0, none⟩ (.int .i64 ((rd_T111 l0 x10_1).f0))).setCell ⟨gb300, 1, none⟩ (.int .i64 ((rd_T111 l0 x10_1).f1))).setCell ⟨gb300, 2, none⟩ (.int .i64 ((rd_T111 l0 x10_1).f2))).setCell ⟨gb300, 3, none⟩ (.int .i64 ((rd_T111 l0 x10_1).f3))).setCell ⟨gb300, 4, none⟩ (.int .i64 ((rd_T111 l0 x10_1).f4))).heap[gb300]? = some (.cells #[.int .i64 ((rd_T111 l0 x10_1).f0), .int .i64 ((rd_T111 l0 x10_1).f1), .int .i64 ((rd_T111 l0 x10_1).f2), .int .i64 ((rd_T111 l0 x10_1).f3), .int .i64 ((rd_T111 l0 x10_1).f4)] 111 (0, 0))) := ⟨by (with_reducible repeat (first | refine kN ?_ _ | refine kD ?_ | refine kA ?_ _)); refine blk_put (cs := #[.int .i64 ((rd_T111 l0 x10_1).f0), .int .i64 ((rd_T111 l0 x10_1).f1), .int .i64 ((rd_T111 l0 x10_1).f2), .int .i64 ((rd_T111 l0 x10_1).f3), .int .i64 0]) ?_ 4 _ rfl; (with_reducible repeat (first | refine kN ?_ _ | refine kD ?_ | refine kA ?_ _)); refine blk_put (cs := #[.int .i64 ((rd_T111 l0 x10_1).f0), .int .i64 ((rd_T111 l0 x10_1).f1), .int .i64 ((rd_T111 l0 x10_1).f2), .int .i64 0, .int .i64 0]) ?_ 3 _ rfl; (with_reducible repeat (first | refine kN ?_ _ | refine kD ?_ | refine kA ?_ _)); refine blk_put (cs := #[.int .i64 ((rd_T111 l0 x10_1).f0), .int .i64 ((rd_T111 l0 x10_1).f1), .int .i64 0, .int .i64 0, .int .i64 0]) ?_ 2 _ rfl; (with_reducible repeat (first | refine kN ?_ _ | refine kD ?_ | refine kA ?_ _)); refine blk_put (cs := #[.int .i64 ((rd_T111 l0 x10_1).f0), .int .i64 0, .int .i64 0, .int .i64 0, .int .i64 0]) ?_ 1 _ rfl; (with_reducible repeat (first | refine kN ?_ _ | refine kD ?_ | refine kA ?_ _)); refine blk_put (cs := #[.int .i64 0, .int .i64 0, .int .i64 0, .int .i64 0, .int .i64 0]) ?_ 0 _ rfl; exact qK BK300.out⟩
    have n1_ : Aside0 (Below w.heap.size w (((((w28.setCell ⟨gb300, 0, none⟩ (.int .i64 ((rd_T111 l0 x10_1).f0))).setCell ⟨gb300, 1, none⟩ (.int .i64 ((rd_T111 l0 x10_1).f1))).setCell ⟨gb300, 2, none⟩ (.int .i64 ((rd_T111 l0 x10_1).f2))).setCell ⟨gb300, 3, none⟩ (.int .i64 ((rd_T111 l0 x10_1).f3))).setCell ⟨gb300, 4, none⟩ (.int .i64 ((rd_T111 l0 x10_1).f4)))) := ⟨by repeat (first | (with_reducible first | exact HB.out | apply bA | apply bN | apply b1 | refine bS ?_ GE300.out) | exact HB.out)⟩
    (try clear BK300)
    (try clear HB)
    generalize (((((w28.setCell ⟨gb300, 0, none⟩ (.int .i64 ((rd_T111 l0 x10_1).f0))).setCell ⟨gb300, 1, none⟩ (.int .i64 ((rd_T111 l0 x10_1).f1))).setCell ⟨gb300, 2, none⟩ (.int .i64 ((rd_T111 l0 x10_1).f2))).setCell ⟨gb300, 3, none⟩ (.int .i64 ((rd_T111 l0 x10_1).f3))).setCell ⟨gb300, 4, none⟩ (.int .i64 ((rd_T111 l0 x10_1).f4))) = w30 at n0_ n1_ ⊢
    have BK300 := n0_
    have HB := n1_
    clear n0_ n1_
    have n0_ := zK (kD BK300.out)
    have n1_ := zK (b1 HB.out)
    clear BK300
    clear HB
    have BK300 := n0_
    have HB := n1_
    clear n0_ n1_
    refine start_ (n := 18) (S := fun w' => w'.cell? ⟨gb300, 0, none⟩ = some (.int .i64 ((rd_T111 l0 x10_1).f0)) ∧ w'.cell? ⟨gb300, 1, none⟩ = some (.int .i64 ((rd_T111 l0 x10_1).f1)) ∧ w'.cell? ⟨gb300, 2, none⟩ = some (.int .i64 ((rd_T111 l0 x10_1).f2)) ∧ w'.cell? ⟨gb300, 3, none⟩ = some (.int .i64 ((rd_T111 l0 x10_1).f3)) ∧ w'.cell? ⟨gb300, 4, none⟩ = some (.int .i64 ((rd_T111 l0 x10_1).f4))) (ds := []) b13A0 (by kernel_rfl) rfl rfl ⟨(bc BK300.out 0).trans rfl, (bc BK300.out 1).trans rfl, (bc BK300.out 2).trans rfl, (bc BK300.out 3).trans rfl, (bc BK300.out 4).trans rfl⟩ (fun hHeld => ?_); refine with_tabW impl_AreThings.tab6 impl_AreThings.bits6 (fun HT_ HW_ => ?_)
    generalize w30.drew = w31 at BK300 HB hHeld ⊢
    refine tI 0 (some 15) b13A1 HT_ HW_ hHeld rfl rfl (Or.inl ⟨by rfl, by rintro w' ⟨s0, s1, s2, s3, s4⟩; go_simp; with_reducible rfl⟩) ?_
    refine one_ (i := 1) (N := some 16) b13A2 rfl rfl (one_of HT_.out (by kernel_rfl)) (by decide) (fun K hK => ?_)
    refine goes_ Try.func160 (by kernel_rfl) rfl #[.agg #[.int .i64 ((rd_T111 l0 x10_1).f0), .int .i64 ((rd_T111 l0 x10_1).f1), .int .i64 ((rd_T111 l0 x10_1).f2), .int .i64 ((rd_T111 l0 x10_1).f3), .int .i64 ((rd_T111 l0 x10_1).f4)]] (by rfl) rfl rfl (by (try simp only [List.map_toArray, List.map_cons, List.map_nil]); first | done | rfl | (simp only [List.length_drop, List.length_take]; rfl)) ?_
    with_reducible refine (impl_IsThing.calls ((rd_T111 l0 x10_1).f0) ((rd_T111 l0 x10_1).f1) ((rd_T111 l0 x10_1).f2) ((rd_T111 l0 x10_1).f3) ((rd_T111 l0 x10_1).f4) false _ A6.out).mono ?_
    rintro e w32 ⟨rfl, hb⟩
    refine ⟨_, rfl, ?_⟩
    have n0_ := zK (bB (g := gb300) (o := .cells #[.int .i64 ((rd_T111 l0 x10_1).f0), .int .i64 ((rd_T111 l0 x10_1).f1), .int .i64 ((rd_T111 l0 x10_1).f2), .int .i64 ((rd_T111 l0 x10_1).f3), .int .i64 ((rd_T111 l0 x10_1).f4)] 111 (0, 0)) (qK BK300.out) hb)
    have n1_ := zK (bT (by repeat (first | (with_reducible first | exact HB.out | apply bA | apply bN | apply b1 | refine bS ?_ GE300.out) | exact HB.out)) hb)
    clear BK300
    clear HB
    have BK300 := n0_
    have HB := n1_
    clear n0_ n1_
    (try clear hb)
    (try clear hb2)
    (try clear hk)
    (try clear hi)
    refine hK.out _ _ ⟨(bc BK300.out 0).trans rfl, (bc BK300.out 1).trans rfl, (bc BK300.out 2).trans rfl, (bc BK300.out 3).trans rfl, (bc BK300.out 4).trans rfl⟩ (fun hHeld => ?_)
    clear hK K
    refine norm_ (a' := ?_) ?_ ?_
    rotate_left
    ·show Act.put _ (some 16) _ = _
     simp only [Act.put, sA, sZ, sS, i64_w, i32_w]
     rfl
    refine pI 2 (some 17) b13A3 HT_ ?_
    refine pI 3 (some 18) b13A4 HT_ ?_
    refine pU 4 (some 19) b13A5 HT_ ?_
    refine pU 5 (some 20) b13A6 HT_ ?_
    refine pU 6 (some 21) b13A7 HT_ ?_
    refine pU 7 (some 22) b13A8 HT_ ?_
    refine pU 8 (some 23) b13A19 HT_ ?_
    refine pU 9 (some 24) b13A20 HT_ ?_
    refine pU 10 (some 25) b13A21 HT_ ?_
    refine pU 11 (some 26) b13A22 HT_ ?_
    refine pU 12 (some 27) b13A23 HT_ ?_
    refine pU 13 (some 28) b13A14 HT_ ?_
    refine pU 14 (some 29) b13A15 HT_ ?_
    refine pU 15 (some 30) b13A16 HT_ ?_
    refine pU 16 (some 31) b13A17 HT_ ?_
    refine pI 17 (some 32) b13A18 HT_ ?_
    refine done_ (done_of HT_.out (by kernel_rfl)) ?_
    try go_wp2
    go_ret
    exact ⟨by first | rfl | (simp [errW_none, errW_some] <;> rfl) | (simp [*, errW_none, errW_some] <;> rfl), by repeat (first | (with_reducible first | exact HB.out | apply bA | apply bN | apply b1 | refine bS ?_ GE300.out) | exact HB.out)⟩
   subst c7
   have H1 : (if x10_1 > 0 then (if 0 ≤ (wrap64 (x10_1 - 1)) then (if (wrap64 (x10_1 - 1)) < (l0.length : Int) then (if ((rd_T111 l0 x10_1).f0) ≤ ((rd_T111 l0 (wrap64 (x10_1 - 1))).f0) then (some false) else (impl_AreThings.l0 k1 l0 l0 (l0.length : Int) (wrap64 (x10_1 + 1)))) else (none)) else (none)) else (impl_AreThings.l0 k1 l0 l0 (l0.length : Int) (wrap64 (x10_1 + 1)))) = some r := by rw [if_pos rfl] at H; exact H
   clear H
   have H := H1
   clear H1
   by_cases c8 : x10_1 > 0
   rotate_left
   ·rw [if_neg c8] at H
    have c8b0 : decide (0 < x10_1) = false := decide_eq_false c8
    clear c8
    have H' := zK H
    clear H
    have p299 : 0 ≤ (x10_1 : Int) := oD (by first | (with_reducible assumption) | assumption)
    have q299 : x10_1 < (l0.length : Int) := oD (by first | (with_reducible assumption) | assumption)
    obtain ⟨ad299, e299, hx299_0, hx299_1, hx299_2, hx299_3, hx299_4⟩ := at_T111 HR0.out x10_1 p299 q299
    cases e299
    replace hx299_0 := (HB.out.cell (bL w hx299_0)).trans hx299_0
    replace hx299_1 := (HB.out.cell (bL w hx299_1)).trans hx299_1
    replace hx299_2 := (HB.out.cell (bL w hx299_2)).trans hx299_2
    replace hx299_3 := (HB.out.cell (bL w hx299_3)).trans hx299_3
    replace hx299_4 := (HB.out.cell (bL w hx299_4)).trans hx299_4
    replace p299 := eq_true p299
    replace q299 := eq_true q299
    try go_wp2_with (first | ((with_reducible refine gate_dst (N := 4) rfl ?_); refine box_event ?hg (N := 4) ?hd (cs := #[.int .i64 0, .int .i64 0, .int .i64 0, .int .i64 0, .int .i64 0]) (t := 111) ?hr ?_; (case hd => rfl); (case hg => rfl); (case hr => first | (go_simp; done) | (go_simp; rfl)); intro gb300 hg w23 hbox hb; have n0_ := zK (bT (qB HB.out) hb); have n1_ := zK (hbox); have n2_ := zK ((by rw [hg]; exact (bZ (qB HB.out)) : w.heap.size ≤ gb300)); have n3_ := zK ((by rw [hg]; exact (bZ (qB HB.out)) : w.heap.size ≤ gb300)); clear HB; have HB := n0_; have BK300 := n1_; have GW300 := n2_; have GE300 := n3_; clear n0_ n1_ n2_ n3_; clear hb hbox hg; have hcz24_0 : w23.cell? ⟨gb300, 0, none⟩ = some (.int .i64 0) := (bc BK300.out 0).trans rfl; have hcz24_1 : w23.cell? ⟨gb300, 1, none⟩ = some (.int .i64 0) := (bc BK300.out 1).trans rfl; have hcz24_2 : w23.cell? ⟨gb300, 2, none⟩ = some (.int .i64 0) := (bc BK300.out 2).trans rfl; have hcz24_3 : w23.cell? ⟨gb300, 3, none⟩ = some (.int .i64 0) := (bc BK300.out 3).trans rfl; have hcz24_4 : w23.cell? ⟨gb300, 4, none⟩ = some (.int .i64 0) := (bc BK300.out 4).trans rfl; have hfz24_0 := bf BK300.out 0; have hfz24_1 := bf BK300.out 1; have hfz24_2 := bf BK300.out 2; have hfz24_3 := bf BK300.out 3; have hfz24_4 := bf BK300.out 4))
    have n0_ : Aside0 ((((((w23.setCell ⟨gb300, 0, none⟩ (.int .i64 ((rd_T111 l0 x10_1).f0))).setCell ⟨gb300, 1, none⟩ (.int .i64 ((rd_T111 l0 x10_1).f1))).setCell ⟨gb300, 2, none⟩ (.int .i64 ((rd_T111 l0 x10_1).f2))).setCell ⟨gb300, 3, none⟩ (.int .i64 ((rd_T111 l0 x10_1).f3))).setCell ⟨gb300, 4, none⟩ (.int .i64 ((rd_T111 l0 x10_1).f4))).heap[gb300]? = some (.cells #[.int .i64 ((rd_T111 l0 x10_1).f0), .int .i64 ((rd_T111 l0 x10_1).f1), .int .i64 ((rd_T111 l0 x10_1).f2), .int .i64 ((rd_T111 l0 x10_1).f3), .int .i64 ((rd_T111 l0 x10_1).f4)] 111 (0, 0))) := ⟨by (with_reducible repeat (first | refine kN ?_ _ | refine kD ?_ | refine kA ?_ _)); refine blk_put (cs := #[.int .i64 ((rd_T111 l0 x10_1).f0), .int .i64 ((rd_T111 l0 x10_1).f1), .int .i64 ((rd_T111 l0 x10_1).f2), .int .i64 ((rd_T111 l0 x10_1).f3), .int .i64 0]) ?_ 4 _ rfl; (with_reducible repeat (first | refine kN ?_ _ | refine kD ?_ | refine kA ?_ _)); refine blk_put (cs := #[.int .i64 ((rd_T111 l0 x10_1).f0), .int .i64 ((rd_T111 l0 x10_1).f1), .int .i64 ((rd_T111 l0 x10_1).f2), .int .i64 0, .int .i64 0]) ?_ 3 _ rfl; (with_reducible repeat (first | refine kN ?_ _ | refine kD ?_ | refine kA ?_ _)); refine blk_put (cs := #[.int .i64 ((rd_T111 l0 x10_1).f0), .int .i64 ((rd_T111 l0 x10_1).f1), .int .i64 0, .int .i64 0, .int .i64 0]) ?_ 2 _ rfl; (with_reducible repeat (first | refine kN ?_ _ | refine kD ?_ | refine kA ?_ _)); refine blk_put (cs := #[.int .i64 ((rd_T111 l0 x10_1).f0), .int .i64 0, .int .i64 0, .int .i64 0, .int .i64 0]) ?_ 1 _ rfl; (with_reducible repeat (first | refine kN ?_ _ | refine kD ?_ | refine kA ?_ _)); refine blk_put (cs := #[.int .i64 0, .int .i64 0, .int .i64 0, .int .i64 0, .int .i64 0]) ?_ 0 _ rfl; exact qK BK300.out⟩
    have n1_ : Aside0 (Below w.heap.size w (((((w23.setCell ⟨gb300, 0, none⟩ (.int .i64 ((rd_T111 l0 x10_1).f0))).setCell ⟨gb300, 1, none⟩ (.int .i64 ((rd_T111 l0 x10_1).f1))).setCell ⟨gb300, 2, none⟩ (.int .i64 ((rd_T111 l0 x10_1).f2))).setCell ⟨gb300, 3, none⟩ (.int .i64 ((rd_T111 l0 x10_1).f3))).setCell ⟨gb300, 4, none⟩ (.int .i64 ((rd_T111 l0 x10_1).f4)))) := ⟨by repeat (first | (with_reducible first | exact HB.out | apply bA | apply bN | apply b1 | refine bS ?_ GE300.out) | exact HB.out)⟩
    (try clear BK300)
    (try clear HB)
    generalize (((((w23.setCell ⟨gb300, 0, none⟩ (.int .i64 ((rd_T111 l0 x10_1).f0))).setCell ⟨gb300, 1, none⟩ (.int .i64 ((rd_T111 l0 x10_1).f1))).setCell ⟨gb300, 2, none⟩ (.int .i64 ((rd_T111 l0 x10_1).f2))).setCell ⟨gb300, 3, none⟩ (.int .i64 ((rd_T111 l0 x10_1).f3))).setCell ⟨gb300, 4, none⟩ (.int .i64 ((rd_T111 l0 x10_1).f4))) = w25 at n0_ n1_ ⊢
    have BK300 := n0_
    have HB := n1_
    clear n0_ n1_
    have n0_ := zK (kD BK300.out)
    have n1_ := zK (b1 HB.out)
    clear BK300
    clear HB
    have BK300 := n0_
    have HB := n1_
    clear n0_ n1_
    refine start_ (n := 18) (S := fun w' => w'.cell? ⟨gb300, 0, none⟩ = some (.int .i64 ((rd_T111 l0 x10_1).f0)) ∧ w'.cell? ⟨gb300, 1, none⟩ = some (.int .i64 ((rd_T111 l0 x10_1).f1)) ∧ w'.cell? ⟨gb300, 2, none⟩ = some (.int .i64 ((rd_T111 l0 x10_1).f2)) ∧ w'.cell? ⟨gb300, 3, none⟩ = some (.int .i64 ((rd_T111 l0 x10_1).f3)) ∧ w'.cell? ⟨gb300, 4, none⟩ = some (.int .i64 ((rd_T111 l0 x10_1).f4))) (ds := []) b13A0 (by kernel_rfl) rfl rfl ⟨(bc BK300.out 0).trans rfl, (bc BK300.out 1).trans rfl, (bc BK300.out 2).trans rfl, (bc BK300.out 3).trans rfl, (bc BK300.out 4).trans rfl⟩ (fun hHeld => ?_); refine with_tabW impl_AreThings.tab6 impl_AreThings.bits6 (fun HT_ HW_ => ?_)
    generalize w25.drew = w26 at BK300 HB hHeld ⊢
    refine tI 0 (some 15) b13A1 HT_ HW_ hHeld rfl rfl (Or.inl ⟨by rfl, by rintro w' ⟨s0, s1, s2, s3, s4⟩; go_simp; with_reducible rfl⟩) ?_
    refine one_ (i := 1) (N := some 16) b13A2 rfl rfl (one_of HT_.out (by kernel_rfl)) (by decide) (fun K hK => ?_)
    refine goes_ Try.func160 (by kernel_rfl) rfl #[.agg #[.int .i64 ((rd_T111 l0 x10_1).f0), .int .i64 ((rd_T111 l0 x10_1).f1), .int .i64 ((rd_T111 l0 x10_1).f2), .int .i64 ((rd_T111 l0 x10_1).f3), .int .i64 ((rd_T111 l0 x10_1).f4)]] (by rfl) rfl rfl (by (try simp only [List.map_toArray, List.map_cons, List.map_nil]); first | done | rfl | (simp only [List.length_drop, List.length_take]; rfl)) ?_
    with_reducible refine (impl_IsThing.calls ((rd_T111 l0 x10_1).f0) ((rd_T111 l0 x10_1).f1) ((rd_T111 l0 x10_1).f2) ((rd_T111 l0 x10_1).f3) ((rd_T111 l0 x10_1).f4) true _ A6.out).mono ?_
    rintro e w27 ⟨rfl, hb⟩
    refine ⟨_, rfl, ?_⟩
    have n0_ := zK (bB (g := gb300) (o := .cells #[.int .i64 ((rd_T111 l0 x10_1).f0), .int .i64 ((rd_T111 l0 x10_1).f1), .int .i64 ((rd_T111 l0 x10_1).f2), .int .i64 ((rd_T111 l0 x10_1).f3), .int .i64 ((rd_T111 l0 x10_1).f4)] 111 (0, 0)) (qK BK300.out) hb)
    have n1_ := zK (bT (by repeat (first | (with_reducible first | exact HB.out | apply bA | apply bN | apply b1 | refine bS ?_ GE300.out) | exact HB.out)) hb)
    clear BK300
    clear HB
    have BK300 := n0_
    have HB := n1_
    clear n0_ n1_
    (try clear hb)
    (try clear hb2)
    (try clear hk)
    (try clear hi)
    refine hK.out _ _ ⟨(bc BK300.out 0).trans rfl, (bc BK300.out 1).trans rfl, (bc BK300.out 2).trans rfl, (bc BK300.out 3).trans rfl, (bc BK300.out 4).trans rfl⟩ (fun hHeld => ?_)
    clear hK K
    refine norm_ (a' := ?_) ?_ ?_
    rotate_left
    ·show Act.put _ (some 16) _ = _
     simp only [Act.put, sA, sZ, sS, i64_w, i32_w]
     rfl
    refine pI 2 (some 17) b13A3 HT_ ?_
    refine pI 3 (some 18) b13A4 HT_ ?_
    refine pI 4 (some 19) b13A5 HT_ ?_
    refine pI 5 (some 20) b13A6 HT_ ?_
    refine pI 6 (some 21) b13A7 HT_ ?_
    refine pU 7 (some 22) b13A8 HT_ ?_
    refine pU 8 (some 23) b13A19 HT_ ?_
    refine pU 9 (some 24) b13A20 HT_ ?_
    refine pU 10 (some 25) b13A21 HT_ ?_
    refine pU 11 (some 26) b13A22 HT_ ?_
    refine pU 12 (some 27) b13A23 HT_ ?_
    refine pU 13 (some 28) b13A14 HT_ ?_
    refine pU 14 (some 29) b13A15 HT_ ?_
    refine pU 15 (some 30) b13A16 HT_ ?_
    refine pI 16 (some 31) b13A17 HT_ ?_
    refine pI 17 (some 32) b13A18 HT_ ?_
    refine done_ (done_of HT_.out (by kernel_rfl)) ?_
    try go_wp2
    go_roundg k1
    case measure => have := HK1.out; omega
    case rel => exact ⟨(wrap64 (x10_1 + 1)), (by first | rfl | (simp; done) | (simp [*]; done)), H', ⟨by have := HK1.out; omega⟩, ⟨by repeat (first | (with_reducible first | exact HB.out | apply bA | apply bN | apply b1 | refine bS ?_ GE300.out) | exact HB.out)⟩⟩
   rw [if_pos c8] at H
   have c8b0 : decide (0 < x10_1) = true := decide_eq_true c8
   clear c8
   obtain ⟨ji9, hji9⟩ : ∃ j_ : Int, (wrap64 (x10_1 - 1)) = j_ := ⟨_, rfl⟩
   replace H : (if 0 ≤ (ji9) then (if (ji9) < (l0.length : Int) then (if ((rd_T111 l0 x10_1).f0) ≤ ((rd_T111 l0 (ji9)).f0) then (some false) else (impl_AreThings.l0 k1 l0 l0 (l0.length : Int) (wrap64 (x10_1 + 1)))) else (none)) else (none)) = some r := by first | (rw [hji9] at H; exact H) | (simp only [hji9] at H ⊢; exact H)
   (try rw [hji9] at A6)
   have hji9w : (IntKind.i64.wrap (x10_1 - 1)) = ji9 := (i64_w _).trans hji9
   by_cases c10 : 0 ≤ (ji9)
   rotate_left
   ·rw [if_neg c10] at H
    exact absurd H (by simp)
   rw [if_pos c10] at H
   have c10b0 : decide (0 ≤ (ji9)) = true := decide_eq_true c10
   clear c10
   by_cases c11 : (ji9) < (l0.length : Int)
   rotate_left
   ·rw [if_neg c11] at H
    exact absurd H (by simp)
   rw [if_pos c11] at H
   have c11b0 : decide ((ji9) < (l0.length : Int)) = true := decide_eq_true c11
   clear c11
   by_cases c12 : ((rd_T111 l0 x10_1).f0) ≤ ((rd_T111 l0 (ji9)).f0)
   ·rw [if_pos c12] at H
    have c12b0 : decide (((rd_T111 l0 x10_1).f0) ≤ ((rd_T111 l0 (ji9)).f0)) = true := decide_eq_true c12
    clear c12
    obtain rfl := Option.some.inj H
    have p299 : 0 ≤ (x10_1 : Int) := oD (by first | (with_reducible assumption) | assumption)
    have q299 : x10_1 < (l0.length : Int) := oD (by first | (with_reducible assumption) | assumption)
    obtain ⟨ad299, e299, hx299_0, hx299_1, hx299_2, hx299_3, hx299_4⟩ := at_T111 HR0.out x10_1 p299 q299
    cases e299
    replace hx299_0 := (HB.out.cell (bL w hx299_0)).trans hx299_0
    replace hx299_1 := (HB.out.cell (bL w hx299_1)).trans hx299_1
    replace hx299_2 := (HB.out.cell (bL w hx299_2)).trans hx299_2
    replace hx299_3 := (HB.out.cell (bL w hx299_3)).trans hx299_3
    replace hx299_4 := (HB.out.cell (bL w hx299_4)).trans hx299_4
    replace p299 := eq_true p299
    replace q299 := eq_true q299
    try go_wp2_with (first | ((with_reducible refine gate_dst (N := 4) rfl ?_); refine box_event ?hg (N := 4) ?hd (cs := #[.int .i64 0, .int .i64 0, .int .i64 0, .int .i64 0, .int .i64 0]) (t := 111) ?hr ?_; (case hd => rfl); (case hg => rfl); (case hr => first | (go_simp; done) | (go_simp; rfl)); intro gb300 hg w13 hbox hb; have n0_ := zK (bT (qB HB.out) hb); have n1_ := zK (hbox); have n2_ := zK ((by rw [hg]; exact (bZ (qB HB.out)) : w.heap.size ≤ gb300)); have n3_ := zK ((by rw [hg]; exact (bZ (qB HB.out)) : w.heap.size ≤ gb300)); clear HB; have HB := n0_; have BK300 := n1_; have GW300 := n2_; have GE300 := n3_; clear n0_ n1_ n2_ n3_; clear hb hbox hg; have hcz14_0 : w13.cell? ⟨gb300, 0, none⟩ = some (.int .i64 0) := (bc BK300.out 0).trans rfl; have hcz14_1 : w13.cell? ⟨gb300, 1, none⟩ = some (.int .i64 0) := (bc BK300.out 1).trans rfl; have hcz14_2 : w13.cell? ⟨gb300, 2, none⟩ = some (.int .i64 0) := (bc BK300.out 2).trans rfl; have hcz14_3 : w13.cell? ⟨gb300, 3, none⟩ = some (.int .i64 0) := (bc BK300.out 3).trans rfl; have hcz14_4 : w13.cell? ⟨gb300, 4, none⟩ = some (.int .i64 0) := (bc BK300.out 4).trans rfl; have hfz14_0 := bf BK300.out 0; have hfz14_1 := bf BK300.out 1; have hfz14_2 := bf BK300.out 2; have hfz14_3 := bf BK300.out 3; have hfz14_4 := bf BK300.out 4))
    have n0_ : Aside0 ((((((w13.setCell ⟨gb300, 0, none⟩ (.int .i64 ((rd_T111 l0 x10_1).f0))).setCell ⟨gb300, 1, none⟩ (.int .i64 ((rd_T111 l0 x10_1).f1))).setCell ⟨gb300, 2, none⟩ (.int .i64 ((rd_T111 l0 x10_1).f2))).setCell ⟨gb300, 3, none⟩ (.int .i64 ((rd_T111 l0 x10_1).f3))).setCell ⟨gb300, 4, none⟩ (.int .i64 ((rd_T111 l0 x10_1).f4))).heap[gb300]? = some (.cells #[.int .i64 ((rd_T111 l0 x10_1).f0), .int .i64 ((rd_T111 l0 x10_1).f1), .int .i64 ((rd_T111 l0 x10_1).f2), .int .i64 ((rd_T111 l0 x10_1).f3), .int .i64 ((rd_T111 l0 x10_1).f4)] 111 (0, 0))) := ⟨by (with_reducible repeat (first | refine kN ?_ _ | refine kD ?_ | refine kA ?_ _)); refine blk_put (cs := #[.int .i64 ((rd_T111 l0 x10_1).f0), .int .i64 ((rd_T111 l0 x10_1).f1), .int .i64 ((rd_T111 l0 x10_1).f2), .int .i64 ((rd_T111 l0 x10_1).f3), .int .i64 0]) ?_ 4 _ rfl; (with_reducible repeat (first | refine kN ?_ _ | refine kD ?_ | refine kA ?_ _)); refine blk_put (cs := #[.int .i64 ((rd_T111 l0 x10_1).f0), .int .i64 ((rd_T111 l0 x10_1).f1), .int .i64 ((rd_T111 l0 x10_1).f2), .int .i64 0, .int .i64 0]) ?_ 3 _ rfl; (with_reducible repeat (first | refine kN ?_ _ | refine kD ?_ | refine kA ?_ _)); refine blk_put (cs := #[.int .i64 ((rd_T111 l0 x10_1).f0), .int .i64 ((rd_T111 l0 x10_1).f1), .int .i64 0, .int .i64 0, .int .i64 0]) ?_ 2 _ rfl; (with_reducible repeat (first | refine kN ?_ _ | refine kD ?_ | refine kA ?_ _)); refine blk_put (cs := #[.int .i64 ((rd_T111 l0 x10_1).f0), .int .i64 0, .int .i64 0, .int .i64 0, .int .i64 0]) ?_ 1 _ rfl; (with_reducible repeat (first | refine kN ?_ _ | refine kD ?_ | refine kA ?_ _)); refine blk_put (cs := #[.int .i64 0, .int .i64 0, .int .i64 0, .int .i64 0, .int .i64 0]) ?_ 0 _ rfl; exact qK BK300.out⟩
    have n1_ : Aside0 (Below w.heap.size w (((((w13.setCell ⟨gb300, 0, none⟩ (.int .i64 ((rd_T111 l0 x10_1).f0))).setCell ⟨gb300, 1, none⟩ (.int .i64 ((rd_T111 l0 x10_1).f1))).setCell ⟨gb300, 2, none⟩ (.int .i64 ((rd_T111 l0 x10_1).f2))).setCell ⟨gb300, 3, none⟩ (.int .i64 ((rd_T111 l0 x10_1).f3))).setCell ⟨gb300, 4, none⟩ (.int .i64 ((rd_T111 l0 x10_1).f4)))) := ⟨by repeat (first | (with_reducible first | exact HB.out | apply bA | apply bN | apply b1 | refine bS ?_ GE300.out) | exact HB.out)⟩
    (try clear BK300)
    (try clear HB)
    generalize (((((w13.setCell ⟨gb300, 0, none⟩ (.int .i64 ((rd_T111 l0 x10_1).f0))).setCell ⟨gb300, 1, none⟩ (.int .i64 ((rd_T111 l0 x10_1).f1))).setCell ⟨gb300, 2, none⟩ (.int .i64 ((rd_T111 l0 x10_1).f2))).setCell ⟨gb300, 3, none⟩ (.int .i64 ((rd_T111 l0 x10_1).f3))).setCell ⟨gb300, 4, none⟩ (.int .i64 ((rd_T111 l0 x10_1).f4))) = w15 at n0_ n1_ ⊢
    have BK300 := n0_
    have HB := n1_
    clear n0_ n1_
    have n0_ := zK (kD BK300.out)
    have n1_ := zK (b1 HB.out)
    clear BK300
    clear HB
    have BK300 := n0_
    have HB := n1_
    clear n0_ n1_
    have p302 : 0 ≤ ((ji9) : Int) := oD (by first | (with_reducible assumption) | assumption)
    have q302 : (ji9) < (l0.length : Int) := oD (by first | (with_reducible assumption) | assumption)
    obtain ⟨ad302, e302, hx302_0, hx302_1, hx302_2, hx302_3, hx302_4⟩ := at_T111 HR0.out (ji9) p302 q302
    have hw302_4 := hx302_4
    have hw302_3 := hx302_3
    have hw302_2 := hx302_2
    have hw302_1 := hx302_1
    have hw302_0 := hx302_0
    obtain rfl : ad299 = ad302 := (by injection e302)
    replace hx302_0 := (HB.out.cell (bL w hx302_0)).trans hx302_0
    replace hx302_1 := (HB.out.cell (bL w hx302_1)).trans hx302_1
    replace hx302_2 := (HB.out.cell (bL w hx302_2)).trans hx302_2
    replace hx302_3 := (HB.out.cell (bL w hx302_3)).trans hx302_3
    replace hx302_4 := (HB.out.cell (bL w hx302_4)).trans hx302_4
    replace p302 := eq_true p302
    replace q302 := eq_true q302
    refine start_ (n := 18) (S := fun w' => w'.cell? ⟨gb300, 0, none⟩ = some (.int .i64 ((rd_T111 l0 x10_1).f0)) ∧ w'.cell? ⟨gb300, 1, none⟩ = some (.int .i64 ((rd_T111 l0 x10_1).f1)) ∧ w'.cell? ⟨gb300, 2, none⟩ = some (.int .i64 ((rd_T111 l0 x10_1).f2)) ∧ w'.cell? ⟨gb300, 3, none⟩ = some (.int .i64 ((rd_T111 l0 x10_1).f3)) ∧ w'.cell? ⟨gb300, 4, none⟩ = some (.int .i64 ((rd_T111 l0 x10_1).f4)) ∧ w'.cell? (ad299.add (((ji9)).toNat * 5)) = some (.int .i64 ((rd_T111 l0 (ji9)).f0)) ∧ w'.cell? ⟨(ad299.add (((ji9)).toNat * 5)).block, (ad299.add (((ji9)).toNat * 5)).off + 1, none⟩ = some (.int .i64 ((rd_T111 l0 (ji9)).f1)) ∧ w'.cell? ⟨(ad299.add (((ji9)).toNat * 5)).block, (ad299.add (((ji9)).toNat * 5)).off + 2, none⟩ = some (.int .i64 ((rd_T111 l0 (ji9)).f2)) ∧ w'.cell? ⟨(ad299.add (((ji9)).toNat * 5)).block, (ad299.add (((ji9)).toNat * 5)).off + 3, none⟩ = some (.int .i64 ((rd_T111 l0 (ji9)).f3)) ∧ w'.cell? ⟨(ad299.add (((ji9)).toNat * 5)).block, (ad299.add (((ji9)).toNat * 5)).off + 4, none⟩ = some (.int .i64 ((rd_T111 l0 (ji9)).f4))) (ds := []) b13A0 (by kernel_rfl) rfl rfl ⟨(bc BK300.out 0).trans rfl, (bc BK300.out 1).trans rfl, (bc BK300.out 2).trans rfl, (bc BK300.out 3).trans rfl, (bc BK300.out 4).trans rfl, ((HB.out.cell (bL w hw302_0)).trans hw302_0), ((HB.out.cell (bL w hw302_1)).trans hw302_1), ((HB.out.cell (bL w hw302_2)).trans hw302_2), ((HB.out.cell (bL w hw302_3)).trans hw302_3), ((HB.out.cell (bL w hw302_4)).trans hw302_4)⟩ (fun hHeld => ?_); refine with_tabW impl_AreThings.tab6 impl_AreThings.bits6 (fun HT_ HW_ => ?_)
    generalize w15.drew = w16 at BK300 HB hx302_0 hx302_1 hx302_2 hx302_3 hx302_4 hHeld ⊢
    refine tI 0 (some 15) b13A1 HT_ HW_ hHeld rfl rfl (Or.inl ⟨by rfl, by rintro w' ⟨s0, s1, s2, s3, s4, s5, s6, s7, s8, s9⟩; go_simp; with_reducible rfl⟩) ?_
    refine one_ (i := 1) (N := some 16) b13A2 rfl rfl (one_of HT_.out (by kernel_rfl)) (by decide) (fun K hK => ?_)
    refine goes_ Try.func160 (by kernel_rfl) rfl #[.agg #[.int .i64 ((rd_T111 l0 x10_1).f0), .int .i64 ((rd_T111 l0 x10_1).f1), .int .i64 ((rd_T111 l0 x10_1).f2), .int .i64 ((rd_T111 l0 x10_1).f3), .int .i64 ((rd_T111 l0 x10_1).f4)]] (by rfl) rfl rfl (by (try simp only [List.map_toArray, List.map_cons, List.map_nil]); first | done | rfl | (simp only [List.length_drop, List.length_take]; rfl)) ?_
    with_reducible refine (impl_IsThing.calls ((rd_T111 l0 x10_1).f0) ((rd_T111 l0 x10_1).f1) ((rd_T111 l0 x10_1).f2) ((rd_T111 l0 x10_1).f3) ((rd_T111 l0 x10_1).f4) true _ A6.out).mono ?_
    rintro e w17 ⟨rfl, hb⟩
    refine ⟨_, rfl, ?_⟩
    have n0_ := zK (bB (g := gb300) (o := .cells #[.int .i64 ((rd_T111 l0 x10_1).f0), .int .i64 ((rd_T111 l0 x10_1).f1), .int .i64 ((rd_T111 l0 x10_1).f2), .int .i64 ((rd_T111 l0 x10_1).f3), .int .i64 ((rd_T111 l0 x10_1).f4)] 111 (0, 0)) (qK BK300.out) hb)
    have n1_ := zK (bT (by repeat (first | (with_reducible first | exact HB.out | apply bA | apply bN | apply b1 | refine bS ?_ GE300.out) | exact HB.out)) hb)
    clear BK300
    clear HB
    have BK300 := n0_
    have HB := n1_
    clear n0_ n1_
    (try clear hb)
    (try clear hb2)
    (try clear hk)
    (try clear hi)
    refine hK.out _ _ ⟨(bc BK300.out 0).trans rfl, (bc BK300.out 1).trans rfl, (bc BK300.out 2).trans rfl, (bc BK300.out 3).trans rfl, (bc BK300.out 4).trans rfl, ((HB.out.cell (bL w hw302_0)).trans hw302_0), ((HB.out.cell (bL w hw302_1)).trans hw302_1), ((HB.out.cell (bL w hw302_2)).trans hw302_2), ((HB.out.cell (bL w hw302_3)).trans hw302_3), ((HB.out.cell (bL w hw302_4)).trans hw302_4)⟩ (fun hHeld => ?_)
    clear hK K
    refine norm_ (a' := ?_) ?_ ?_
    rotate_left
    ·show Act.put _ (some 16) _ = _
     simp only [Act.put, sA, sZ, sS, i64_w, i32_w]
     rfl
    refine pI 2 (some 17) b13A3 HT_ ?_
    refine pI 3 (some 18) b13A4 HT_ ?_
    refine pI 4 (some 19) b13A5 HT_ ?_
    refine pI 5 (some 20) b13A6 HT_ ?_
    refine pI 6 (some 21) b13A7 HT_ ?_
    refine pI 7 (some 22) b13A8 HT_ ?_
    refine pI 9 (some 24) b13A9 HT_ ?_
    refine pI 10 (some 25) b13A10 HT_ ?_
    refine pI 11 (some 26) b13A11 HT_ ?_
    refine pI 12 (some 27) b13A12 HT_ ?_
    refine pI 13 (some 28) b13A13 HT_ ?_
    refine tI 8 (some 23) b13A14 HT_ HW_ hHeld rfl rfl (Or.inl ⟨by rfl, by rintro w' ⟨s0, s1, s2, s3, s4, s5, s6, s7, s8, s9⟩; go_simp; with_reducible rfl⟩) ?_
    refine tI 14 (some 29) b13A15 HT_ HW_ hHeld rfl rfl (Or.inl ⟨by rfl, by rintro w' ⟨s0, s1, s2, s3, s4, s5, s6, s7, s8, s9⟩; go_simp; with_reducible rfl⟩) ?_
    refine pI 15 (some 30) b13A16 HT_ ?_
    refine pI 16 (some 31) b13A17 HT_ ?_
    refine pI 17 (some 32) b13A18 HT_ ?_
    refine done_ (done_of HT_.out (by kernel_rfl)) ?_
    try go_wp2
    go_ret
    exact ⟨by first | rfl | (simp [errW_none, errW_some] <;> rfl) | (simp only [← hji9]; first | rfl | (simp [errW_none, errW_some] <;> rfl)) | (simp [*, errW_none, errW_some] <;> rfl), by repeat (first | (with_reducible first | exact HB.out | apply bA | apply bN | apply b1 | refine bS ?_ GE300.out) | exact HB.out)⟩
   rw [if_neg c12] at H
   have c12b0 : decide (((rd_T111 l0 x10_1).f0) ≤ ((rd_T111 l0 (ji9)).f0)) = false := decide_eq_false c12
   clear c12
   have H' := zK H
   clear H
   have p299 : 0 ≤ (x10_1 : Int) := oD (by first | (with_reducible assumption) | assumption)
   have q299 : x10_1 < (l0.length : Int) := oD (by first | (with_reducible assumption) | assumption)
   obtain ⟨ad299, e299, hx299_0, hx299_1, hx299_2, hx299_3, hx299_4⟩ := at_T111 HR0.out x10_1 p299 q299
   cases e299
   replace hx299_0 := (HB.out.cell (bL w hx299_0)).trans hx299_0
   replace hx299_1 := (HB.out.cell (bL w hx299_1)).trans hx299_1
   replace hx299_2 := (HB.out.cell (bL w hx299_2)).trans hx299_2
   replace hx299_3 := (HB.out.cell (bL w hx299_3)).trans hx299_3
   replace hx299_4 := (HB.out.cell (bL w hx299_4)).trans hx299_4
   replace p299 := eq_true p299
   replace q299 := eq_true q299
   try go_wp2_with (first | ((with_reducible refine gate_dst (N := 4) rfl ?_); refine box_event ?hg (N := 4) ?hd (cs := #[.int .i64 0, .int .i64 0, .int .i64 0, .int .i64 0, .int .i64 0]) (t := 111) ?hr ?_; (case hd => rfl); (case hg => rfl); (case hr => first | (go_simp; done) | (go_simp; rfl)); intro gb300 hg w18 hbox hb; have n0_ := zK (bT (qB HB.out) hb); have n1_ := zK (hbox); have n2_ := zK ((by rw [hg]; exact (bZ (qB HB.out)) : w.heap.size ≤ gb300)); have n3_ := zK ((by rw [hg]; exact (bZ (qB HB.out)) : w.heap.size ≤ gb300)); clear HB; have HB := n0_; have BK300 := n1_; have GW300 := n2_; have GE300 := n3_; clear n0_ n1_ n2_ n3_; clear hb hbox hg; have hcz19_0 : w18.cell? ⟨gb300, 0, none⟩ = some (.int .i64 0) := (bc BK300.out 0).trans rfl; have hcz19_1 : w18.cell? ⟨gb300, 1, none⟩ = some (.int .i64 0) := (bc BK300.out 1).trans rfl; have hcz19_2 : w18.cell? ⟨gb300, 2, none⟩ = some (.int .i64 0) := (bc BK300.out 2).trans rfl; have hcz19_3 : w18.cell? ⟨gb300, 3, none⟩ = some (.int .i64 0) := (bc BK300.out 3).trans rfl; have hcz19_4 : w18.cell? ⟨gb300, 4, none⟩ = some (.int .i64 0) := (bc BK300.out 4).trans rfl; have hfz19_0 := bf BK300.out 0; have hfz19_1 := bf BK300.out 1; have hfz19_2 := bf BK300.out 2; have hfz19_3 := bf BK300.out 3; have hfz19_4 := bf BK300.out 4))
   have n0_ : Aside0 ((((((w18.setCell ⟨gb300, 0, none⟩ (.int .i64 ((rd_T111 l0 x10_1).f0))).setCell ⟨gb300, 1, none⟩ (.int .i64 ((rd_T111 l0 x10_1).f1))).setCell ⟨gb300, 2, none⟩ (.int .i64 ((rd_T111 l0 x10_1).f2))).setCell ⟨gb300, 3, none⟩ (.int .i64 ((rd_T111 l0 x10_1).f3))).setCell ⟨gb300, 4, none⟩ (.int .i64 ((rd_T111 l0 x10_1).f4))).heap[gb300]? = some (.cells #[.int .i64 ((rd_T111 l0 x10_1).f0), .int .i64 ((rd_T111 l0 x10_1).f1), .int .i64 ((rd_T111 l0 x10_1).f2), .int .i64 ((rd_T111 l0 x10_1).f3), .int .i64 ((rd_T111 l0 x10_1).f4)] 111 (0, 0))) := ⟨by (with_reducible repeat (first | refine kN ?_ _ | refine kD ?_ | refine kA ?_ _)); refine blk_put (cs := #[.int .i64 ((rd_T111 l0 x10_1).f0), .int .i64 ((rd_T111 l0 x10_1).f1), .int .i64 ((rd_T111 l0 x10_1).f2), .int .i64 ((rd_T111 l0 x10_1).f3), .int .i64 0]) ?_ 4 _ rfl; (with_reducible repeat (first | refine kN ?_ _ | refine kD ?_ | refine kA ?_ _)); refine blk_put (cs := #[.int .i64 ((rd_T111 l0 x10_1).f0), .int .i64 ((rd_T111 l0 x10_1).f1), .int .i64 ((rd_T111 l0 x10_1).f2), .int .i64 0, .int .i64 0]) ?_ 3 _ rfl; (with_reducible repeat (first | refine kN ?_ _ | refine kD ?_ | refine kA ?_ _)); refine blk_put (cs := #[.int .i64 ((rd_T111 l0 x10_1).f0), .int .i64 ((rd_T111 l0 x10_1).f1), .int .i64 0, .int .i64 0, .int .i64 0]) ?_ 2 _ rfl; (with_reducible repeat (first | refine kN ?_ _ | refine kD ?_ | refine kA ?_ _)); refine blk_put (cs := #[.int .i64 ((rd_T111 l0 x10_1).f0), .int .i64 0, .int .i64 0, .int .i64 0, .int .i64 0]) ?_ 1 _ rfl; (with_reducible repeat (first | refine kN ?_ _ | refine kD ?_ | refine kA ?_ _)); refine blk_put (cs := #[.int .i64 0, .int .i64 0, .int .i64 0, .int .i64 0, .int .i64 0]) ?_ 0 _ rfl; exact qK BK300.out⟩
   have n1_ : Aside0 (Below w.heap.size w (((((w18.setCell ⟨gb300, 0, none⟩ (.int .i64 ((rd_T111 l0 x10_1).f0))).setCell ⟨gb300, 1, none⟩ (.int .i64 ((rd_T111 l0 x10_1).f1))).setCell ⟨gb300, 2, none⟩ (.int .i64 ((rd_T111 l0 x10_1).f2))).setCell ⟨gb300, 3, none⟩ (.int .i64 ((rd_T111 l0 x10_1).f3))).setCell ⟨gb300, 4, none⟩ (.int .i64 ((rd_T111 l0 x10_1).f4)))) := ⟨by repeat (first | (with_reducible first | exact HB.out | apply bA | apply bN | apply b1 | refine bS ?_ GE300.out) | exact HB.out)⟩
   (try clear BK300)
   (try clear HB)
   generalize (((((w18.setCell ⟨gb300, 0, none⟩ (.int .i64 ((rd_T111 l0 x10_1).f0))).setCell ⟨gb300, 1, none⟩ (.int .i64 ((rd_T111 l0 x10_1).f1))).setCell ⟨gb300, 2, none⟩ (.int .i64 ((rd_T111 l0 x10_1).f2))).setCell ⟨gb300, 3, none⟩ (.int .i64 ((rd_T111 l0 x10_1).f3))).setCell ⟨gb300, 4, none⟩ (.int .i64 ((rd_T111 l0 x10_1).f4))) = w20 at n0_ n1_ ⊢
   have BK300 := n0_
   have HB := n1_
   clear n0_ n1_
   have n0_ := zK (kD BK300.out)
   have n1_ := zK (b1 HB.out)
   clear BK300
   clear HB
   have BK300 := n0_
   have HB := n1_
   clear n0_ n1_
   have p302 : 0 ≤ ((ji9) : Int) := oD (by first | (with_reducible assumption) | assumption)
   have q302 : (ji9) < (l0.length : Int) := oD (by first | (with_reducible assumption) | assumption)
   obtain ⟨ad302, e302, hx302_0, hx302_1, hx302_2, hx302_3, hx302_4⟩ := at_T111 HR0.out (ji9) p302 q302
   have hw302_4 := hx302_4
   have hw302_3 := hx302_3
   have hw302_2 := hx302_2
   have hw302_1 := hx302_1
   have hw302_0 := hx302_0
   obtain rfl : ad299 = ad302 := (by injection e302)
   replace hx302_0 := (HB.out.cell (bL w hx302_0)).trans hx302_0
   replace hx302_1 := (HB.out.cell (bL w hx302_1)).trans hx302_1
   replace hx302_2 := (HB.out.cell (bL w hx302_2)).trans hx302_2
   replace hx302_3 := (HB.out.cell (bL w hx302_3)).trans hx302_3
   replace hx302_4 := (HB.out.cell (bL w hx302_4)).trans hx302_4
   replace p302 := eq_true p302
   replace q302 := eq_true q302
   refine start_ (n := 18) (S := fun w' => w'.cell? ⟨gb300, 0, none⟩ = some (.int .i64 ((rd_T111 l0 x10_1).f0)) ∧ w'.cell? ⟨gb300, 1, none⟩ = some (.int .i64 ((rd_T111 l0 x10_1).f1)) ∧ w'.cell? ⟨gb300, 2, none⟩ = some (.int .i64 ((rd_T111 l0 x10_1).f2)) ∧ w'.cell? ⟨gb300, 3, none⟩ = some (.int .i64 ((rd_T111 l0 x10_1).f3)) ∧ w'.cell? ⟨gb300, 4, none⟩ = some (.int .i64 ((rd_T111 l0 x10_1).f4)) ∧ w'.cell? (ad299.add (((ji9)).toNat * 5)) = some (.int .i64 ((rd_T111 l0 (ji9)).f0)) ∧ w'.cell? ⟨(ad299.add (((ji9)).toNat * 5)).block, (ad299.add (((ji9)).toNat * 5)).off + 1, none⟩ = some (.int .i64 ((rd_T111 l0 (ji9)).f1)) ∧ w'.cell? ⟨(ad299.add (((ji9)).toNat * 5)).block, (ad299.add (((ji9)).toNat * 5)).off + 2, none⟩ = some (.int .i64 ((rd_T111 l0 (ji9)).f2)) ∧ w'.cell? ⟨(ad299.add (((ji9)).toNat * 5)).block, (ad299.add (((ji9)).toNat * 5)).off + 3, none⟩ = some (.int .i64 ((rd_T111 l0 (ji9)).f3)) ∧ w'.cell? ⟨(ad299.add (((ji9)).toNat * 5)).block, (ad299.add (((ji9)).toNat * 5)).off + 4, none⟩ = some (.int .i64 ((rd_T111 l0 (ji9)).f4))) (ds := []) b13A0 (by kernel_rfl) rfl rfl ⟨(bc BK300.out 0).trans rfl, (bc BK300.out 1).trans rfl, (bc BK300.out 2).trans rfl, (bc BK300.out 3).trans rfl, (bc BK300.out 4).trans rfl, ((HB.out.cell (bL w hw302_0)).trans hw302_0), ((HB.out.cell (bL w hw302_1)).trans hw302_1), ((HB.out.cell (bL w hw302_2)).trans hw302_2), ((HB.out.cell (bL w hw302_3)).trans hw302_3), ((HB.out.cell (bL w hw302_4)).trans hw302_4)⟩ (fun hHeld => ?_); refine with_tabW impl_AreThings.tab6 impl_AreThings.bits6 (fun HT_ HW_ => ?_)
   generalize w20.drew = w21 at BK300 HB hx302_0 hx302_1 hx302_2 hx302_3 hx302_4 hHeld ⊢
   refine tI 0 (some 15) b13A1 HT_ HW_ hHeld rfl rfl (Or.inl ⟨by rfl, by rintro w' ⟨s0, s1, s2, s3, s4, s5, s6, s7, s8, s9⟩; go_simp; with_reducible rfl⟩) ?_
   refine one_ (i := 1) (N := some 16) b13A2 rfl rfl (one_of HT_.out (by kernel_rfl)) (by decide) (fun K hK => ?_)
   refine goes_ Try.func160 (by kernel_rfl) rfl #[.agg #[.int .i64 ((rd_T111 l0 x10_1).f0), .int .i64 ((rd_T111 l0 x10_1).f1), .int .i64 ((rd_T111 l0 x10_1).f2), .int .i64 ((rd_T111 l0 x10_1).f3), .int .i64 ((rd_T111 l0 x10_1).f4)]] (by rfl) rfl rfl (by (try simp only [List.map_toArray, List.map_cons, List.map_nil]); first | done | rfl | (simp only [List.length_drop, List.length_take]; rfl)) ?_
   with_reducible refine (impl_IsThing.calls ((rd_T111 l0 x10_1).f0) ((rd_T111 l0 x10_1).f1) ((rd_T111 l0 x10_1).f2) ((rd_T111 l0 x10_1).f3) ((rd_T111 l0 x10_1).f4) true _ A6.out).mono ?_
   rintro e w22 ⟨rfl, hb⟩
   refine ⟨_, rfl, ?_⟩
   have n0_ := zK (bB (g := gb300) (o := .cells #[.int .i64 ((rd_T111 l0 x10_1).f0), .int .i64 ((rd_T111 l0 x10_1).f1), .int .i64 ((rd_T111 l0 x10_1).f2), .int .i64 ((rd_T111 l0 x10_1).f3), .int .i64 ((rd_T111 l0 x10_1).f4)] 111 (0, 0)) (qK BK300.out) hb)
   have n1_ := zK (bT (by repeat (first | (with_reducible first | exact HB.out | apply bA | apply bN | apply b1 | refine bS ?_ GE300.out) | exact HB.out)) hb)
   clear BK300
   clear HB
   have BK300 := n0_
   have HB := n1_
   clear n0_ n1_
   (try clear hb)
   (try clear hb2)
   (try clear hk)
   (try clear hi)
   refine hK.out _ _ ⟨(bc BK300.out 0).trans rfl, (bc BK300.out 1).trans rfl, (bc BK300.out 2).trans rfl, (bc BK300.out 3).trans rfl, (bc BK300.out 4).trans rfl, ((HB.out.cell (bL w hw302_0)).trans hw302_0), ((HB.out.cell (bL w hw302_1)).trans hw302_1), ((HB.out.cell (bL w hw302_2)).trans hw302_2), ((HB.out.cell (bL w hw302_3)).trans hw302_3), ((HB.out.cell (bL w hw302_4)).trans hw302_4)⟩ (fun hHeld => ?_)
   clear hK K
   refine norm_ (a' := ?_) ?_ ?_
   rotate_left
   ·show Act.put _ (some 16) _ = _
    simp only [Act.put, sA, sZ, sS, i64_w, i32_w]
    rfl
   refine pI 2 (some 17) b13A3 HT_ ?_
   refine pI 3 (some 18) b13A4 HT_ ?_
   refine pI 4 (some 19) b13A5 HT_ ?_
   refine pI 5 (some 20) b13A6 HT_ ?_
   refine pI 6 (some 21) b13A7 HT_ ?_
   refine pI 7 (some 22) b13A8 HT_ ?_
   refine pI 9 (some 24) b13A9 HT_ ?_
   refine pI 10 (some 25) b13A10 HT_ ?_
   refine pI 11 (some 26) b13A11 HT_ ?_
   refine pI 12 (some 27) b13A12 HT_ ?_
   refine pI 13 (some 28) b13A13 HT_ ?_
   refine tI 8 (some 23) b13A14 HT_ HW_ hHeld rfl rfl (Or.inl ⟨by rfl, by rintro w' ⟨s0, s1, s2, s3, s4, s5, s6, s7, s8, s9⟩; go_simp; with_reducible rfl⟩) ?_
   refine tI 14 (some 29) b13A15 HT_ HW_ hHeld rfl rfl (Or.inl ⟨by rfl, by rintro w' ⟨s0, s1, s2, s3, s4, s5, s6, s7, s8, s9⟩; go_simp; with_reducible rfl⟩) ?_
   refine pI 15 (some 30) b13A16 HT_ ?_
   refine pI 16 (some 31) b13A17 HT_ ?_
   refine pI 17 (some 32) b13A18 HT_ ?_
   refine done_ (done_of HT_.out (by kernel_rfl)) ?_
   try go_wp2
   go_roundg k1
   case measure => have := HK1.out; omega
   case rel => exact ⟨(wrap64 (x10_1 + 1)), (by first | rfl | (simp; done) | (simp [*]; done)), H', ⟨by have := HK1.out; omega⟩, ⟨by repeat (first | (with_reducible first | exact HB.out | apply bA | apply bN | apply b1 | refine bS ?_ GE300.out) | exact HB.out)⟩⟩
end Go.Proofs.Ytejhjenlodclpaa.PFnExactTighten
