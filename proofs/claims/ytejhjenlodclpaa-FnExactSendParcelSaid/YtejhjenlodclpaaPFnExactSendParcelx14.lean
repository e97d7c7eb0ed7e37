/- Walks of functions that FnExactSendParcel reaches: written by a tool of the kit for this claim, then shortened by a program of ours. -/
import Derived.Test.YtejhjenlodclpaaPFnExactSendParcelx0
import Derived.Test.YtejhjenlodclpaaPFnExactSendParcelx5
import Derived.Test.YtejhjenlodclpaaPFnExactSendParcelx11
import Derived.Test.YtejhjenlodclpaaPFnExactSendParcelx12
import Derived.Test.YtejhjenlodclpaaPFnExactSendParcelx13
namespace Go.Proofs.Ytejhjenlodclpaa.PFnExactSendParcel
open Go.RowKit Go.Proofs.YtejhjenlodclpaaW.PrintWords Go.Proofs.YtejhjenlodclpaaW.PrintLast Go.Proofs.YtejhjenlodclpaaW.PrintMore
attribute [local go_sem] max2_int min2_int max_two min_two max_three min_three max_four min_four   -- for this text's walks alone
set_option linter.unusedVariables false
set_option linter.unusedSimpArgs false

abbrev b14A0 : Array Bool := #[bo, bo, bo, bo, bo, bo, bo, bo, bo, bo]
abbrev b14A1 : Array Bool := #[bi, bo, bo, bo, bo, bo, bo, bo, bo, bo]
abbrev b14A2 : Array Bool := #[bi, bo, bi, bo, bo, bo, bo, bo, bo, bo]
abbrev b14A3 : Array Bool := #[bi, bi, bi, bo, bo, bo, bo, bo, bo, bo]
abbrev b14A4 : Array Bool := #[bi, bi, bi, bi, bo, bo, bo, bo, bo, bo]
abbrev b14A5 : Array Bool := #[bi, bi, bi, bi, bi, bo, bo, bo, bo, bo]
abbrev b14A6 : Array Bool := #[bi, bi, bi, bi, bi, bi, bo, bo, bo, bo]
abbrev b14A7 : Array Bool := #[bi, bi, bi, bi, bi, bi, bi, bo, bo, bo]
abbrev b14A8 : Array Bool := #[bi, bi, bi, bi, bi, bi, bi, bi, bo, bo]
abbrev b14A9 : Array Bool := #[bi, bi, bi, bi, bi, bi, bi, bi, bi, bo]
abbrev b14A10 : Array Bool := #[bi, bi, bi, bi, bi, bi, bi, bi, bi, bi]
/-! ### laws_FnExactSendParcel: function 8 -/
mutual
def laws_FnExactSendParcel.j0 : Nat → List (S145) → List (S138) → Bool → List (S138) → List (S138) → Bool → Bool → Int → Int → List Int → Int → Int → Int → List Int → Int → Option (Bool)
  | 0, _, _, _, _, _, _, _, _, _, _, _, _, _, _, _ => none
  | k + 1, x0, x6, x7, x8, x10, x11, x53, x381000, x381001, x381002, x381003, x406000, x406001, x406002, x406003 => if x53 = true then (some false) else ((laws_toHandS.f k x0).bind fun t411 => ((laws_eqHandS.f k x8 t411).bind fun t414 => (if t414 = true then ((laws_toParcel.f k x381000 x381001 x381002 x381003).bind fun bt415 => ((laws_eqParcel.f k x406000 x406001 x406002 x406003 bt415.1 bt415.2.1 bt415.2.2.1 bt415.2.2.2).bind fun t421 => (if t421 = true then ((laws_markHandS.f k x8 1).bind fun bt422 => ((laws_markParcel.f k x406000 x406001 x406002 x406003 bt422.1).bind fun bt424 => (if bt424.1 < 0 then (laws_FnExactSendParcel.j1 k x0 x6 x7 x10 true x381000 x381001 x381002 x381003) else ((laws_eqHandS.f k x10 x6).bind fun t426 => (if t426 = true then (laws_FnExactSendParcel.j1 k x0 x6 x7 x10 (x11 != x7) x381000 x381001 x381002 x381003) else (laws_FnExactSendParcel.j1 k x0 x6 x7 x10 true x381000 x381001 x381002 x381003)))))) else (some false)))) else (some false))))
def laws_FnExactSendParcel.j1 : Nat → List (S145) → List (S138) → Bool → List (S138) → Bool → Int → Int → List Int → Int → Option (Bool)
  | 0, _, _, _, _, _, _, _, _, _ => none
  | k + 1, x0, x6, x7, x10, x82, x381000, x381001, x381002, x381003 => if x82 = true then (some false) else ((laws_markHandS.f k x10 1).bind fun bt427 => ((laws_heldHandS.f k bt427.2 1).bind fun t429 => (if t429 < 0 then (some false) else (if t429 = bt427.1 then ((laws_toHandS.f k x0).bind fun t430 => ((laws_toParcel.f k x381000 x381001 x381002 x381003).bind fun bt433 => ((impl_SendParcel.f k t430 bt433.1 bt433.2.1 bt433.2.2.1 bt433.2.2.2).bind fun bt439 => ((laws_eqHandS.f k bt439.1 x6).bind fun t443 => (if t443 = true then (laws_FnExactSendParcel.j2 k bt427.2 bt427.1 (bt439.2 != x7)) else (laws_FnExactSendParcel.j2 k bt427.2 bt427.1 true)))))) else (some false)))))
def laws_FnExactSendParcel.j2 : Nat → List (S138) → Int → Bool → Option (Bool)
  | 0, _, _, _ => none
  | k + 1, x10, x13, x110 => if x110 = true then (some false) else ((laws_heldHandS.f k x10 1).bind fun t444 => (if t444 < 0 then (some false) else (if t444 = x13 then (some true) else (some false))))
end
def laws_FnExactSendParcel.f (k : Nat) (l0 : List (S145)) (a1_0 : Int) (a1_1 : Int) (l1_2 : List Int) (a1_3 : Int) : Option (Bool) := (laws_szHandS.f l0 1048576).bind fun t381 => (if t381 < 0 then (some true) else ((laws_szParcel.f a1_0 a1_1 l1_2 a1_3 t381).bind fun t382 => (if t382 < 0 then (some true) else ((laws_toHandS.f k l0).bind fun t383 => ((laws_toParcel.f k a1_0 a1_1 l1_2 a1_3).bind fun bt386 => ((spec_SendParcel.f k t383 bt386.1 bt386.2.1 bt386.2.2.1 bt386.2.2.2).bind fun bt392 => ((laws_toHandS.f k l0).bind fun t396 => ((laws_toParcel.f k a1_0 a1_1 l1_2 a1_3).bind fun bt399 => ((impl_SendParcel.f k t396 bt399.1 bt399.2.1 bt399.2.2.1 bt399.2.2.2).bind fun bt406 => ((laws_eqHandS.f k bt406.1 bt392.1).bind fun t410 => (if t410 = true then (laws_FnExactSendParcel.j0 k l0 bt392.1 bt392.2 t396 bt406.1 bt406.2 (bt406.2 != bt392.2) a1_0 a1_1 l1_2 a1_3 bt399.1 bt399.2.1 bt399.2.2.1 bt399.2.2.2) else (laws_FnExactSendParcel.j0 k l0 bt392.1 bt392.2 t396 bt406.1 bt406.2 true a1_0 a1_1 l1_2 a1_3 bt399.1 bt399.2.1 bt399.2.2.1 bt399.2.2.2))))))))))))
def laws_FnExactSendParcel.T8 : Bool × List (List Nat × List Nat) := (true, [([], []), ([0], [0]), ([], []), ([2, 1], [2]), ([1, 3, 3], [1, 3]), ([4], [4]), ([5], [5]), ([5], [5]), ([6, 4, 0, 1, 2, 3, 4, 5, 6], [6]), ([7, 8, 0, 1, 2, 3, 4, 5, 6, 7, 8], [7])])
def laws_FnExactSendParcel.B8 : List Nat := [0, 1, 0, 7, 15, 31, 63, 63, 127, 511]
theorem laws_FnExactSendParcel.tab8 : rtab .any (opsOf Try.f8 8) = laws_FnExactSendParcel.T8 := by kernel_rfl
theorem laws_FnExactSendParcel.bits8 : waitsOk laws_FnExactSendParcel.T8.2 laws_FnExactSendParcel.B8 = true := by kernel_rfl
def laws_FnExactSendParcel.T31 : Bool × List (List Nat × List Nat) := (true, [([], []), ([0], [0]), ([], []), ([2, 1], [2]), ([1, 3, 3], [1, 3]), ([4], [4]), ([5], [5]), ([5], [5]), ([6, 4, 0, 1, 2, 3, 4, 5, 6], [6]), ([7, 8, 0, 1, 2, 3, 4, 5, 6, 7, 8], [7])])
def laws_FnExactSendParcel.B31 : List Nat := [0, 1, 0, 7, 15, 31, 63, 63, 127, 511]
theorem laws_FnExactSendParcel.tab31 : rtab .any (opsOf Try.f8 31) = laws_FnExactSendParcel.T31 := by kernel_rfl
theorem laws_FnExactSendParcel.bits31 : waitsOk laws_FnExactSendParcel.T31.2 laws_FnExactSendParcel.B31 = true := by kernel_rfl
set_option maxHeartbeats 8000000 in
set_option maxRecDepth 100000 in
theorem laws_FnExactSendParcel.calls (k : Nat) (A0 : Option Addr) (c0 : Nat) (l0 : List (S145)) (a1_0 : Int) (a1_1 : Int) (A1_2 : Option Addr) (c1_2 : Nat) (l1_2 : List Int) (a1_3 : Int) (r : Bool) (w : World) (hr0 : Kd.C k145 w A0 l0.length l0) (hc0 : l0.length ≤ c0) (hr1_2 : Kd.C (Kd.int .i64) w A1_2 l1_2.length l1_2) (hc1_2 : l1_2.length ≤ c1_2) (h : laws_FnExactSendParcel.f k l0 a1_0 a1_1 l1_2 a1_3 = some r) :
    Calls Try.prog 8 #[.slice A0 l0.length c0, .agg #[.int .i64 a1_0, .int .i64 a1_1, .slice A1_2 l1_2.length c1_2, .int .i64 a1_3]] w fun e w' => e = .returned (.bool r) ∧ Below w.heap.size w w' := by
  have hu74 := Try.underlying74
  have hu53 := Try.underlying53
  have HR0 := zK hr0
  have HC0 := zK hc0
  clear hr0 hc0
  have HR1_2 := zK hr1_2
  have HC1_2 := zK hc1_2
  clear hr1_2 hc1_2
  have HB := zK (Below.refl w.heap.size w)
  have H : ((laws_szHandS.f l0 1048576).bind fun t381 => (if t381 < 0 then (some true) else ((laws_szParcel.f a1_0 a1_1 l1_2 a1_3 t381).bind fun t382 => (if t382 < 0 then (some true) else ((laws_toHandS.f k l0).bind fun t383 => ((laws_toParcel.f k a1_0 a1_1 l1_2 a1_3).bind fun bt386 => ((spec_SendParcel.f k t383 bt386.1 bt386.2.1 bt386.2.2.1 bt386.2.2.2).bind fun bt392 => ((laws_toHandS.f k l0).bind fun t396 => ((laws_toParcel.f k a1_0 a1_1 l1_2 a1_3).bind fun bt399 => ((impl_SendParcel.f k t396 bt399.1 bt399.2.1 bt399.2.2.1 bt399.2.2.2).bind fun bt406 => ((laws_eqHandS.f k bt406.1 bt392.1).bind fun t410 => (if t410 = true then (laws_FnExactSendParcel.j0 k l0 bt392.1 bt392.2 t396 bt406.1 bt406.2 (bt406.2 != bt392.2) a1_0 a1_1 l1_2 a1_3 bt399.1 bt399.2.1 bt399.2.2.1 bt399.2.2.2) else (laws_FnExactSendParcel.j0 k l0 bt392.1 bt392.2 t396 bt406.1 bt406.2 true a1_0 a1_1 l1_2 a1_3 bt399.1 bt399.2.1 bt399.2.2.1 bt399.2.2.2))))))))))))) = some r := h
  clear h
  replace H := Option.bind_eq_some_iff.mp H
  obtain ⟨t381, A30, H⟩ := H
  replace H : (if t381 < 0 then (some true) else ((laws_szParcel.f a1_0 a1_1 l1_2 a1_3 t381).bind fun t382 => (if t382 < 0 then (some true) else ((laws_toHandS.f k l0).bind fun t383 => ((laws_toParcel.f k a1_0 a1_1 l1_2 a1_3).bind fun bt386 => ((spec_SendParcel.f k t383 bt386.1 bt386.2.1 bt386.2.2.1 bt386.2.2.2).bind fun bt392 => ((laws_toHandS.f k l0).bind fun t396 => ((laws_toParcel.f k a1_0 a1_1 l1_2 a1_3).bind fun bt399 => ((impl_SendParcel.f k t396 bt399.1 bt399.2.1 bt399.2.2.1 bt399.2.2.2).bind fun bt406 => ((laws_eqHandS.f k bt406.1 bt392.1).bind fun t410 => (if t410 = true then (laws_FnExactSendParcel.j0 k l0 bt392.1 bt392.2 t396 bt406.1 bt406.2 (bt406.2 != bt392.2) a1_0 a1_1 l1_2 a1_3 bt399.1 bt399.2.1 bt399.2.2.1 bt399.2.2.2) else (laws_FnExactSendParcel.j0 k l0 bt392.1 bt392.2 t396 bt406.1 bt406.2 true a1_0 a1_1 l1_2 a1_3 bt399.1 bt399.2.1 bt399.2.2.1 bt399.2.2.2)))))))))))) = some r := H
  have A3 := zK A30
  clear A30
  by_cases c4 : t381 < 0
  · rw [if_pos c4] at H
    have c4b0 : decide (t381 < 0) = true := decide_eq_true c4
    clear c4
    obtain rfl := Option.some.inj H
    go_enter Try.func8, Try.ntmps8
    go_wp2_with (first | ((with_reducible refine gate_dst (N := 3) rfl ?_); refine box_event ?hg (N := 3) ?hd (cs := #[.int .i64 a1_0, .int .i64 a1_1, .slice A1_2 l1_2.length c1_2, .int .i64 a1_3]) (t := 74) ?hr ?_; (case hd => rfl); (case hg => rfl); (case hr => first | (go_simp; done) | (go_simp; rfl)); intro gb380 hg w5 hbox hb; have n0_ := zK (bT (by repeat (first | (with_reducible first | exact HB.out | apply bA | apply bN | apply b1) | exact HB.out)) hb); have n1_ := zK (hbox); have n2_ := zK ((by rw [hg]; exact (bZ (by repeat (first | (with_reducible first | exact HB.out | apply bA | apply bN | apply b1) | exact HB.out))) : w.heap.size ≤ gb380)); have n3_ := zK ((by rw [hg]; exact (bZ (by repeat (first | (with_reducible first | exact HB.out | apply bA | apply bN | apply b1) | exact HB.out))) : w.heap.size ≤ gb380)); clear HB; have HB := n0_; have BK380 := n1_; have GW380 := n2_; have GE380 := n3_; clear n0_ n1_ n2_ n3_; clear hb hbox hg) | ((with_reducible refine gate_callee (f := 47) rfl ?_); refine goesL_ (some 19) rfl rfl Try.func47 (by kernel_rfl) rfl #[.slice A0 l0.length c0, .int .i64 1048576] rfl (by (try simp only [List.map_toArray, List.map_cons, List.map_nil]); first | done | rfl | (simp only [List.length_drop, List.length_take]; rfl)) ?_; (with_reducible refine (laws_szHandS.calls _ _ l0 1048576 t381 _ ?side1 ?side2 A3.out).mono ?_); (case side1 => repeat (first | exact (Kd.C_below HR0.out HB.out) | (with_reducible refine Kd.CA ?_ _) | (with_reducible refine Kd.CN ?_ _) | (with_reducible refine Kd.CD ?_))); (case side2 => exact HC0.out); rintro e w' ⟨rfl, ⟨nd, rfl⟩⟩; refine ⟨_, rfl, ?_⟩))
    go_ret
    exact ⟨by first | rfl | (simp [errW_none, errW_some] <;> rfl) | (simp [*, errW_none, errW_some] <;> rfl), by repeat (first | (with_reducible first | exact HB.out | apply bA | apply bN | apply b1 | refine bS ?_ GE380.out) | exact HB.out)⟩
  rw [if_neg c4] at H
  have c4b0 : decide (t381 < 0) = false := decide_eq_false c4
  clear c4
  replace H := Option.bind_eq_some_iff.mp H
  obtain ⟨t382, A60, H⟩ := H
  replace H : (if t382 < 0 then (some true) else ((laws_toHandS.f k l0).bind fun t383 => ((laws_toParcel.f k a1_0 a1_1 l1_2 a1_3).bind fun bt386 => ((spec_SendParcel.f k t383 bt386.1 bt386.2.1 bt386.2.2.1 bt386.2.2.2).bind fun bt392 => ((laws_toHandS.f k l0).bind fun t396 => ((laws_toParcel.f k a1_0 a1_1 l1_2 a1_3).bind fun bt399 => ((impl_SendParcel.f k t396 bt399.1 bt399.2.1 bt399.2.2.1 bt399.2.2.2).bind fun bt406 => ((laws_eqHandS.f k bt406.1 bt392.1).bind fun t410 => (if t410 = true then (laws_FnExactSendParcel.j0 k l0 bt392.1 bt392.2 t396 bt406.1 bt406.2 (bt406.2 != bt392.2) a1_0 a1_1 l1_2 a1_3 bt399.1 bt399.2.1 bt399.2.2.1 bt399.2.2.2) else (laws_FnExactSendParcel.j0 k l0 bt392.1 bt392.2 t396 bt406.1 bt406.2 true a1_0 a1_1 l1_2 a1_3 bt399.1 bt399.2.1 bt399.2.2.1 bt399.2.2.2)))))))))) = some r := H
  have A6 := zK A60
  clear A60
  by_cases c7 : t382 < 0
  · rw [if_pos c7] at H
    have c7b0 : decide (t382 < 0) = true := decide_eq_true c7
    clear c7
    obtain rfl := Option.some.inj H
    go_enter Try.func8, Try.ntmps8
    go_wp2_with (first | ((with_reducible refine gate_dst (N := 3) rfl ?_); refine box_event ?hg (N := 3) ?hd (cs := #[.int .i64 a1_0, .int .i64 a1_1, .slice A1_2 l1_2.length c1_2, .int .i64 a1_3]) (t := 74) ?hr ?_; (case hd => rfl); (case hg => rfl); (case hr => first | (go_simp; done) | (go_simp; rfl)); intro gb380 hg w8 hbox hb; have n0_ := zK (bT (by repeat (first | (with_reducible first | exact HB.out | apply bA | apply bN | apply b1) | exact HB.out)) hb); have n1_ := zK (hbox); have n2_ := zK ((by rw [hg]; exact (bZ (by repeat (first | (with_reducible first | exact HB.out | apply bA | apply bN | apply b1) | exact HB.out))) : w.heap.size ≤ gb380)); have n3_ := zK ((by rw [hg]; exact (bZ (by repeat (first | (with_reducible first | exact HB.out | apply bA | apply bN | apply b1) | exact HB.out))) : w.heap.size ≤ gb380)); clear HB; have HB := n0_; have BK380 := n1_; have GW380 := n2_; have GE380 := n3_; clear n0_ n1_ n2_ n3_; clear hb hbox hg) | ((with_reducible refine gate_callee (f := 47) rfl ?_); refine goesL_ (some 19) rfl rfl Try.func47 (by kernel_rfl) rfl #[.slice A0 l0.length c0, .int .i64 1048576] rfl (by (try simp only [List.map_toArray, List.map_cons, List.map_nil]); first | done | rfl | (simp only [List.length_drop, List.length_take]; rfl)) ?_; (with_reducible refine (laws_szHandS.calls _ _ l0 1048576 t381 _ ?side1 ?side2 A3.out).mono ?_); (case side1 => repeat (first | exact (Kd.C_below HR0.out HB.out) | (with_reducible refine Kd.CA ?_ _) | (with_reducible refine Kd.CN ?_ _) | (with_reducible refine Kd.CD ?_))); (case side2 => exact HC0.out); rintro e w' ⟨rfl, ⟨nd, rfl⟩⟩; refine ⟨_, rfl, ?_⟩; have hcz9_0 : w8.cell? ⟨gb380, 0, none⟩ = some (.int .i64 a1_0) := (bc BK380.out 0).trans rfl; have hcz9_1 : w8.cell? ⟨gb380, 1, none⟩ = some (.int .i64 a1_1) := (bc BK380.out 1).trans rfl; have hcz9_2 : w8.cell? ⟨gb380, 2, none⟩ = some (.slice A1_2 l1_2.length c1_2) := (bc BK380.out 2).trans rfl; have hcz9_3 : w8.cell? ⟨gb380, 3, none⟩ = some (.int .i64 a1_3) := (bc BK380.out 3).trans rfl; have hfz9_0 := bf BK380.out 0; have hfz9_1 := bf BK380.out 1; have hfz9_2 := bf BK380.out 2; have hfz9_3 := bf BK380.out 3) | ((with_reducible refine gate_callee (f := 48) rfl ?_); refine goesL_ (some 24) rfl rfl Try.func48 (by kernel_rfl) rfl #[.agg #[.int .i64 a1_0, .int .i64 a1_1, .slice A1_2 l1_2.length c1_2, .int .i64 a1_3], .int .i64 t381] rfl (by (try simp only [List.map_toArray, List.map_cons, List.map_nil]); first | done | rfl | (simp only [List.length_drop, List.length_take]; rfl)) ?_; (with_reducible refine (laws_szParcel.calls a1_0 a1_1 _ _ l1_2 a1_3 t381 t382 _ ?side1 ?side2 A6.out).mono ?_); (case side1 => repeat (first | exact (Kd.C_below HR1_2.out (by repeat (first | (with_reducible first | exact HB.out | apply bA | apply bN | apply b1 | refine bS ?_ GE380.out) | exact HB.out))) | (with_reducible refine Kd.CA ?_ _) | (with_reducible refine Kd.CN ?_ _) | (with_reducible refine Kd.CD ?_))); (case side2 => exact HC1_2.out); rintro e w10 ⟨rfl, hb⟩; refine ⟨_, rfl, ?_⟩; have n0_ := zK (bB (g := gb380) (o := .cells #[.int .i64 a1_0, .int .i64 a1_1, .slice A1_2 l1_2.length c1_2, .int .i64 a1_3] 74 (0, 0)) (by (with_reducible repeat (first | refine kN ?_ _ | refine kD ?_ | refine kA ?_ _)); exact BK380.out) hb); have n1_ := zK (bT (by repeat (first | (with_reducible first | exact HB.out | apply bA | apply bN | apply b1 | refine bS ?_ GE380.out) | exact HB.out)) hb); clear BK380; clear HB; have BK380 := n0_; have HB := n1_; clear n0_ n1_; (try clear hb); (try clear hb2); (try clear hk); (try clear hi)))
    go_ret
    exact ⟨by first | rfl | (simp [errW_none, errW_some] <;> rfl) | (simp [*, errW_none, errW_some] <;> rfl), by repeat (first | (with_reducible first | exact HB.out | apply bA | apply bN | apply b1 | refine bS ?_ GE380.out) | exact HB.out)⟩
  rw [if_neg c7] at H
  have c7b0 : decide (t382 < 0) = false := decide_eq_false c7
  clear c7
  replace H := Option.bind_eq_some_iff.mp H
  obtain ⟨t383, A110, H⟩ := H
  replace H : ((laws_toParcel.f k a1_0 a1_1 l1_2 a1_3).bind fun bt386 => ((spec_SendParcel.f k t383 bt386.1 bt386.2.1 bt386.2.2.1 bt386.2.2.2).bind fun bt392 => ((laws_toHandS.f k l0).bind fun t396 => ((laws_toParcel.f k a1_0 a1_1 l1_2 a1_3).bind fun bt399 => ((impl_SendParcel.f k t396 bt399.1 bt399.2.1 bt399.2.2.1 bt399.2.2.2).bind fun bt406 => ((laws_eqHandS.f k bt406.1 bt392.1).bind fun t410 => (if t410 = true then (laws_FnExactSendParcel.j0 k l0 bt392.1 bt392.2 t396 bt406.1 bt406.2 (bt406.2 != bt392.2) a1_0 a1_1 l1_2 a1_3 bt399.1 bt399.2.1 bt399.2.2.1 bt399.2.2.2) else (laws_FnExactSendParcel.j0 k l0 bt392.1 bt392.2 t396 bt406.1 bt406.2 true a1_0 a1_1 l1_2 a1_3 bt399.1 bt399.2.1 bt399.2.2.1 bt399.2.2.2)))))))) = some r := H
  have A11 := zK A110
  clear A110
  replace H := Option.bind_eq_some_iff.mp H
  obtain ⟨⟨t386, t387, t388, t391⟩, A120, H⟩ := H
  replace H : ((spec_SendParcel.f k t383 t386 t387 t388 t391).bind fun bt392 => ((laws_toHandS.f k l0).bind fun t396 => ((laws_toParcel.f k a1_0 a1_1 l1_2 a1_3).bind fun bt399 => ((impl_SendParcel.f k t396 bt399.1 bt399.2.1 bt399.2.2.1 bt399.2.2.2).bind fun bt406 => ((laws_eqHandS.f k bt406.1 bt392.1).bind fun t410 => (if t410 = true then (laws_FnExactSendParcel.j0 k l0 bt392.1 bt392.2 t396 bt406.1 bt406.2 (bt406.2 != bt392.2) a1_0 a1_1 l1_2 a1_3 bt399.1 bt399.2.1 bt399.2.2.1 bt399.2.2.2) else (laws_FnExactSendParcel.j0 k l0 bt392.1 bt392.2 t396 bt406.1 bt406.2 true a1_0 a1_1 l1_2 a1_3 bt399.1 bt399.2.1 bt399.2.2.1 bt399.2.2.2))))))) = some r := H
  have A12 := zK A120
  clear A120
  replace H := Option.bind_eq_some_iff.mp H
  obtain ⟨⟨t392, t395⟩, A130, H⟩ := H
  replace H : ((laws_toHandS.f k l0).bind fun t396 => ((laws_toParcel.f k a1_0 a1_1 l1_2 a1_3).bind fun bt399 => ((impl_SendParcel.f k t396 bt399.1 bt399.2.1 bt399.2.2.1 bt399.2.2.2).bind fun bt406 => ((laws_eqHandS.f k bt406.1 t392).bind fun t410 => (if t410 = true then (laws_FnExactSendParcel.j0 k l0 t392 t395 t396 bt406.1 bt406.2 (bt406.2 != t395) a1_0 a1_1 l1_2 a1_3 bt399.1 bt399.2.1 bt399.2.2.1 bt399.2.2.2) else (laws_FnExactSendParcel.j0 k l0 t392 t395 t396 bt406.1 bt406.2 true a1_0 a1_1 l1_2 a1_3 bt399.1 bt399.2.1 bt399.2.2.1 bt399.2.2.2)))))) = some r := H
  have A13 := zK A130
  clear A130
  replace H := Option.bind_eq_some_iff.mp H
  obtain ⟨t396, A140, H⟩ := H
  replace H : ((laws_toParcel.f k a1_0 a1_1 l1_2 a1_3).bind fun bt399 => ((impl_SendParcel.f k t396 bt399.1 bt399.2.1 bt399.2.2.1 bt399.2.2.2).bind fun bt406 => ((laws_eqHandS.f k bt406.1 t392).bind fun t410 => (if t410 = true then (laws_FnExactSendParcel.j0 k l0 t392 t395 t396 bt406.1 bt406.2 (bt406.2 != t395) a1_0 a1_1 l1_2 a1_3 bt399.1 bt399.2.1 bt399.2.2.1 bt399.2.2.2) else (laws_FnExactSendParcel.j0 k l0 t392 t395 t396 bt406.1 bt406.2 true a1_0 a1_1 l1_2 a1_3 bt399.1 bt399.2.1 bt399.2.2.1 bt399.2.2.2))))) = some r := H
  have A14 := zK A140
  clear A140
  replace H := Option.bind_eq_some_iff.mp H
  obtain ⟨⟨t399, t400, t401, t404⟩, A150, H⟩ := H
  replace H : ((impl_SendParcel.f k t396 t399 t400 t401 t404).bind fun bt406 => ((laws_eqHandS.f k bt406.1 t392).bind fun t410 => (if t410 = true then (laws_FnExactSendParcel.j0 k l0 t392 t395 t396 bt406.1 bt406.2 (bt406.2 != t395) a1_0 a1_1 l1_2 a1_3 t399 t400 t401 t404) else (laws_FnExactSendParcel.j0 k l0 t392 t395 t396 bt406.1 bt406.2 true a1_0 a1_1 l1_2 a1_3 t399 t400 t401 t404)))) = some r := H
  have A15 := zK A150
  clear A150
  replace H := Option.bind_eq_some_iff.mp H
  obtain ⟨⟨t406, t409⟩, A160, H⟩ := H
  replace H : ((laws_eqHandS.f k t406 t392).bind fun t410 => (if t410 = true then (laws_FnExactSendParcel.j0 k l0 t392 t395 t396 t406 t409 (t409 != t395) a1_0 a1_1 l1_2 a1_3 t399 t400 t401 t404) else (laws_FnExactSendParcel.j0 k l0 t392 t395 t396 t406 t409 true a1_0 a1_1 l1_2 a1_3 t399 t400 t401 t404))) = some r := H
  have A16 := zK A160
  clear A160
  have HC17 := zK H
  clear H
  go_enter Try.func8, Try.ntmps8
  try go_wp2_with (first | ((with_reducible refine gate_dst (N := 3) rfl ?_); refine box_event ?hg (N := 3) ?hd (cs := #[.int .i64 a1_0, .int .i64 a1_1, .slice A1_2 l1_2.length c1_2, .int .i64 a1_3]) (t := 74) ?hr ?_; (case hd => rfl); (case hg => rfl); (case hr => first | (go_simp; done) | (go_simp; rfl)); intro gb380 hg w18 hbox hb; have n0_ := zK (bT (by repeat (first | (with_reducible first | exact HB.out | apply bA | apply bN | apply b1) | exact HB.out)) hb); have n1_ := zK (hbox); have n2_ := zK ((by rw [hg]; exact (bZ (by repeat (first | (with_reducible first | exact HB.out | apply bA | apply bN | apply b1) | exact HB.out))) : w.heap.size ≤ gb380)); have n3_ := zK ((by rw [hg]; exact (bZ (by repeat (first | (with_reducible first | exact HB.out | apply bA | apply bN | apply b1) | exact HB.out))) : w.heap.size ≤ gb380)); clear HB; have HB := n0_; have BK380 := n1_; have GW380 := n2_; have GE380 := n3_; clear n0_ n1_ n2_ n3_; clear hb hbox hg) | ((with_reducible refine gate_callee (f := 47) rfl ?_); refine goesL_ (some 19) rfl rfl Try.func47 (by kernel_rfl) rfl #[.slice A0 l0.length c0, .int .i64 1048576] rfl (by (try simp only [List.map_toArray, List.map_cons, List.map_nil]); first | done | rfl | (simp only [List.length_drop, List.length_take]; rfl)) ?_; (with_reducible refine (laws_szHandS.calls _ _ l0 1048576 t381 _ ?side1 ?side2 A3.out).mono ?_); (case side1 => repeat (first | exact (Kd.C_below HR0.out HB.out) | (with_reducible refine Kd.CA ?_ _) | (with_reducible refine Kd.CN ?_ _) | (with_reducible refine Kd.CD ?_))); (case side2 => exact HC0.out); rintro e w' ⟨rfl, ⟨nd, rfl⟩⟩; refine ⟨_, rfl, ?_⟩; (try (rw [drewN_self w18]; generalize hq_ : World.drewN w18 _ = w18; have n0_ : Aside0 (w18.heap[gb380]? = some (.cells #[.int .i64 a1_0, .int .i64 a1_1, .slice A1_2 l1_2.length c1_2, .int .i64 a1_3] 74 (0, 0))) := ⟨by rw [← hq_]; exact (by (with_reducible repeat (first | refine kN ?_ _ | refine kD ?_ | refine kA ?_ _)); exact BK380.out)⟩; have n1_ : Aside0 (Below w.heap.size w w18) := ⟨by rw [← hq_]; exact (by repeat (first | (with_reducible first | exact HB.out | apply bA | apply bN | apply b1 | refine bS ?_ GE380.out) | exact HB.out))⟩; clear BK380 HB hq_; have BK380 := n0_; have HB := n1_; clear n0_ n1_)); have hcz19_0 : w18.cell? ⟨gb380, 0, none⟩ = some (.int .i64 a1_0) := (bc BK380.out 0).trans rfl; have hcz19_1 : w18.cell? ⟨gb380, 1, none⟩ = some (.int .i64 a1_1) := (bc BK380.out 1).trans rfl; have hcz19_2 : w18.cell? ⟨gb380, 2, none⟩ = some (.slice A1_2 l1_2.length c1_2) := (bc BK380.out 2).trans rfl; have hcz19_3 : w18.cell? ⟨gb380, 3, none⟩ = some (.int .i64 a1_3) := (bc BK380.out 3).trans rfl; have hfz19_0 := bf BK380.out 0; have hfz19_1 := bf BK380.out 1; have hfz19_2 := bf BK380.out 2; have hfz19_3 := bf BK380.out 3) | ((with_reducible refine gate_callee (f := 48) rfl ?_); refine goesL_ (some 24) rfl rfl Try.func48 (by kernel_rfl) rfl #[.agg #[.int .i64 a1_0, .int .i64 a1_1, .slice A1_2 l1_2.length c1_2, .int .i64 a1_3], .int .i64 t381] rfl (by (try simp only [List.map_toArray, List.map_cons, List.map_nil]); first | done | rfl | (simp only [List.length_drop, List.length_take]; rfl)) ?_; (with_reducible refine (laws_szParcel.calls a1_0 a1_1 _ _ l1_2 a1_3 t381 t382 _ ?side1 ?side2 A6.out).mono ?_); (case side1 => repeat (first | exact (Kd.C_below HR1_2.out HB.out) | (with_reducible refine Kd.CA ?_ _) | (with_reducible refine Kd.CN ?_ _) | (with_reducible refine Kd.CD ?_))); (case side2 => exact HC1_2.out); rintro e w20 ⟨rfl, hb⟩; refine ⟨_, rfl, ?_⟩; have n0_ := zK (bB (g := gb380) (o := .cells #[.int .i64 a1_0, .int .i64 a1_1, .slice A1_2 l1_2.length c1_2, .int .i64 a1_3] 74 (0, 0)) (by (with_reducible repeat (first | refine kN ?_ _ | refine kD ?_ | refine kA ?_ _)); exact BK380.out) hb); have n1_ := zK (bT (by repeat (first | (with_reducible first | exact HB.out | apply bA | apply bN | apply b1 | refine bS ?_ GE380.out) | exact HB.out)) hb); clear BK380; clear HB; have BK380 := n0_; have HB := n1_; clear n0_ n1_; (try clear hb); (try clear hb2); (try clear hk); (try clear hi)))
  have n0_ := zK (kD BK380.out)
  have n1_ := zK (b1 HB.out)
  clear BK380
  clear HB
  have BK380 := n0_
  have HB := n1_
  clear n0_ n1_
  refine start_ (n := 10) (S := fun w' => w'.cell? ⟨gb380, 0, none⟩ = some (.int .i64 a1_0) ∧ w'.cell? ⟨gb380, 1, none⟩ = some (.int .i64 a1_1) ∧ w'.cell? ⟨gb380, 2, none⟩ = some (.slice A1_2 l1_2.length c1_2) ∧ w'.cell? ⟨gb380, 3, none⟩ = some (.int .i64 a1_3)) (ds := []) b14A0 (by kernel_rfl) rfl rfl ⟨(bc BK380.out 0).trans rfl, (bc BK380.out 1).trans rfl, (bc BK380.out 2).trans rfl, (bc BK380.out 3).trans rfl⟩ (fun hHeld => ?_); refine with_tabW laws_FnExactSendParcel.tab8 laws_FnExactSendParcel.bits8 (fun HT_ HW_ => ?_)
  generalize w20.drew = w21 at BK380 HB hHeld ⊢
  refine pI 0 (some 28) b14A1 HT_ ?_
  refine tI 2 (some 30) b14A2 HT_ HW_ hHeld rfl rfl (Or.inl ⟨by rfl, by rintro w' ⟨s0, s1, s2, s3⟩; go_simp; with_reducible rfl⟩) ?_
  refine one_ (i := 1) (N := some 29) b14A3 rfl rfl (one_of HT_.out (by kernel_rfl)) (by decide) (fun K hK => ?_)
  refine goes_ Try.func50 (by kernel_rfl) rfl #[.slice A0 l0.length c0] (by rfl) rfl rfl (by (try simp only [List.map_toArray, List.map_cons, List.map_nil]); first | done | rfl | (simp only [List.length_drop, List.length_take]; rfl)) ?_
  with_reducible refine (laws_toHandS.calls k _ _ l0 t383 _ ?side1 ?side2 A11.out).mono ?_
  (case side1 => repeat (first | exact (Kd.C_below HR0.out HB.out) | (with_reducible refine Kd.CA ?_ _) | (with_reducible refine Kd.CN ?_ _) | (with_reducible refine Kd.CD ?_)))
  (case side2 => exact HC0.out)
  rintro e w22 ⟨v384, rfl, ho0, hb⟩
  refine ⟨_, rfl, ?_⟩
  have n0_ := zK (Kd.R_lower ho0 (bZ (by repeat (first | (with_reducible first | exact HB.out | apply bA | apply bN | apply b1 | refine bS ?_ GE380.out) | exact HB.out))))
  have n1_ := zK (bB (g := gb380) (o := .cells #[.int .i64 a1_0, .int .i64 a1_1, .slice A1_2 l1_2.length c1_2, .int .i64 a1_3] 74 (0, 0)) (by (with_reducible repeat (first | refine kN ?_ _ | refine kD ?_ | refine kA ?_ _)); exact BK380.out) hb)
  have n2_ := zK (bT (by repeat (first | (with_reducible first | exact HB.out | apply bA | apply bN | apply b1 | refine bS ?_ GE380.out) | exact HB.out)) hb)
  clear BK380
  clear HB
  have HO385 := n0_
  have BK380 := n1_
  have HB := n2_
  clear n0_ n1_ n2_
  (try clear hb)
  (try clear hb2)
  (try clear hk)
  (try clear hi)
  (try clear ho0)
  refine hK.out _ _ ⟨(bc BK380.out 0).trans rfl, (bc BK380.out 1).trans rfl, (bc BK380.out 2).trans rfl, (bc BK380.out 3).trans rfl⟩ (fun hHeld => ?_)
  clear hK K
  refine norm_ (a' := ?_) ?_ ?_
  rotate_left
  · show Act.put _ (some 29) _ = _
    simp only [Act.put, sA, sZ, sS, i64_w, i32_w]
    rfl
  refine one_ (i := 3) (N := some 31) b14A4 rfl rfl (one_of HT_.out (by kernel_rfl)) (by decide) (fun K hK => ?_)
  refine goes_ Try.func51 (by kernel_rfl) rfl #[.agg #[.int .i64 a1_0, .int .i64 a1_1, .slice A1_2 l1_2.length c1_2, .int .i64 a1_3]] (by rfl) rfl rfl (by (try simp only [List.map_toArray, List.map_cons, List.map_nil]); first | done | rfl | (simp only [List.length_drop, List.length_take]; rfl)) ?_
  with_reducible refine (laws_toParcel.calls k a1_0 a1_1 _ _ l1_2 a1_3 t386 t387 t388 t391 _ ?side1 ?side2 A12.out).mono ?_
  (case side1 => repeat (first | exact (Kd.C_below HR1_2.out HB.out) | (with_reducible refine Kd.CA ?_ _) | (with_reducible refine Kd.CN ?_ _) | (with_reducible refine Kd.CD ?_)))
  (case side2 => exact HC1_2.out)
  rintro e w23 ⟨v389, rfl, ho0, hb⟩
  refine ⟨_, rfl, ?_⟩
  have n0_ := zK (Kd.R_below (by (with_reducible repeat (first | apply Kd.RA | apply Kd.RN | apply Kd.RD)); exact HO385.out) hb)
  have n1_ := zK (Kd.R_lower ho0 (bZ (by repeat (first | (with_reducible first | exact HB.out | apply bA | apply bN | apply b1 | refine bS ?_ GE380.out) | exact HB.out))))
  have n2_ := zK (bB (g := gb380) (o := .cells #[.int .i64 a1_0, .int .i64 a1_1, .slice A1_2 l1_2.length c1_2, .int .i64 a1_3] 74 (0, 0)) (by (with_reducible repeat (first | refine kN ?_ _ | refine kD ?_ | refine kA ?_ _)); exact BK380.out) hb)
  have n3_ := zK (bT (by repeat (first | (with_reducible first | exact HB.out | apply bA | apply bN | apply b1 | refine bS ?_ GE380.out) | exact HB.out)) hb)
  clear HO385
  clear BK380
  clear HB
  have HO385 := n0_
  have HO390 := n1_
  have BK380 := n2_
  have HB := n3_
  clear n0_ n1_ n2_ n3_
  (try clear hb)
  (try clear hb2)
  (try clear hk)
  (try clear hi)
  (try clear ho0)
  obtain ⟨Ao24, co24, eo24⟩ := Kd.R_slice HO385.out
  (first | subst eo24 | (injection eo24 with f1_ f2_ f3_; have f4_ := f1_.symm; have f5_ := f3_.symm; clear f1_ f2_ f3_; subst f4_; subst f5_))
  obtain ⟨Ao25, co25, eo25⟩ := Kd.R_slice HO390.out
  (first | subst eo25 | (injection eo25 with f1_ f2_ f3_; have f4_ := f1_.symm; have f5_ := f3_.symm; clear f1_ f2_ f3_; subst f4_; subst f5_))
  refine hK.out _ _ ⟨(bc BK380.out 0).trans rfl, (bc BK380.out 1).trans rfl, (bc BK380.out 2).trans rfl, (bc BK380.out 3).trans rfl⟩ (fun hHeld => ?_)
  clear hK K
  refine norm_ (a' := ?_) ?_ ?_
  rotate_left
  · show Act.put _ (some 31) _ = _
    simp only [Act.put, sA, sZ, sS, i64_w, i32_w]
    rfl
  refine one_ (i := 4) (N := some 32) b14A5 rfl rfl (one_of HT_.out (by kernel_rfl)) (by decide) (fun K hK => ?_)
  refine goes_ Try.func49 (by kernel_rfl) rfl #[.slice Ao24 t383.length co24, .agg #[.int .i64 t386, .int .i64 t387, .slice Ao25 t388.length co25, .int .i64 t391]] (by rfl) rfl rfl (by (try simp only [List.map_toArray, List.map_cons, List.map_nil]); first | done | rfl | (simp only [List.length_drop, List.length_take]; rfl)) ?_
  with_reducible refine (spec_SendParcel.calls k _ _ t383 t386 t387 _ _ t388 t391 t392 t395 _ ?side1 ?side2 ?side3 ?side4 A13.out).mono ?_
  (case side1 => repeat (first | exact (Kd.R_reads' HO385.out).2.2 | (with_reducible refine Kd.CA ?_ _) | (with_reducible refine Kd.CN ?_ _) | (with_reducible refine Kd.CD ?_)))
  (case side2 => exact (Kd.R_reads' HO385.out).2.1)
  (case side3 => repeat (first | exact (Kd.R_reads' HO390.out).2.2 | (with_reducible refine Kd.CA ?_ _) | (with_reducible refine Kd.CN ?_ _) | (with_reducible refine Kd.CD ?_)))
  (case side4 => exact (Kd.R_reads' HO390.out).2.1)
  rintro e w26 ⟨v393, rfl, ho0, hb⟩
  refine ⟨_, rfl, ?_⟩
  have n0_ := zK (Kd.R_elder' (by (with_reducible repeat (first | apply Kd.RA | apply Kd.RN | apply Kd.RD)); exact HO385.out) (Kd.R_base ho0) hb)
  have n1_ := zK (Kd.R_below (by (with_reducible repeat (first | apply Kd.RA | apply Kd.RN | apply Kd.RD)); exact HO390.out) hb)
  have n2_ := zK (Kd.R_lower (Kd.R_new' ho0 (Kd.R_lt (by (with_reducible repeat (first | apply Kd.RA | apply Kd.RN | apply Kd.RD)); exact HO385.out))) (bZ (by repeat (first | (with_reducible first | exact HB.out | apply bA | apply bN | apply b1 | refine bS ?_ GE380.out) | exact HB.out))))
  have n3_ := zK (bB (g := gb380) (o := .cells #[.int .i64 a1_0, .int .i64 a1_1, .slice A1_2 l1_2.length c1_2, .int .i64 a1_3] 74 (0, 0)) (by (with_reducible repeat (first | refine kN ?_ _ | refine kD ?_ | refine kA ?_ _)); exact BK380.out) hb)
  have n4_ := zK (bT (by repeat (first | (with_reducible first | exact HB.out | apply bA | apply bN | apply b1 | refine bS ?_ GE380.out) | exact HB.out)) hb)
  clear HO385
  clear HO390
  clear BK380
  clear HB
  have HO385 := n0_
  have HO390 := n1_
  have HO394 := n2_
  have BK380 := n3_
  have HB := n4_
  clear n0_ n1_ n2_ n3_ n4_
  (try clear hb)
  (try clear hb2)
  (try clear hk)
  (try clear hi)
  (try clear ho0)
  refine hK.out _ _ ⟨(bc BK380.out 0).trans rfl, (bc BK380.out 1).trans rfl, (bc BK380.out 2).trans rfl, (bc BK380.out 3).trans rfl⟩ (fun hHeld => ?_)
  clear hK K
  refine norm_ (a' := ?_) ?_ ?_
  rotate_left
  · show Act.put _ (some 32) _ = _
    simp only [Act.put, sA, sZ, sS, i64_w, i32_w]
    rfl
  refine pI 5 (some 27) b14A6 HT_ ?_
  refine pI 6 (some 33) b14A7 HT_ ?_
  refine pI 7 (some 34) b14A8 HT_ ?_
  refine pI 8 (some 6) b14A9 HT_ ?_
  refine pI 9 (some 7) b14A10 HT_ ?_
  refine done_ (done_of HT_.out (by kernel_rfl)) ?_
  go_upto_region 12 with (first | ((with_reducible refine gate_callee (f := 50) rfl ?_); refine goesL_ (some 36) rfl rfl Try.func50 (by kernel_rfl) rfl #[.slice A0 l0.length c0] rfl (by (try simp only [List.map_toArray, List.map_cons, List.map_nil]); first | done | rfl | (simp only [List.length_drop, List.length_take]; rfl)) ?_; (with_reducible refine (laws_toHandS.calls k _ _ l0 t396 _ ?side1 ?side2 A14.out).mono ?_); (case side1 => repeat (first | exact (Kd.C_below HR0.out HB.out) | (with_reducible refine Kd.CA ?_ _) | (with_reducible refine Kd.CN ?_ _) | (with_reducible refine Kd.CD ?_))); (case side2 => exact HC0.out); rintro e w27 ⟨v397, rfl, ho0, hb⟩; refine ⟨_, rfl, ?_⟩; have n0_ := zK (Kd.R_elder' (by (with_reducible repeat (first | apply Kd.RA | apply Kd.RN | apply Kd.RD)); exact HO385.out) (Kd.R_base ho0) hb); have n1_ := zK (Kd.R_below (by (with_reducible repeat (first | apply Kd.RA | apply Kd.RN | apply Kd.RD)); exact HO390.out) hb); have n2_ := zK (Kd.R_elder' (by (with_reducible repeat (first | apply Kd.RA | apply Kd.RN | apply Kd.RD)); exact HO394.out) (Kd.R_base ho0) hb); have n3_ := zK (Kd.R_lower (Kd.R_new' (Kd.R_new' ho0 (Kd.R_lt (by (with_reducible repeat (first | apply Kd.RA | apply Kd.RN | apply Kd.RD)); exact HO385.out))) (Kd.R_lt (by (with_reducible repeat (first | apply Kd.RA | apply Kd.RN | apply Kd.RD)); exact HO394.out))) (bZ (by repeat (first | (with_reducible first | exact HB.out | apply bA | apply bN | apply b1 | refine bS ?_ GE380.out) | exact HB.out)))); have n4_ := zK (bB (g := gb380) (o := .cells #[.int .i64 a1_0, .int .i64 a1_1, .slice A1_2 l1_2.length c1_2, .int .i64 a1_3] 74 (0, 0)) (by (with_reducible repeat (first | refine kN ?_ _ | refine kD ?_ | refine kA ?_ _)); exact BK380.out) hb); have n5_ := zK (bT (by repeat (first | (with_reducible first | exact HB.out | apply bA | apply bN | apply b1 | refine bS ?_ GE380.out) | exact HB.out)) hb); clear HO385; clear HO390; clear HO394; clear BK380; clear HB; have HO385 := n0_; have HO390 := n1_; have HO394 := n2_; have HO398 := n3_; have BK380 := n4_; have HB := n5_; clear n0_ n1_ n2_ n3_ n4_ n5_; (try clear hb); (try clear hb2); (try clear hk); (try clear hi); (try clear ho0); have hcz28_0 : w27.cell? ⟨gb380, 0, none⟩ = some (.int .i64 a1_0) := (bc BK380.out 0).trans rfl; have hcz28_1 : w27.cell? ⟨gb380, 1, none⟩ = some (.int .i64 a1_1) := (bc BK380.out 1).trans rfl; have hcz28_2 : w27.cell? ⟨gb380, 2, none⟩ = some (.slice A1_2 l1_2.length c1_2) := (bc BK380.out 2).trans rfl; have hcz28_3 : w27.cell? ⟨gb380, 3, none⟩ = some (.int .i64 a1_3) := (bc BK380.out 3).trans rfl; have hfz28_0 := bf BK380.out 0; have hfz28_1 := bf BK380.out 1; have hfz28_2 := bf BK380.out 2; have hfz28_3 := bf BK380.out 3) | ((with_reducible refine gate_callee (f := 51) rfl ?_); refine goesL_ (some 38) rfl rfl Try.func51 (by kernel_rfl) rfl #[.agg #[.int .i64 a1_0, .int .i64 a1_1, .slice A1_2 l1_2.length c1_2, .int .i64 a1_3]] rfl (by (try simp only [List.map_toArray, List.map_cons, List.map_nil]); first | done | rfl | (simp only [List.length_drop, List.length_take]; rfl)) ?_; (with_reducible refine (laws_toParcel.calls k a1_0 a1_1 _ _ l1_2 a1_3 t399 t400 t401 t404 _ ?side1 ?side2 A15.out).mono ?_); (case side1 => repeat (first | exact (Kd.C_below HR1_2.out HB.out) | (with_reducible refine Kd.CA ?_ _) | (with_reducible refine Kd.CN ?_ _) | (with_reducible refine Kd.CD ?_))); (case side2 => exact HC1_2.out); rintro e w29 ⟨v402, rfl, ho0, hb⟩; refine ⟨_, rfl, ?_⟩; have n0_ := zK (Kd.R_below (by (with_reducible repeat (first | apply Kd.RA | apply Kd.RN | apply Kd.RD)); exact HO385.out) hb); have n1_ := zK (Kd.R_elder' (by (with_reducible repeat (first | apply Kd.RA | apply Kd.RN | apply Kd.RD)); exact HO390.out) (Kd.R_base ho0) hb); have n2_ := zK (Kd.R_below (by (with_reducible repeat (first | apply Kd.RA | apply Kd.RN | apply Kd.RD)); exact HO394.out) hb); have n3_ := zK (Kd.R_below (by (with_reducible repeat (first | apply Kd.RA | apply Kd.RN | apply Kd.RD)); exact HO398.out) hb); have n4_ := zK (Kd.R_lower (Kd.R_new' ho0 (Kd.R_lt (by (with_reducible repeat (first | apply Kd.RA | apply Kd.RN | apply Kd.RD)); exact HO390.out))) (bZ (by repeat (first | (with_reducible first | exact HB.out | apply bA | apply bN | apply b1 | refine bS ?_ GE380.out) | exact HB.out)))); have n5_ := zK (bB (g := gb380) (o := .cells #[.int .i64 a1_0, .int .i64 a1_1, .slice A1_2 l1_2.length c1_2, .int .i64 a1_3] 74 (0, 0)) (by (with_reducible repeat (first | refine kN ?_ _ | refine kD ?_ | refine kA ?_ _)); exact BK380.out) hb); have n6_ := zK (bT (by repeat (first | (with_reducible first | exact HB.out | apply bA | apply bN | apply b1 | refine bS ?_ GE380.out) | exact HB.out)) hb); clear HO385; clear HO390; clear HO394; clear HO398; clear BK380; clear HB; have HO385 := n0_; have HO390 := n1_; have HO394 := n2_; have HO398 := n3_; have HO403 := n4_; have BK380 := n5_; have HB := n6_; clear n0_ n1_ n2_ n3_ n4_ n5_ n6_; (try clear hb); (try clear hb2); (try clear hk); (try clear hi); (try clear ho0)) | ((with_reducible refine gate_dst (N := 9) rfl ?_); refine box_event ?hg (N := 9) ?hd (cs := #[.int .i64 0, .int .i64 0, .slice none 0 0, .int .i64 0]) (t := 53) ?hr ?_; (case hd => rfl); (case hg => rfl); (case hr => first | (go_simp; done) | (go_simp; rfl)); intro gb405 hg w30 hbox hb; have n0_ := zK (Kd.R_below (by (with_reducible repeat (first | apply Kd.RA | apply Kd.RN | apply Kd.RD)); exact HO385.out) hb); have n1_ := zK (Kd.R_below (by (with_reducible repeat (first | apply Kd.RA | apply Kd.RN | apply Kd.RD)); exact HO390.out) hb); have n2_ := zK (Kd.R_below (by (with_reducible repeat (first | apply Kd.RA | apply Kd.RN | apply Kd.RD)); exact HO394.out) hb); have n3_ := zK (Kd.R_below (by (with_reducible repeat (first | apply Kd.RA | apply Kd.RN | apply Kd.RD)); exact HO398.out) hb); have n4_ := zK (Kd.R_below (by (with_reducible repeat (first | apply Kd.RA | apply Kd.RN | apply Kd.RD)); exact HO403.out) hb); have n5_ := zK (bB (g := gb380) (o := .cells #[.int .i64 a1_0, .int .i64 a1_1, .slice A1_2 l1_2.length c1_2, .int .i64 a1_3] 74 (0, 0)) (by (with_reducible repeat (first | refine kN ?_ _ | refine kD ?_ | refine kA ?_ _)); exact BK380.out) hb); have n6_ := zK (bT (by repeat (first | (with_reducible first | exact HB.out | apply bA | apply bN | apply b1 | refine bS ?_ GE380.out) | exact HB.out)) hb); have n7_ := zK (hbox); have n8_ := zK ((by rw [hg]; exact (bZ (by repeat (first | (with_reducible first | exact HB.out | apply bA | apply bN | apply b1 | refine bS ?_ GE380.out) | exact HB.out))) : w.heap.size ≤ gb405)); have n9_ := zK ((by rw [hg]; exact (bZ (by repeat (first | (with_reducible first | exact HB.out | apply bA | apply bN | apply b1 | refine bS ?_ GE380.out) | exact HB.out))) : w.heap.size ≤ gb405)); have n10_ := zK ((by rw [hg]; exact Nat.ne_of_lt (blk_lt (g := gb380) (o := .cells #[.int .i64 a1_0, .int .i64 a1_1, .slice A1_2 l1_2.length c1_2, .int .i64 a1_3] 74 (0, 0)) (by (with_reducible repeat (first | refine kN ?_ _ | refine kD ?_ | refine kA ?_ _)); exact BK380.out)) : gb380 ≠ gb405)); have n11_ := zK ((by rw [hg]; exact Nat.ne_of_gt (blk_lt (g := gb380) (o := .cells #[.int .i64 a1_0, .int .i64 a1_1, .slice A1_2 l1_2.length c1_2, .int .i64 a1_3] 74 (0, 0)) (by (with_reducible repeat (first | refine kN ?_ _ | refine kD ?_ | refine kA ?_ _)); exact BK380.out)) : gb405 ≠ gb380)); clear HO385; clear HO390; clear HO394; clear HO398; clear HO403; clear BK380; clear HB; have HO385 := n0_; have HO390 := n1_; have HO394 := n2_; have HO398 := n3_; have HO403 := n4_; have BK380 := n5_; have HB := n6_; have BK405 := n7_; have GW405 := n8_; have GE405 := n9_; have NB380_405 := n10_; have NB405_380 := n11_; clear n0_ n1_ n2_ n3_ n4_ n5_ n6_ n7_ n8_ n9_ n10_ n11_; clear hb hbox hg; have hnb31 := NB405_380.out; have hnc31 := NB380_405.out; have hcz32_0 : w30.cell? ⟨gb405, 0, none⟩ = some (.int .i64 0) := (bc BK405.out 0).trans rfl; have hcz32_1 : w30.cell? ⟨gb405, 1, none⟩ = some (.int .i64 0) := (bc BK405.out 1).trans rfl; have hcz32_2 : w30.cell? ⟨gb405, 2, none⟩ = some (.slice none 0 0) := (bc BK405.out 2).trans rfl; have hcz32_3 : w30.cell? ⟨gb405, 3, none⟩ = some (.int .i64 0) := (bc BK405.out 3).trans rfl; have hfz32_0 := bf BK405.out 0; have hfz32_1 := bf BK405.out 1; have hfz32_2 := bf BK405.out 2; have hfz32_3 := bf BK405.out 3; obtain ⟨Ao33, co33, eo33⟩ := Kd.R_slice HO403.out; subst eo33; obtain ⟨Ao34, co34, eo34⟩ := Kd.R_slice HO398.out; subst eo34) | ((with_reducible refine gate_callee (f := 32) rfl ?_); refine goesL_ (some 42) rfl rfl Try.func32 (by kernel_rfl) rfl #[.slice Ao34 t396.length co34, .agg #[.int .i64 t399, .int .i64 t400, .slice Ao33 t401.length co33, .int .i64 t404]] rfl (by (try simp only [List.map_toArray, List.map_cons, List.map_nil]); first | done | rfl | (simp only [List.length_drop, List.length_take]; rfl)) ?_; (with_reducible refine (impl_SendParcel.calls k _ _ t396 t399 t400 _ _ t401 t404 t406 t409 _ ?side1 ?side2 ?side3 ?side4 A16.out).mono ?_); (case side1 => refine (Kd.R_reads' (e := 138) (base := w.heap.size) (ok := fun k_ => ((True ∧ some k_ ≠ (.slice Ao24 t383.length co24 : Value).ownBlock) ∧ some k_ ≠ (v393 : Value).ownBlock)) (n := t396.length) (c := co34) ?_).2.2; exact (by (with_reducible repeat (first | apply Kd.RA | apply Kd.RN | apply Kd.RD)); exact (Kd.R_mono (Kd.R_far (p := ⟨gb405, 3, none⟩) (Kd.R_far (p := ⟨gb405, 2, none⟩) (Kd.R_far (p := ⟨gb405, 1, none⟩) (Kd.R_far (p := ⟨gb405, 0, none⟩) (Kd.R_types HO398.out BK405.out (by decide)) (fun _ hk => hk.2) (.int .i64 t399)) (fun _ hk => hk.2) (.int .i64 t400)) (fun _ hk => hk.2) (.slice Ao33 t401.length co33)) (fun _ hk => hk.2) (.int .i64 t404)) (fun _ h_ => h_.1)))); (case side2 => exact (Kd.R_reads' HO398.out).2.1); (case side3 => refine (Kd.R_reads' (e := 3) (base := w.heap.size) (ok := fun k_ => (True ∧ some k_ ≠ (.slice Ao25 t388.length co25 : Value).ownBlock)) (n := t401.length) (c := co33) ?_).2.2; exact (by (with_reducible repeat (first | apply Kd.RA | apply Kd.RN | apply Kd.RD)); exact (Kd.R_mono (Kd.R_far (p := ⟨gb405, 3, none⟩) (Kd.R_far (p := ⟨gb405, 2, none⟩) (Kd.R_far (p := ⟨gb405, 1, none⟩) (Kd.R_far (p := ⟨gb405, 0, none⟩) (Kd.R_types HO403.out BK405.out (by decide)) (fun _ hk => hk.2) (.int .i64 t399)) (fun _ hk => hk.2) (.int .i64 t400)) (fun _ hk => hk.2) (.slice Ao33 t401.length co33)) (fun _ hk => hk.2) (.int .i64 t404)) (fun _ h_ => h_.1)))); (case side4 => exact (Kd.R_reads' HO403.out).2.1); rintro e w35 ⟨v407, rfl, ho0, hb⟩; refine ⟨_, rfl, ?_⟩; have n0_ := zK (Kd.R_elder' (by (with_reducible repeat (first | apply Kd.RA | apply Kd.RN | apply Kd.RD)); exact (Kd.R_mono (Kd.R_far (p := ⟨gb405, 3, none⟩) (Kd.R_far (p := ⟨gb405, 2, none⟩) (Kd.R_far (p := ⟨gb405, 1, none⟩) (Kd.R_far (p := ⟨gb405, 0, none⟩) (Kd.R_types HO385.out BK405.out (by decide)) (fun _ hk => hk.2) (.int .i64 t399)) (fun _ hk => hk.2) (.int .i64 t400)) (fun _ hk => hk.2) (.slice Ao33 t401.length co33)) (fun _ hk => hk.2) (.int .i64 t404)) (fun _ h_ => h_.1))) (Kd.R_base ho0) hb); have n1_ := zK (Kd.R_below (by (with_reducible repeat (first | apply Kd.RA | apply Kd.RN | apply Kd.RD)); exact (Kd.R_mono (Kd.R_far (p := ⟨gb405, 3, none⟩) (Kd.R_far (p := ⟨gb405, 2, none⟩) (Kd.R_far (p := ⟨gb405, 1, none⟩) (Kd.R_far (p := ⟨gb405, 0, none⟩) (Kd.R_types HO390.out BK405.out (by decide)) (fun _ hk => hk.2) (.int .i64 t399)) (fun _ hk => hk.2) (.int .i64 t400)) (fun _ hk => hk.2) (.slice Ao33 t401.length co33)) (fun _ hk => hk.2) (.int .i64 t404)) (fun _ h_ => h_.1))) hb); have n2_ := zK (Kd.R_elder' (by (with_reducible repeat (first | apply Kd.RA | apply Kd.RN | apply Kd.RD)); exact (Kd.R_mono (Kd.R_far (p := ⟨gb405, 3, none⟩) (Kd.R_far (p := ⟨gb405, 2, none⟩) (Kd.R_far (p := ⟨gb405, 1, none⟩) (Kd.R_far (p := ⟨gb405, 0, none⟩) (Kd.R_types HO394.out BK405.out (by decide)) (fun _ hk => hk.2) (.int .i64 t399)) (fun _ hk => hk.2) (.int .i64 t400)) (fun _ hk => hk.2) (.slice Ao33 t401.length co33)) (fun _ hk => hk.2) (.int .i64 t404)) (fun _ h_ => h_.1))) (Kd.R_base ho0) hb); have n3_ := zK (Kd.R_elder' (by (with_reducible repeat (first | apply Kd.RA | apply Kd.RN | apply Kd.RD)); exact (Kd.R_mono (Kd.R_far (p := ⟨gb405, 3, none⟩) (Kd.R_far (p := ⟨gb405, 2, none⟩) (Kd.R_far (p := ⟨gb405, 1, none⟩) (Kd.R_far (p := ⟨gb405, 0, none⟩) (Kd.R_types HO398.out BK405.out (by decide)) (fun _ hk => hk.2) (.int .i64 t399)) (fun _ hk => hk.2) (.int .i64 t400)) (fun _ hk => hk.2) (.slice Ao33 t401.length co33)) (fun _ hk => hk.2) (.int .i64 t404)) (fun _ h_ => h_.1))) (Kd.R_base ho0) hb); have n4_ := zK (Kd.R_below (by (with_reducible repeat (first | apply Kd.RA | apply Kd.RN | apply Kd.RD)); exact (Kd.R_mono (Kd.R_far (p := ⟨gb405, 3, none⟩) (Kd.R_far (p := ⟨gb405, 2, none⟩) (Kd.R_far (p := ⟨gb405, 1, none⟩) (Kd.R_far (p := ⟨gb405, 0, none⟩) (Kd.R_types HO403.out BK405.out (by decide)) (fun _ hk => hk.2) (.int .i64 t399)) (fun _ hk => hk.2) (.int .i64 t400)) (fun _ hk => hk.2) (.slice Ao33 t401.length co33)) (fun _ hk => hk.2) (.int .i64 t404)) (fun _ h_ => h_.1))) hb); have n5_ := zK (Kd.R_lower (Kd.R_new' (Kd.R_new' (Kd.R_new' ho0 (Kd.R_lt (by (with_reducible repeat (first | apply Kd.RA | apply Kd.RN | apply Kd.RD)); exact (Kd.R_mono (Kd.R_far (p := ⟨gb405, 3, none⟩) (Kd.R_far (p := ⟨gb405, 2, none⟩) (Kd.R_far (p := ⟨gb405, 1, none⟩) (Kd.R_far (p := ⟨gb405, 0, none⟩) (Kd.R_types HO385.out BK405.out (by decide)) (fun _ hk => hk.2) (.int .i64 t399)) (fun _ hk => hk.2) (.int .i64 t400)) (fun _ hk => hk.2) (.slice Ao33 t401.length co33)) (fun _ hk => hk.2) (.int .i64 t404)) (fun _ h_ => h_.1))))) (Kd.R_lt (by (with_reducible repeat (first | apply Kd.RA | apply Kd.RN | apply Kd.RD)); exact (Kd.R_mono (Kd.R_far (p := ⟨gb405, 3, none⟩) (Kd.R_far (p := ⟨gb405, 2, none⟩) (Kd.R_far (p := ⟨gb405, 1, none⟩) (Kd.R_far (p := ⟨gb405, 0, none⟩) (Kd.R_types HO394.out BK405.out (by decide)) (fun _ hk => hk.2) (.int .i64 t399)) (fun _ hk => hk.2) (.int .i64 t400)) (fun _ hk => hk.2) (.slice Ao33 t401.length co33)) (fun _ hk => hk.2) (.int .i64 t404)) (fun _ h_ => h_.1))))) (Kd.R_lt (by (with_reducible repeat (first | apply Kd.RA | apply Kd.RN | apply Kd.RD)); exact (Kd.R_mono (Kd.R_far (p := ⟨gb405, 3, none⟩) (Kd.R_far (p := ⟨gb405, 2, none⟩) (Kd.R_far (p := ⟨gb405, 1, none⟩) (Kd.R_far (p := ⟨gb405, 0, none⟩) (Kd.R_types HO398.out BK405.out (by decide)) (fun _ hk => hk.2) (.int .i64 t399)) (fun _ hk => hk.2) (.int .i64 t400)) (fun _ hk => hk.2) (.slice Ao33 t401.length co33)) (fun _ hk => hk.2) (.int .i64 t404)) (fun _ h_ => h_.1))))) (bZ (by repeat (first | (with_reducible first | exact HB.out | apply bA | apply bN | apply b1 | refine bS ?_ GE380.out | refine bS ?_ GE405.out) | exact HB.out)))); have n6_ := zK (bB (g := gb380) (o := .cells #[.int .i64 a1_0, .int .i64 a1_1, .slice A1_2 l1_2.length c1_2, .int .i64 a1_3] 74 (0, 0)) (by (with_reducible repeat (first | refine kN ?_ _ | refine kD ?_ | refine kA ?_ _)); refine blk_far ?_ NB380_405.out _; (with_reducible repeat (first | refine kN ?_ _ | refine kD ?_ | refine kA ?_ _)); refine blk_far ?_ NB380_405.out _; (with_reducible repeat (first | refine kN ?_ _ | refine kD ?_ | refine kA ?_ _)); refine blk_far ?_ NB380_405.out _; (with_reducible repeat (first | refine kN ?_ _ | refine kD ?_ | refine kA ?_ _)); refine blk_far ?_ NB380_405.out _; (with_reducible repeat (first | refine kN ?_ _ | refine kD ?_ | refine kA ?_ _)); exact BK380.out) hb); have n7_ := zK (bB (g := gb405) (o := .cells #[.int .i64 t399, .int .i64 t400, .slice Ao33 t401.length co33, .int .i64 t404] 53 (0, 0)) (by (with_reducible repeat (first | refine kN ?_ _ | refine kD ?_ | refine kA ?_ _)); refine blk_put (cs := #[.int .i64 t399, .int .i64 t400, .slice Ao33 t401.length co33, .int .i64 0]) ?_ 3 _ rfl; (with_reducible repeat (first | refine kN ?_ _ | refine kD ?_ | refine kA ?_ _)); refine blk_put (cs := #[.int .i64 t399, .int .i64 t400, .slice none 0 0, .int .i64 0]) ?_ 2 _ rfl; (with_reducible repeat (first | refine kN ?_ _ | refine kD ?_ | refine kA ?_ _)); refine blk_put (cs := #[.int .i64 t399, .int .i64 0, .slice none 0 0, .int .i64 0]) ?_ 1 _ rfl; (with_reducible repeat (first | refine kN ?_ _ | refine kD ?_ | refine kA ?_ _)); refine blk_put (cs := #[.int .i64 0, .int .i64 0, .slice none 0 0, .int .i64 0]) ?_ 0 _ rfl; (with_reducible repeat (first | refine kN ?_ _ | refine kD ?_ | refine kA ?_ _)); exact BK405.out) hb); have n8_ := zK (bT (by repeat (first | (with_reducible first | exact HB.out | apply bA | apply bN | apply b1 | refine bS ?_ GE380.out | refine bS ?_ GE405.out) | exact HB.out)) hb); clear HO385; clear HO390; clear HO394; clear HO398; clear HO403; clear BK380; clear BK405; clear HB; have HO385 := n0_; have HO390 := n1_; have HO394 := n2_; have HO398 := n3_; have HO403 := n4_; have HO408 := n5_; have BK380 := n6_; have BK405 := n7_; have HB := n8_; clear n0_ n1_ n2_ n3_ n4_ n5_ n6_ n7_ n8_; (try clear hb); (try clear hb2); (try clear hk); (try clear hi); (try clear ho0)))
  (try simp only [Act.put, sA, sZ, sS])
  go_cut [53] (fun v53 wc => ∃ (kq : Nat) (x53_16 : Bool), v53 = .bool x53_16 ∧ Aside0 (laws_FnExactSendParcel.j0 kq l0 t392 t395 t396 t406 t409 x53_16 a1_0 a1_1 l1_2 a1_3 t399 t400 t401 t404 = some r) ∧ Aside0 (kq ≤ k) ∧ Aside0 (Kd.R k138 138 wc w.heap.size (fun k_ => some k_ ≠ ((.slice Ao34 t396.length co34) : Value).ownBlock ∧ some k_ ≠ (v407 : Value).ownBlock) v393 t392) ∧ Aside0 (Kd.R k138 138 wc w.heap.size (fun k_ => some k_ ≠ (v393 : Value).ownBlock ∧ some k_ ≠ (v407 : Value).ownBlock) (.slice Ao34 t396.length co34) t396) ∧ Aside0 (Kd.R k138 138 wc w.heap.size (fun k_ => some k_ ≠ (v393 : Value).ownBlock ∧ some k_ ≠ ((.slice Ao34 t396.length co34) : Value).ownBlock) v407 t406) ∧ Aside0 (Kd.R (Kd.int .i64) 3 wc w.heap.size (fun _ => True) (.slice Ao33 t401.length co33) t401) ∧ Aside0 (wc.heap[gb380]? = some (.cells #[.int .i64 a1_0, .int .i64 a1_1, (.slice A1_2 l1_2.length c1_2), .int .i64 a1_3] 74 (0, 0))) ∧ Aside0 (wc.heap[gb405]? = some (.cells #[.int .i64 t399, .int .i64 t400, (.slice Ao33 t401.length co33), .int .i64 t404] 53 (0, 0))) ∧ Aside0 (Below w.heap.size w wc))
  case first =>
    have H := HC17.out
    clear HC17
    replace H := Option.bind_eq_some_iff.mp H
    obtain ⟨t410, A360, H⟩ := H
    replace H : (if t410 = true then (laws_FnExactSendParcel.j0 k l0 t392 t395 t396 t406 t409 (t409 != t395) a1_0 a1_1 l1_2 a1_3 t399 t400 t401 t404) else (laws_FnExactSendParcel.j0 k l0 t392 t395 t396 t406 t409 true a1_0 a1_1 l1_2 a1_3 t399 t400 t401 t404)) = some r := H
    have A36 := zK A360
    clear A360
    by_cases c37 : t410 = true
    · subst c37
      have H1 : (laws_FnExactSendParcel.j0 k l0 t392 t395 t396 t406 t409 (t409 != t395) a1_0 a1_1 l1_2 a1_3 t399 t400 t401 t404) = some r := by rw [if_pos rfl] at H; exact H
      clear H
      have H := H1
      clear H1
      have H' := zK H
      clear H
      obtain ⟨Ao38, co38, eo38⟩ := Kd.R_slice HO408.out
      subst eo38
      obtain ⟨Ao39, co39, eo39⟩ := Kd.R_slice HO394.out
      subst eo39
      go_wp2_with (first | ((with_reducible refine gate_callee (f := 52) rfl ?_); refine goesL_ (some 47) rfl rfl Try.func52 (by kernel_rfl) rfl #[.slice Ao38 t406.length co38, .slice Ao39 t392.length co39] rfl (by (try simp only [List.map_toArray, List.map_cons, List.map_nil]); first | done | rfl | (simp only [List.length_drop, List.length_take]; rfl)) ?_; (with_reducible refine (laws_eqHandS.calls k _ _ t406 _ _ t392 true _ ?side1 ?side2 ?side3 ?side4 A36.out).mono ?_); (case side1 => repeat (first | exact (Kd.R_reads' HO408.out).2.2 | (with_reducible refine Kd.CA ?_ _) | (with_reducible refine Kd.CN ?_ _) | (with_reducible refine Kd.CD ?_))); (case side2 => exact (Kd.R_reads' HO408.out).2.1); (case side3 => repeat (first | exact (Kd.R_reads' HO394.out).2.2 | (with_reducible refine Kd.CA ?_ _) | (with_reducible refine Kd.CN ?_ _) | (with_reducible refine Kd.CD ?_))); (case side4 => exact (Kd.R_reads' HO394.out).2.1); rintro e w40 ⟨rfl, hb⟩; refine ⟨_, rfl, ?_⟩; have n0_ := zK (Kd.R_below (by (with_reducible repeat (first | apply Kd.RA | apply Kd.RN | apply Kd.RD)); exact HO385.out) hb); have n1_ := zK (Kd.R_below (by (with_reducible repeat (first | apply Kd.RA | apply Kd.RN | apply Kd.RD)); exact HO390.out) hb); have n2_ := zK (Kd.R_below (by (with_reducible repeat (first | apply Kd.RA | apply Kd.RN | apply Kd.RD)); exact HO394.out) hb); have n3_ := zK (Kd.R_below (by (with_reducible repeat (first | apply Kd.RA | apply Kd.RN | apply Kd.RD)); exact HO398.out) hb); have n4_ := zK (Kd.R_below (by (with_reducible repeat (first | apply Kd.RA | apply Kd.RN | apply Kd.RD)); exact HO403.out) hb); have n5_ := zK (Kd.R_below (by (with_reducible repeat (first | apply Kd.RA | apply Kd.RN | apply Kd.RD)); exact HO408.out) hb); have n6_ := zK (bB (g := gb380) (o := .cells #[.int .i64 a1_0, .int .i64 a1_1, .slice A1_2 l1_2.length c1_2, .int .i64 a1_3] 74 (0, 0)) (by (with_reducible repeat (first | refine kN ?_ _ | refine kD ?_ | refine kA ?_ _)); exact BK380.out) hb); have n7_ := zK (bB (g := gb405) (o := .cells #[.int .i64 t399, .int .i64 t400, .slice Ao33 t401.length co33, .int .i64 t404] 53 (0, 0)) (by (with_reducible repeat (first | refine kN ?_ _ | refine kD ?_ | refine kA ?_ _)); exact BK405.out) hb); have n8_ := zK (bT (by repeat (first | (with_reducible first | exact HB.out | apply bA | apply bN | apply b1 | refine bS ?_ GE380.out | refine bS ?_ GE405.out) | exact HB.out)) hb); clear HO385; clear HO390; clear HO394; clear HO398; clear HO403; clear HO408; clear BK380; clear BK405; clear HB; have HO385 := n0_; have HO390 := n1_; have HO394 := n2_; have HO398 := n3_; have HO403 := n4_; have HO408 := n5_; have BK380 := n6_; have BK405 := n7_; have HB := n8_; clear n0_ n1_ n2_ n3_ n4_ n5_ n6_ n7_ n8_; (try clear hb); (try clear hb2); (try clear hk); (try clear hi)))
      go_meet
      case rel => exact ⟨_, ((t409 != t395)), (by first | rfl | (simp; done) | (simp [*]; done)), H', ⟨by first | omega | exact Nat.le_refl _⟩, ⟨by (with_reducible repeat (first | apply Kd.RA | apply Kd.RN | apply Kd.RD)); exact Kd.R_mono HO394.out (fun _ hk => ⟨hk.1.2, hk.2⟩)⟩, ⟨by (with_reducible repeat (first | apply Kd.RA | apply Kd.RN | apply Kd.RD)); exact Kd.R_mono HO398.out (fun _ hk => ⟨hk.1.2, hk.2⟩)⟩, ⟨by (with_reducible repeat (first | apply Kd.RA | apply Kd.RN | apply Kd.RD)); exact Kd.R_mono HO408.out (fun _ hk => ⟨hk.1.2, hk.2⟩)⟩, ⟨by (with_reducible repeat (first | apply Kd.RA | apply Kd.RN | apply Kd.RD)); exact Kd.R_mono HO403.out (fun _ hk => trivial)⟩, ⟨by (with_reducible repeat (first | refine kN ?_ _ | refine kD ?_ | refine kA ?_ _)); exact BK380.out⟩, ⟨by (with_reducible repeat (first | refine kN ?_ _ | refine kD ?_ | refine kA ?_ _)); exact BK405.out⟩, ⟨by repeat (first | (with_reducible first | exact HB.out | apply bA | apply bN | apply b1 | refine bS ?_ GE380.out | refine bS ?_ GE405.out) | exact HB.out)⟩⟩
    replace c37 := Bool.eq_false_iff.mpr c37
    subst c37
    have H1 : (laws_FnExactSendParcel.j0 k l0 t392 t395 t396 t406 t409 true a1_0 a1_1 l1_2 a1_3 t399 t400 t401 t404) = some r := by rw [if_neg (show ¬ (false = true) by decide)] at H; exact H
    clear H
    have H := H1
    clear H1
    have H' := zK H
    clear H
    obtain ⟨Ao41, co41, eo41⟩ := Kd.R_slice HO408.out
    subst eo41
    obtain ⟨Ao42, co42, eo42⟩ := Kd.R_slice HO394.out
    subst eo42
    go_wp2_with (first | ((with_reducible refine gate_callee (f := 52) rfl ?_); refine goesL_ (some 47) rfl rfl Try.func52 (by kernel_rfl) rfl #[.slice Ao41 t406.length co41, .slice Ao42 t392.length co42] rfl (by (try simp only [List.map_toArray, List.map_cons, List.map_nil]); first | done | rfl | (simp only [List.length_drop, List.length_take]; rfl)) ?_; (with_reducible refine (laws_eqHandS.calls k _ _ t406 _ _ t392 false _ ?side1 ?side2 ?side3 ?side4 A36.out).mono ?_); (case side1 => repeat (first | exact (Kd.R_reads' HO408.out).2.2 | (with_reducible refine Kd.CA ?_ _) | (with_reducible refine Kd.CN ?_ _) | (with_reducible refine Kd.CD ?_))); (case side2 => exact (Kd.R_reads' HO408.out).2.1); (case side3 => repeat (first | exact (Kd.R_reads' HO394.out).2.2 | (with_reducible refine Kd.CA ?_ _) | (with_reducible refine Kd.CN ?_ _) | (with_reducible refine Kd.CD ?_))); (case side4 => exact (Kd.R_reads' HO394.out).2.1); rintro e w43 ⟨rfl, hb⟩; refine ⟨_, rfl, ?_⟩; have n0_ := zK (Kd.R_below (by (with_reducible repeat (first | apply Kd.RA | apply Kd.RN | apply Kd.RD)); exact HO385.out) hb); have n1_ := zK (Kd.R_below (by (with_reducible repeat (first | apply Kd.RA | apply Kd.RN | apply Kd.RD)); exact HO390.out) hb); have n2_ := zK (Kd.R_below (by (with_reducible repeat (first | apply Kd.RA | apply Kd.RN | apply Kd.RD)); exact HO394.out) hb); have n3_ := zK (Kd.R_below (by (with_reducible repeat (first | apply Kd.RA | apply Kd.RN | apply Kd.RD)); exact HO398.out) hb); have n4_ := zK (Kd.R_below (by (with_reducible repeat (first | apply Kd.RA | apply Kd.RN | apply Kd.RD)); exact HO403.out) hb); have n5_ := zK (Kd.R_below (by (with_reducible repeat (first | apply Kd.RA | apply Kd.RN | apply Kd.RD)); exact HO408.out) hb); have n6_ := zK (bB (g := gb380) (o := .cells #[.int .i64 a1_0, .int .i64 a1_1, .slice A1_2 l1_2.length c1_2, .int .i64 a1_3] 74 (0, 0)) (by (with_reducible repeat (first | refine kN ?_ _ | refine kD ?_ | refine kA ?_ _)); exact BK380.out) hb); have n7_ := zK (bB (g := gb405) (o := .cells #[.int .i64 t399, .int .i64 t400, .slice Ao33 t401.length co33, .int .i64 t404] 53 (0, 0)) (by (with_reducible repeat (first | refine kN ?_ _ | refine kD ?_ | refine kA ?_ _)); exact BK405.out) hb); have n8_ := zK (bT (by repeat (first | (with_reducible first | exact HB.out | apply bA | apply bN | apply b1 | refine bS ?_ GE380.out | refine bS ?_ GE405.out) | exact HB.out)) hb); clear HO385; clear HO390; clear HO394; clear HO398; clear HO403; clear HO408; clear BK380; clear BK405; clear HB; have HO385 := n0_; have HO390 := n1_; have HO394 := n2_; have HO398 := n3_; have HO403 := n4_; have HO408 := n5_; have BK380 := n6_; have BK405 := n7_; have HB := n8_; clear n0_ n1_ n2_ n3_ n4_ n5_ n6_ n7_ n8_; (try clear hb); (try clear hb2); (try clear hk); (try clear hi)))
    go_meet
    case rel => exact ⟨_, (true), (by first | rfl | (simp; done) | (simp [*]; done)), H', ⟨by first | omega | exact Nat.le_refl _⟩, ⟨by (with_reducible repeat (first | apply Kd.RA | apply Kd.RN | apply Kd.RD)); exact Kd.R_mono HO394.out (fun _ hk => ⟨hk.1.2, hk.2⟩)⟩, ⟨by (with_reducible repeat (first | apply Kd.RA | apply Kd.RN | apply Kd.RD)); exact Kd.R_mono HO398.out (fun _ hk => ⟨hk.1.2, hk.2⟩)⟩, ⟨by (with_reducible repeat (first | apply Kd.RA | apply Kd.RN | apply Kd.RD)); exact Kd.R_mono HO408.out (fun _ hk => ⟨hk.1.2, hk.2⟩)⟩, ⟨by (with_reducible repeat (first | apply Kd.RA | apply Kd.RN | apply Kd.RD)); exact Kd.R_mono HO403.out (fun _ hk => trivial)⟩, ⟨by (with_reducible repeat (first | refine kN ?_ _ | refine kD ?_ | refine kA ?_ _)); exact BK380.out⟩, ⟨by (with_reducible repeat (first | refine kN ?_ _ | refine kD ?_ | refine kA ?_ _)); exact BK405.out⟩, ⟨by repeat (first | (with_reducible first | exact HB.out | apply bA | apply bN | apply b1 | refine bS ?_ GE380.out | refine bS ?_ GE405.out) | exact HB.out)⟩⟩
  case rest =>
    clear HC17
    try clear c1
    try clear p2
    try clear c3
    try clear c4
    try clear c4b0
    try clear c5
    try clear c7
    try clear c7b0
    try clear c8
    try clear c31
    try clear c32
    try clear c37
    try clear hcz19_0
    try clear hcz19_1
    try clear hcz19_2
    try clear hcz19_3
    try clear hcz28_0
    try clear hcz28_1
    try clear hcz28_2
    try clear hcz28_3
    try clear hcz32_0
    try clear hcz32_1
    try clear hcz32_2
    try clear hcz32_3
    try clear hcz9_0
    try clear hcz9_1
    try clear hcz9_2
    try clear hcz9_3
    try clear hfz19_0
    try clear hfz19_1
    try clear hfz19_2
    try clear hfz19_3
    try clear hfz28_0
    try clear hfz28_1
    try clear hfz28_2
    try clear hfz28_3
    try clear hfz32_0
    try clear hfz32_1
    try clear hfz32_2
    try clear hfz32_3
    try clear hfz9_0
    try clear hfz9_1
    try clear hfz9_2
    try clear hfz9_3
    obtain ⟨kq, x53_16, rfl, HA, HJ16, HO_6, HO_8, HO_10, HO_406002, BK380, BK405, HB⟩ := hcut
    cases kq with
    | zero => exact absurd HA.out (by simp [laws_FnExactSendParcel.j0])
    | succ kj16 =>
      have H := HA.out
      clear HA
      simp only [laws_FnExactSendParcel.j0] at H
      by_cases c44 : x53_16 = true
      · subst c44
        have H1 : (some false) = some r := by rw [if_pos rfl] at H; exact H
        clear H
        have H := H1
        clear H1
        obtain rfl := Option.some.inj H
        go_wp2
        go_ret
        exact ⟨by first | rfl | (simp [errW_none, errW_some] <;> rfl) | (simp [*, errW_none, errW_some] <;> rfl), by repeat (first | (with_reducible first | exact HB.out | apply bA | apply bN | apply b1 | refine bS ?_ GE380.out | refine bS ?_ GE405.out) | exact HB.out)⟩
      replace c44 := Bool.eq_false_iff.mpr c44
      subst c44
      have H1 : ((laws_toHandS.f kj16 l0).bind fun t411 => ((laws_eqHandS.f kj16 t396 t411).bind fun t414 => (if t414 = true then ((laws_toParcel.f kj16 a1_0 a1_1 l1_2 a1_3).bind fun bt415 => ((laws_eqParcel.f kj16 t399 t400 t401 t404 bt415.1 bt415.2.1 bt415.2.2.1 bt415.2.2.2).bind fun t421 => (if t421 = true then ((laws_markHandS.f kj16 t396 1).bind fun bt422 => ((laws_markParcel.f kj16 t399 t400 t401 t404 bt422.1).bind fun bt424 => (if bt424.1 < 0 then (laws_FnExactSendParcel.j1 kj16 l0 t392 t395 t406 true a1_0 a1_1 l1_2 a1_3) else ((laws_eqHandS.f kj16 t406 t392).bind fun t426 => (if t426 = true then (laws_FnExactSendParcel.j1 kj16 l0 t392 t395 t406 (t409 != t395) a1_0 a1_1 l1_2 a1_3) else (laws_FnExactSendParcel.j1 kj16 l0 t392 t395 t406 true a1_0 a1_1 l1_2 a1_3)))))) else (some false)))) else (some false)))) = some r := by rw [if_neg (show ¬ (false = true) by decide)] at H; exact H
      clear H
      have H := H1
      clear H1
      replace H := Option.bind_eq_some_iff.mp H
      obtain ⟨t411, A450, H⟩ := H
      replace H : ((laws_eqHandS.f kj16 t396 t411).bind fun t414 => (if t414 = true then ((laws_toParcel.f kj16 a1_0 a1_1 l1_2 a1_3).bind fun bt415 => ((laws_eqParcel.f kj16 t399 t400 t401 t404 bt415.1 bt415.2.1 bt415.2.2.1 bt415.2.2.2).bind fun t421 => (if t421 = true then ((laws_markHandS.f kj16 t396 1).bind fun bt422 => ((laws_markParcel.f kj16 t399 t400 t401 t404 bt422.1).bind fun bt424 => (if bt424.1 < 0 then (laws_FnExactSendParcel.j1 kj16 l0 t392 t395 t406 true a1_0 a1_1 l1_2 a1_3) else ((laws_eqHandS.f kj16 t406 t392).bind fun t426 => (if t426 = true then (laws_FnExactSendParcel.j1 kj16 l0 t392 t395 t406 (t409 != t395) a1_0 a1_1 l1_2 a1_3) else (laws_FnExactSendParcel.j1 kj16 l0 t392 t395 t406 true a1_0 a1_1 l1_2 a1_3)))))) else (some false)))) else (some false))) = some r := H
      have A45 := zK A450
      clear A450
      replace H := Option.bind_eq_some_iff.mp H
      obtain ⟨t414, A460, H⟩ := H
      replace H : (if t414 = true then ((laws_toParcel.f kj16 a1_0 a1_1 l1_2 a1_3).bind fun bt415 => ((laws_eqParcel.f kj16 t399 t400 t401 t404 bt415.1 bt415.2.1 bt415.2.2.1 bt415.2.2.2).bind fun t421 => (if t421 = true then ((laws_markHandS.f kj16 t396 1).bind fun bt422 => ((laws_markParcel.f kj16 t399 t400 t401 t404 bt422.1).bind fun bt424 => (if bt424.1 < 0 then (laws_FnExactSendParcel.j1 kj16 l0 t392 t395 t406 true a1_0 a1_1 l1_2 a1_3) else ((laws_eqHandS.f kj16 t406 t392).bind fun t426 => (if t426 = true then (laws_FnExactSendParcel.j1 kj16 l0 t392 t395 t406 (t409 != t395) a1_0 a1_1 l1_2 a1_3) else (laws_FnExactSendParcel.j1 kj16 l0 t392 t395 t406 true a1_0 a1_1 l1_2 a1_3)))))) else (some false)))) else (some false)) = some r := H
      have A46 := zK A460
      clear A460
      by_cases c47 : t414 = true
      rotate_left
      · replace c47 := Bool.eq_false_iff.mpr c47
        subst c47
        have H1 : (some false) = some r := by rw [if_neg (show ¬ (false = true) by decide)] at H; exact H
        clear H
        have H := H1
        clear H1
        obtain rfl := Option.some.inj H
        go_wp2_with (first | ((with_reducible refine gate_callee (f := 50) rfl ?_); refine goesL_ (some 56) rfl rfl Try.func50 (by kernel_rfl) rfl #[.slice A0 l0.length c0] rfl (by (try simp only [List.map_toArray, List.map_cons, List.map_nil]); first | done | rfl | (simp only [List.length_drop, List.length_take]; rfl)) ?_; (with_reducible refine (laws_toHandS.calls kj16 _ _ l0 t411 _ ?side1 ?side2 A45.out).mono ?_); (case side1 => repeat (first | exact (Kd.C_below HR0.out HB.out) | (with_reducible refine Kd.CA ?_ _) | (with_reducible refine Kd.CN ?_ _) | (with_reducible refine Kd.CD ?_))); (case side2 => exact HC0.out); rintro e w114 ⟨v412, rfl, ho0, hb⟩; refine ⟨_, rfl, ?_⟩; have n0_ := zK (Kd.R_elder' (by (with_reducible repeat (first | apply Kd.RA | apply Kd.RN | apply Kd.RD)); exact HO_6.out) (Kd.R_base ho0) hb); have n1_ := zK (Kd.R_elder' (by (with_reducible repeat (first | apply Kd.RA | apply Kd.RN | apply Kd.RD)); exact HO_8.out) (Kd.R_base ho0) hb); have n2_ := zK (Kd.R_elder' (by (with_reducible repeat (first | apply Kd.RA | apply Kd.RN | apply Kd.RD)); exact HO_10.out) (Kd.R_base ho0) hb); have n3_ := zK (Kd.R_below (by (with_reducible repeat (first | apply Kd.RA | apply Kd.RN | apply Kd.RD)); exact HO_406002.out) hb); have n4_ := zK (Kd.R_lower (Kd.R_new' (Kd.R_new' (Kd.R_new' ho0 (Kd.R_lt (by (with_reducible repeat (first | apply Kd.RA | apply Kd.RN | apply Kd.RD)); exact HO_6.out))) (Kd.R_lt (by (with_reducible repeat (first | apply Kd.RA | apply Kd.RN | apply Kd.RD)); exact HO_8.out))) (Kd.R_lt (by (with_reducible repeat (first | apply Kd.RA | apply Kd.RN | apply Kd.RD)); exact HO_10.out))) (bZ (by repeat (first | (with_reducible first | exact HB.out | apply bA | apply bN | apply b1 | refine bS ?_ GE380.out | refine bS ?_ GE405.out) | exact HB.out)))); have n5_ := zK (bB (g := gb380) (o := .cells #[.int .i64 a1_0, .int .i64 a1_1, .slice A1_2 l1_2.length c1_2, .int .i64 a1_3] 74 (0, 0)) (by (with_reducible repeat (first | refine kN ?_ _ | refine kD ?_ | refine kA ?_ _)); exact BK380.out) hb); have n6_ := zK (bB (g := gb405) (o := .cells #[.int .i64 t399, .int .i64 t400, .slice Ao33 t401.length co33, .int .i64 t404] 53 (0, 0)) (by (with_reducible repeat (first | refine kN ?_ _ | refine kD ?_ | refine kA ?_ _)); exact BK405.out) hb); have n7_ := zK (bT (by repeat (first | (with_reducible first | exact HB.out | apply bA | apply bN | apply b1 | refine bS ?_ GE380.out | refine bS ?_ GE405.out) | exact HB.out)) hb); clear HO_6; clear HO_8; clear HO_10; clear HO_406002; clear BK380; clear BK405; clear HB; have HO_6 := n0_; have HO_8 := n1_; have HO_10 := n2_; have HO_406002 := n3_; have HO413 := n4_; have BK380 := n5_; have BK405 := n6_; have HB := n7_; clear n0_ n1_ n2_ n3_ n4_ n5_ n6_ n7_; (try clear hb); (try clear hb2); (try clear hk); (try clear hi); (try clear ho0); obtain ⟨Ao115, co115, eo115⟩ := Kd.R_slice HO413.out; subst eo115) | ((with_reducible refine gate_callee (f := 52) rfl ?_); refine goesL_ (some 57) rfl rfl Try.func52 (by kernel_rfl) rfl #[.slice Ao34 t396.length co34, .slice Ao115 t411.length co115] rfl (by (try simp only [List.map_toArray, List.map_cons, List.map_nil]); first | done | rfl | (simp only [List.length_drop, List.length_take]; rfl)) ?_; (with_reducible refine (laws_eqHandS.calls kj16 _ _ t396 _ _ t411 false _ ?side1 ?side2 ?side3 ?side4 A46.out).mono ?_); (case side1 => repeat (first | exact (Kd.R_reads' HO_8.out).2.2 | (with_reducible refine Kd.CA ?_ _) | (with_reducible refine Kd.CN ?_ _) | (with_reducible refine Kd.CD ?_))); (case side2 => exact (Kd.R_reads' HO_8.out).2.1); (case side3 => repeat (first | exact (Kd.R_reads' HO413.out).2.2 | (with_reducible refine Kd.CA ?_ _) | (with_reducible refine Kd.CN ?_ _) | (with_reducible refine Kd.CD ?_))); (case side4 => exact (Kd.R_reads' HO413.out).2.1); rintro e w116 ⟨rfl, hb⟩; refine ⟨_, rfl, ?_⟩; have n0_ := zK (Kd.R_below (by (with_reducible repeat (first | apply Kd.RA | apply Kd.RN | apply Kd.RD)); exact HO_6.out) hb); have n1_ := zK (Kd.R_below (by (with_reducible repeat (first | apply Kd.RA | apply Kd.RN | apply Kd.RD)); exact HO_8.out) hb); have n2_ := zK (Kd.R_below (by (with_reducible repeat (first | apply Kd.RA | apply Kd.RN | apply Kd.RD)); exact HO_10.out) hb); have n3_ := zK (Kd.R_below (by (with_reducible repeat (first | apply Kd.RA | apply Kd.RN | apply Kd.RD)); exact HO_406002.out) hb); have n4_ := zK (Kd.R_below (by (with_reducible repeat (first | apply Kd.RA | apply Kd.RN | apply Kd.RD)); exact HO413.out) hb); have n5_ := zK (bB (g := gb380) (o := .cells #[.int .i64 a1_0, .int .i64 a1_1, .slice A1_2 l1_2.length c1_2, .int .i64 a1_3] 74 (0, 0)) (by (with_reducible repeat (first | refine kN ?_ _ | refine kD ?_ | refine kA ?_ _)); exact BK380.out) hb); have n6_ := zK (bB (g := gb405) (o := .cells #[.int .i64 t399, .int .i64 t400, .slice Ao33 t401.length co33, .int .i64 t404] 53 (0, 0)) (by (with_reducible repeat (first | refine kN ?_ _ | refine kD ?_ | refine kA ?_ _)); exact BK405.out) hb); have n7_ := zK (bT (by repeat (first | (with_reducible first | exact HB.out | apply bA | apply bN | apply b1 | refine bS ?_ GE380.out | refine bS ?_ GE405.out) | exact HB.out)) hb); clear HO_6; clear HO_8; clear HO_10; clear HO_406002; clear HO413; clear BK380; clear BK405; clear HB; have HO_6 := n0_; have HO_8 := n1_; have HO_10 := n2_; have HO_406002 := n3_; have HO413 := n4_; have BK380 := n5_; have BK405 := n6_; have HB := n7_; clear n0_ n1_ n2_ n3_ n4_ n5_ n6_ n7_; (try clear hb); (try clear hb2); (try clear hk); (try clear hi)))
        go_ret
        exact ⟨by first | rfl | (simp [errW_none, errW_some] <;> rfl) | (simp [*, errW_none, errW_some] <;> rfl), by repeat (first | (with_reducible first | exact HB.out | apply bA | apply bN | apply b1 | refine bS ?_ GE380.out | refine bS ?_ GE405.out) | exact HB.out)⟩

      subst c47
      have H1 : ((laws_toParcel.f kj16 a1_0 a1_1 l1_2 a1_3).bind fun bt415 => ((laws_eqParcel.f kj16 t399 t400 t401 t404 bt415.1 bt415.2.1 bt415.2.2.1 bt415.2.2.2).bind fun t421 => (if t421 = true then ((laws_markHandS.f kj16 t396 1).bind fun bt422 => ((laws_markParcel.f kj16 t399 t400 t401 t404 bt422.1).bind fun bt424 => (if bt424.1 < 0 then (laws_FnExactSendParcel.j1 kj16 l0 t392 t395 t406 true a1_0 a1_1 l1_2 a1_3) else ((laws_eqHandS.f kj16 t406 t392).bind fun t426 => (if t426 = true then (laws_FnExactSendParcel.j1 kj16 l0 t392 t395 t406 (t409 != t395) a1_0 a1_1 l1_2 a1_3) else (laws_FnExactSendParcel.j1 kj16 l0 t392 t395 t406 true a1_0 a1_1 l1_2 a1_3)))))) else (some false)))) = some r := by rw [if_pos rfl] at H; exact H
      clear H
      have H := H1
      clear H1
      replace H := Option.bind_eq_some_iff.mp H
      obtain ⟨⟨t415, t416, t417, t420⟩, A480, H⟩ := H
      replace H : ((laws_eqParcel.f kj16 t399 t400 t401 t404 t415 t416 t417 t420).bind fun t421 => (if t421 = true then ((laws_markHandS.f kj16 t396 1).bind fun bt422 => ((laws_markParcel.f kj16 t399 t400 t401 t404 bt422.1).bind fun bt424 => (if bt424.1 < 0 then (laws_FnExactSendParcel.j1 kj16 l0 t392 t395 t406 true a1_0 a1_1 l1_2 a1_3) else ((laws_eqHandS.f kj16 t406 t392).bind fun t426 => (if t426 = true then (laws_FnExactSendParcel.j1 kj16 l0 t392 t395 t406 (t409 != t395) a1_0 a1_1 l1_2 a1_3) else (laws_FnExactSendParcel.j1 kj16 l0 t392 t395 t406 true a1_0 a1_1 l1_2 a1_3)))))) else (some false))) = some r := H
      have A48 := zK A480
      clear A480
      replace H := Option.bind_eq_some_iff.mp H
      obtain ⟨t421, A490, H⟩ := H
      replace H : (if t421 = true then ((laws_markHandS.f kj16 t396 1).bind fun bt422 => ((laws_markParcel.f kj16 t399 t400 t401 t404 bt422.1).bind fun bt424 => (if bt424.1 < 0 then (laws_FnExactSendParcel.j1 kj16 l0 t392 t395 t406 true a1_0 a1_1 l1_2 a1_3) else ((laws_eqHandS.f kj16 t406 t392).bind fun t426 => (if t426 = true then (laws_FnExactSendParcel.j1 kj16 l0 t392 t395 t406 (t409 != t395) a1_0 a1_1 l1_2 a1_3) else (laws_FnExactSendParcel.j1 kj16 l0 t392 t395 t406 true a1_0 a1_1 l1_2 a1_3)))))) else (some false)) = some r := H
      have A49 := zK A490
      clear A490
      by_cases c50 : t421 = true
      rotate_left
      · replace c50 := Bool.eq_false_iff.mpr c50
        subst c50
        have H1 : (some false) = some r := by rw [if_neg (show ¬ (false = true) by decide)] at H; exact H
        clear H
        have H := H1
        clear H1
        obtain rfl := Option.some.inj H
        try go_wp2_with (first | ((with_reducible refine gate_callee (f := 50) rfl ?_); refine goesL_ (some 56) rfl rfl Try.func50 (by kernel_rfl) rfl #[.slice A0 l0.length c0] rfl (by (try simp only [List.map_toArray, List.map_cons, List.map_nil]); first | done | rfl | (simp only [List.length_drop, List.length_take]; rfl)) ?_; (with_reducible refine (laws_toHandS.calls kj16 _ _ l0 t411 _ ?side1 ?side2 A45.out).mono ?_); (case side1 => repeat (first | exact (Kd.C_below HR0.out HB.out) | (with_reducible refine Kd.CA ?_ _) | (with_reducible refine Kd.CN ?_ _) | (with_reducible refine Kd.CD ?_))); (case side2 => exact HC0.out); rintro e w107 ⟨v412, rfl, ho0, hb⟩; refine ⟨_, rfl, ?_⟩; have n0_ := zK (Kd.R_elder' (by (with_reducible repeat (first | apply Kd.RA | apply Kd.RN | apply Kd.RD)); exact HO_6.out) (Kd.R_base ho0) hb); have n1_ := zK (Kd.R_elder' (by (with_reducible repeat (first | apply Kd.RA | apply Kd.RN | apply Kd.RD)); exact HO_8.out) (Kd.R_base ho0) hb); have n2_ := zK (Kd.R_elder' (by (with_reducible repeat (first | apply Kd.RA | apply Kd.RN | apply Kd.RD)); exact HO_10.out) (Kd.R_base ho0) hb); have n3_ := zK (Kd.R_below (by (with_reducible repeat (first | apply Kd.RA | apply Kd.RN | apply Kd.RD)); exact HO_406002.out) hb); have n4_ := zK (Kd.R_lower (Kd.R_new' (Kd.R_new' (Kd.R_new' ho0 (Kd.R_lt (by (with_reducible repeat (first | apply Kd.RA | apply Kd.RN | apply Kd.RD)); exact HO_6.out))) (Kd.R_lt (by (with_reducible repeat (first | apply Kd.RA | apply Kd.RN | apply Kd.RD)); exact HO_8.out))) (Kd.R_lt (by (with_reducible repeat (first | apply Kd.RA | apply Kd.RN | apply Kd.RD)); exact HO_10.out))) (bZ (by repeat (first | (with_reducible first | exact HB.out | apply bA | apply bN | apply b1 | refine bS ?_ GE380.out | refine bS ?_ GE405.out) | exact HB.out)))); have n5_ := zK (bB (g := gb380) (o := .cells #[.int .i64 a1_0, .int .i64 a1_1, .slice A1_2 l1_2.length c1_2, .int .i64 a1_3] 74 (0, 0)) (by (with_reducible repeat (first | refine kN ?_ _ | refine kD ?_ | refine kA ?_ _)); exact BK380.out) hb); have n6_ := zK (bB (g := gb405) (o := .cells #[.int .i64 t399, .int .i64 t400, .slice Ao33 t401.length co33, .int .i64 t404] 53 (0, 0)) (by (with_reducible repeat (first | refine kN ?_ _ | refine kD ?_ | refine kA ?_ _)); exact BK405.out) hb); have n7_ := zK (bT (by repeat (first | (with_reducible first | exact HB.out | apply bA | apply bN | apply b1 | refine bS ?_ GE380.out | refine bS ?_ GE405.out) | exact HB.out)) hb); clear HO_6; clear HO_8; clear HO_10; clear HO_406002; clear BK380; clear BK405; clear HB; have HO_6 := n0_; have HO_8 := n1_; have HO_10 := n2_; have HO_406002 := n3_; have HO413 := n4_; have BK380 := n5_; have BK405 := n6_; have HB := n7_; clear n0_ n1_ n2_ n3_ n4_ n5_ n6_ n7_; (try clear hb); (try clear hb2); (try clear hk); (try clear hi); (try clear ho0); obtain ⟨Ao108, co108, eo108⟩ := Kd.R_slice HO413.out; subst eo108) | ((with_reducible refine gate_callee (f := 52) rfl ?_); refine goesL_ (some 57) rfl rfl Try.func52 (by kernel_rfl) rfl #[.slice Ao34 t396.length co34, .slice Ao108 t411.length co108] rfl (by (try simp only [List.map_toArray, List.map_cons, List.map_nil]); first | done | rfl | (simp only [List.length_drop, List.length_take]; rfl)) ?_; (with_reducible refine (laws_eqHandS.calls kj16 _ _ t396 _ _ t411 true _ ?side1 ?side2 ?side3 ?side4 A46.out).mono ?_); (case side1 => repeat (first | exact (Kd.R_reads' HO_8.out).2.2 | (with_reducible refine Kd.CA ?_ _) | (with_reducible refine Kd.CN ?_ _) | (with_reducible refine Kd.CD ?_))); (case side2 => exact (Kd.R_reads' HO_8.out).2.1); (case side3 => repeat (first | exact (Kd.R_reads' HO413.out).2.2 | (with_reducible refine Kd.CA ?_ _) | (with_reducible refine Kd.CN ?_ _) | (with_reducible refine Kd.CD ?_))); (case side4 => exact (Kd.R_reads' HO413.out).2.1); rintro e w109 ⟨rfl, hb⟩; refine ⟨_, rfl, ?_⟩; have n0_ := zK (Kd.R_below (by (with_reducible repeat (first | apply Kd.RA | apply Kd.RN | apply Kd.RD)); exact HO_6.out) hb); have n1_ := zK (Kd.R_below (by (with_reducible repeat (first | apply Kd.RA | apply Kd.RN | apply Kd.RD)); exact HO_8.out) hb); have n2_ := zK (Kd.R_below (by (with_reducible repeat (first | apply Kd.RA | apply Kd.RN | apply Kd.RD)); exact HO_10.out) hb); have n3_ := zK (Kd.R_below (by (with_reducible repeat (first | apply Kd.RA | apply Kd.RN | apply Kd.RD)); exact HO_406002.out) hb); have n4_ := zK (Kd.R_below (by (with_reducible repeat (first | apply Kd.RA | apply Kd.RN | apply Kd.RD)); exact HO413.out) hb); have n5_ := zK (bB (g := gb380) (o := .cells #[.int .i64 a1_0, .int .i64 a1_1, .slice A1_2 l1_2.length c1_2, .int .i64 a1_3] 74 (0, 0)) (by (with_reducible repeat (first | refine kN ?_ _ | refine kD ?_ | refine kA ?_ _)); exact BK380.out) hb); have n6_ := zK (bB (g := gb405) (o := .cells #[.int .i64 t399, .int .i64 t400, .slice Ao33 t401.length co33, .int .i64 t404] 53 (0, 0)) (by (with_reducible repeat (first | refine kN ?_ _ | refine kD ?_ | refine kA ?_ _)); exact BK405.out) hb); have n7_ := zK (bT (by repeat (first | (with_reducible first | exact HB.out | apply bA | apply bN | apply b1 | refine bS ?_ GE380.out | refine bS ?_ GE405.out) | exact HB.out)) hb); clear HO_6; clear HO_8; clear HO_10; clear HO_406002; clear HO413; clear BK380; clear BK405; clear HB; have HO_6 := n0_; have HO_8 := n1_; have HO_10 := n2_; have HO_406002 := n3_; have HO413 := n4_; have BK380 := n5_; have BK405 := n6_; have HB := n7_; clear n0_ n1_ n2_ n3_ n4_ n5_ n6_ n7_; (try clear hb); (try clear hb2); (try clear hk); (try clear hi)))
        have n0_ := zK (Kd.RD HO_6.out)
        have n1_ := zK (Kd.RD HO_8.out)
        have n2_ := zK (Kd.RD HO_10.out)
        have n3_ := zK (Kd.RD HO_406002.out)
        have n4_ := zK (Kd.RD HO413.out)
        have n5_ := zK (kD BK380.out)
        have n6_ := zK (kD BK405.out)
        have n7_ := zK (b1 HB.out)
        clear HO_6
        clear HO_8
        clear HO_10
        clear HO_406002
        clear HO413
        clear BK380
        clear BK405
        clear HB
        have HO_6 := n0_
        have HO_8 := n1_
        have HO_10 := n2_
        have HO_406002 := n3_
        have HO413 := n4_
        have BK380 := n5_
        have BK405 := n6_
        have HB := n7_
        clear n0_ n1_ n2_ n3_ n4_ n5_ n6_ n7_
        refine start_ (n := 5) (S := fun w' => w'.cell? ⟨gb405, 0, none⟩ = some (.int .i64 t399) ∧ w'.cell? ⟨gb405, 1, none⟩ = some (.int .i64 t400) ∧ w'.cell? ⟨gb405, 2, none⟩ = some (.slice Ao33 t401.length co33) ∧ w'.cell? ⟨gb405, 3, none⟩ = some (.int .i64 t404) ∧ w'.cell? ⟨gb380, 0, none⟩ = some (.int .i64 a1_0) ∧ w'.cell? ⟨gb380, 1, none⟩ = some (.int .i64 a1_1) ∧ w'.cell? ⟨gb380, 2, none⟩ = some (.slice A1_2 l1_2.length c1_2) ∧ w'.cell? ⟨gb380, 3, none⟩ = some (.int .i64 a1_3)) (ds := []) #[false, false, false, false, false] (by kernel_rfl) rfl rfl ⟨(bc BK405.out 0).trans rfl, (bc BK405.out 1).trans rfl, (bc BK405.out 2).trans rfl, (bc BK405.out 3).trans rfl, (bc BK380.out 0).trans rfl, (bc BK380.out 1).trans rfl, (bc BK380.out 2).trans rfl, (bc BK380.out 3).trans rfl⟩ (fun hHeld => ?_)
        generalize w109.drew = w110 at HO_6 HO_8 HO_10 HO_406002 HO413 BK380 BK405 HB hHeld ⊢
        refine take_ (i := 0) (N := some 59) (v := ?_) (a' := ?_) #[true, false, false, false, false] rfl rfl (by kernel_rfl) (fun _ _ _ h => h) (Or.inl ⟨by rfl, ?_⟩) hHeld ?_ ?_
        rotate_left
        · rintro w' ⟨s0, s1, s2, s3, s4, s5, s6, s7⟩
          go_simp
          with_reducible rfl
        rotate_left
        · simp only [Act.put, sA, sZ, sS, i64_w, i32_w]
          rfl
        refine take_ (i := 1) (N := some 60) (v := ?_) (a' := ?_) #[true, true, false, false, false] rfl rfl (by kernel_rfl) (fun _ _ _ h => h) (Or.inl ⟨by rfl, ?_⟩) hHeld ?_ ?_
        rotate_left
        · rintro w' ⟨s0, s1, s2, s3, s4, s5, s6, s7⟩
          go_simp
          with_reducible rfl
        rotate_left
        · simp only [Act.put, sA, sZ, sS, i64_w, i32_w]
          rfl
        refine one_ (i := 2) (N := some 61) #[true, true, true, false, false] rfl rfl (by kernel_rfl) (by decide) (fun K hK => ?_)
        refine goes_ Try.func51 (by kernel_rfl) rfl #[.agg #[.int .i64 a1_0, .int .i64 a1_1, .slice A1_2 l1_2.length c1_2, .int .i64 a1_3]] (by rfl) rfl rfl (by (try simp only [List.map_toArray, List.map_cons, List.map_nil]); first | done | rfl | (simp only [List.length_drop, List.length_take]; rfl)) ?_
        with_reducible refine (laws_toParcel.calls kj16 a1_0 a1_1 _ _ l1_2 a1_3 t415 t416 t417 t420 _ ?side1 ?side2 A48.out).mono ?_
        (case side1 => repeat (first | exact (Kd.C_below HR1_2.out HB.out) | (with_reducible refine Kd.CA ?_ _) | (with_reducible refine Kd.CN ?_ _) | (with_reducible refine Kd.CD ?_)))
        (case side2 => exact HC1_2.out)
        rintro e w111 ⟨v418, rfl, ho0, hb⟩
        refine ⟨_, rfl, ?_⟩
        have n0_ := zK (Kd.R_below (by (with_reducible repeat (first | apply Kd.RA | apply Kd.RN | apply Kd.RD)); exact HO_6.out) hb)
        have n1_ := zK (Kd.R_below (by (with_reducible repeat (first | apply Kd.RA | apply Kd.RN | apply Kd.RD)); exact HO_8.out) hb)
        have n2_ := zK (Kd.R_below (by (with_reducible repeat (first | apply Kd.RA | apply Kd.RN | apply Kd.RD)); exact HO_10.out) hb)
        have n3_ := zK (Kd.R_elder' (by (with_reducible repeat (first | apply Kd.RA | apply Kd.RN | apply Kd.RD)); exact HO_406002.out) (Kd.R_base ho0) hb)
        have n4_ := zK (Kd.R_below (by (with_reducible repeat (first | apply Kd.RA | apply Kd.RN | apply Kd.RD)); exact HO413.out) hb)
        have n5_ := zK (Kd.R_lower (Kd.R_new' ho0 (Kd.R_lt (by (with_reducible repeat (first | apply Kd.RA | apply Kd.RN | apply Kd.RD)); exact HO_406002.out))) (bZ (by repeat (first | (with_reducible first | exact HB.out | apply bA | apply bN | apply b1 | refine bS ?_ GE380.out | refine bS ?_ GE405.out) | exact HB.out))))
        have n6_ := zK (bB (g := gb380) (o := .cells #[.int .i64 a1_0, .int .i64 a1_1, .slice A1_2 l1_2.length c1_2, .int .i64 a1_3] 74 (0, 0)) (by (with_reducible repeat (first | refine kN ?_ _ | refine kD ?_ | refine kA ?_ _)); exact BK380.out) hb)
        have n7_ := zK (bB (g := gb405) (o := .cells #[.int .i64 t399, .int .i64 t400, .slice Ao33 t401.length co33, .int .i64 t404] 53 (0, 0)) (by (with_reducible repeat (first | refine kN ?_ _ | refine kD ?_ | refine kA ?_ _)); exact BK405.out) hb)
        have n8_ := zK (bT (by repeat (first | (with_reducible first | exact HB.out | apply bA | apply bN | apply b1 | refine bS ?_ GE380.out | refine bS ?_ GE405.out) | exact HB.out)) hb)
        clear HO_6
        clear HO_8
        clear HO_10
        clear HO_406002
        clear HO413
        clear BK380
        clear BK405
        clear HB
        have HO_6 := n0_
        have HO_8 := n1_
        have HO_10 := n2_
        have HO_406002 := n3_
        have HO413 := n4_
        have HO419 := n5_
        have BK380 := n6_
        have BK405 := n7_
        have HB := n8_
        clear n0_ n1_ n2_ n3_ n4_ n5_ n6_ n7_ n8_
        (try clear hb)
        (try clear hb2)
        (try clear hk)
        (try clear hi)
        (try clear ho0)
        obtain ⟨Ao112, co112, eo112⟩ := Kd.R_slice HO419.out
        (first | subst eo112 | (injection eo112 with f1_ f2_ f3_; have f4_ := f1_.symm; have f5_ := f3_.symm; clear f1_ f2_ f3_; subst f4_; subst f5_))
        refine hK.out _ _ ⟨(bc BK405.out 0).trans rfl, (bc BK405.out 1).trans rfl, (bc BK405.out 2).trans rfl, (bc BK405.out 3).trans rfl, (bc BK380.out 0).trans rfl, (bc BK380.out 1).trans rfl, (bc BK380.out 2).trans rfl, (bc BK380.out 3).trans rfl⟩ (fun hHeld => ?_)
        clear hK K
        refine norm_ (a' := ?_) ?_ ?_
        rotate_left
        · show Act.put _ (some 61) _ = _
          simp only [Act.put, sA, sZ, sS, i64_w, i32_w]
          rfl
        refine one_ (i := 3) (N := some 62) #[true, true, true, true, false] rfl rfl (by kernel_rfl) (by decide) (fun K hK => ?_)
        refine goes_ Try.func53 (by kernel_rfl) rfl #[.agg #[.int .i64 t399, .int .i64 t400, .slice Ao33 t401.length co33, .int .i64 t404], .agg #[.int .i64 t415, .int .i64 t416, .slice Ao112 t417.length co112, .int .i64 t420]] (by rfl) rfl rfl (by (try simp only [List.map_toArray, List.map_cons, List.map_nil]); first | done | rfl | (simp only [List.length_drop, List.length_take]; rfl)) ?_
        with_reducible refine (laws_eqParcel.calls kj16 t399 t400 _ _ t401 t404 t415 t416 _ _ t417 t420 false _ ?side1 ?side2 ?side3 ?side4 A49.out).mono ?_
        (case side1 => repeat (first | exact (Kd.R_reads' HO_406002.out).2.2 | (with_reducible refine Kd.CA ?_ _) | (with_reducible refine Kd.CN ?_ _) | (with_reducible refine Kd.CD ?_)))
        (case side2 => exact (Kd.R_reads' HO_406002.out).2.1)
        (case side3 => repeat (first | exact (Kd.R_reads' HO419.out).2.2 | (with_reducible refine Kd.CA ?_ _) | (with_reducible refine Kd.CN ?_ _) | (with_reducible refine Kd.CD ?_)))
        (case side4 => exact (Kd.R_reads' HO419.out).2.1)
        rintro e w113 ⟨rfl, hb⟩
        refine ⟨_, rfl, ?_⟩
        have n0_ := zK (Kd.R_below (by (with_reducible repeat (first | apply Kd.RA | apply Kd.RN | apply Kd.RD)); exact HO_6.out) hb)
        have n1_ := zK (Kd.R_below (by (with_reducible repeat (first | apply Kd.RA | apply Kd.RN | apply Kd.RD)); exact HO_8.out) hb)
        have n2_ := zK (Kd.R_below (by (with_reducible repeat (first | apply Kd.RA | apply Kd.RN | apply Kd.RD)); exact HO_10.out) hb)
        have n3_ := zK (Kd.R_below (by (with_reducible repeat (first | apply Kd.RA | apply Kd.RN | apply Kd.RD)); exact HO_406002.out) hb)
        have n4_ := zK (Kd.R_below (by (with_reducible repeat (first | apply Kd.RA | apply Kd.RN | apply Kd.RD)); exact HO413.out) hb)
        have n5_ := zK (Kd.R_below (by (with_reducible repeat (first | apply Kd.RA | apply Kd.RN | apply Kd.RD)); exact HO419.out) hb)
        have n6_ := zK (bB (g := gb380) (o := .cells #[.int .i64 a1_0, .int .i64 a1_1, .slice A1_2 l1_2.length c1_2, .int .i64 a1_3] 74 (0, 0)) (by (with_reducible repeat (first | refine kN ?_ _ | refine kD ?_ | refine kA ?_ _)); exact BK380.out) hb)
        have n7_ := zK (bB (g := gb405) (o := .cells #[.int .i64 t399, .int .i64 t400, .slice Ao33 t401.length co33, .int .i64 t404] 53 (0, 0)) (by (with_reducible repeat (first | refine kN ?_ _ | refine kD ?_ | refine kA ?_ _)); exact BK405.out) hb)
        have n8_ := zK (bT (by repeat (first | (with_reducible first | exact HB.out | apply bA | apply bN | apply b1 | refine bS ?_ GE380.out | refine bS ?_ GE405.out) | exact HB.out)) hb)
        clear HO_6
        clear HO_8
        clear HO_10
        clear HO_406002
        clear HO413
        clear HO419
        clear BK380
        clear BK405
        clear HB
        have HO_6 := n0_
        have HO_8 := n1_
        have HO_10 := n2_
        have HO_406002 := n3_
        have HO413 := n4_
        have HO419 := n5_
        have BK380 := n6_
        have BK405 := n7_
        have HB := n8_
        clear n0_ n1_ n2_ n3_ n4_ n5_ n6_ n7_ n8_
        (try clear hb)
        (try clear hb2)
        (try clear hk)
        (try clear hi)
        refine hK.out _ _ ⟨(bc BK405.out 0).trans rfl, (bc BK405.out 1).trans rfl, (bc BK405.out 2).trans rfl, (bc BK405.out 3).trans rfl, (bc BK380.out 0).trans rfl, (bc BK380.out 1).trans rfl, (bc BK380.out 2).trans rfl, (bc BK380.out 3).trans rfl⟩ (fun hHeld => ?_)
        clear hK K
        refine norm_ (a' := ?_) ?_ ?_
        rotate_left
        · show Act.put _ (some 62) _ = _
          simp only [Act.put, sA, sZ, sS, i64_w, i32_w]
          rfl
        refine pure_ (i := 4) (N := some 63) (v := ?_) (a' := ?_) #[true, true, true, true, true] rfl rfl (by kernel_rfl) (fun _ _ _ h => h) (Or.inl ⟨by rfl, ?_⟩) ?_ ?_
        rotate_left
        · intro w'
          go_simp
          with_reducible rfl
        rotate_left
        · simp only [Act.put, sA, sZ, sS, i64_w, i32_w]
          rfl
        refine done_ (by kernel_rfl) ?_
        try go_wp2
        go_ret
        exact ⟨by first | rfl | (simp [errW_none, errW_some] <;> rfl) | (simp [*, errW_none, errW_some] <;> rfl), by repeat (first | (with_reducible first | exact HB.out | apply bA | apply bN | apply b1 | refine bS ?_ GE380.out | refine bS ?_ GE405.out) | exact HB.out)⟩
      subst c50
      have H1 : ((laws_markHandS.f kj16 t396 1).bind fun bt422 => ((laws_markParcel.f kj16 t399 t400 t401 t404 bt422.1).bind fun bt424 => (if bt424.1 < 0 then (laws_FnExactSendParcel.j1 kj16 l0 t392 t395 t406 true a1_0 a1_1 l1_2 a1_3) else ((laws_eqHandS.f kj16 t406 t392).bind fun t426 => (if t426 = true then (laws_FnExactSendParcel.j1 kj16 l0 t392 t395 t406 (t409 != t395) a1_0 a1_1 l1_2 a1_3) else (laws_FnExactSendParcel.j1 kj16 l0 t392 t395 t406 true a1_0 a1_1 l1_2 a1_3)))))) = some r := by rw [if_pos rfl] at H; exact H
      clear H
      have H := H1
      clear H1
      replace H := Option.bind_eq_some_iff.mp H
      obtain ⟨⟨t422, t423⟩, A510, H⟩ := H
      replace H : ((laws_markParcel.f kj16 t399 t400 t401 t404 t422).bind fun bt424 => (if bt424.1 < 0 then (laws_FnExactSendParcel.j1 kj16 l0 t392 t395 t406 true a1_0 a1_1 l1_2 a1_3) else ((laws_eqHandS.f kj16 t406 t392).bind fun t426 => (if t426 = true then (laws_FnExactSendParcel.j1 kj16 l0 t392 t395 t406 (t409 != t395) a1_0 a1_1 l1_2 a1_3) else (laws_FnExactSendParcel.j1 kj16 l0 t392 t395 t406 true a1_0 a1_1 l1_2 a1_3))))) = some r := H
      have A51 := zK A510
      clear A510
      replace H := Option.bind_eq_some_iff.mp H
      obtain ⟨⟨t424, t425⟩, A520, H⟩ := H
      replace H : (if t424 < 0 then (laws_FnExactSendParcel.j1 kj16 l0 t392 t395 t406 true a1_0 a1_1 l1_2 a1_3) else ((laws_eqHandS.f kj16 t406 t392).bind fun t426 => (if t426 = true then (laws_FnExactSendParcel.j1 kj16 l0 t392 t395 t406 (t409 != t395) a1_0 a1_1 l1_2 a1_3) else (laws_FnExactSendParcel.j1 kj16 l0 t392 t395 t406 true a1_0 a1_1 l1_2 a1_3)))) = some r := H
      have A52 := zK A520
      clear A520
      have HC53 := zK H
      clear H
      try go_wp2_with (first | ((with_reducible refine gate_callee (f := 50) rfl ?_); refine goesL_ (some 56) rfl rfl Try.func50 (by kernel_rfl) rfl #[.slice A0 l0.length c0] rfl (by (try simp only [List.map_toArray, List.map_cons, List.map_nil]); first | done | rfl | (simp only [List.length_drop, List.length_take]; rfl)) ?_; (with_reducible refine (laws_toHandS.calls kj16 _ _ l0 t411 _ ?side1 ?side2 A45.out).mono ?_); (case side1 => repeat (first | exact (Kd.C_below HR0.out HB.out) | (with_reducible refine Kd.CA ?_ _) | (with_reducible refine Kd.CN ?_ _) | (with_reducible refine Kd.CD ?_))); (case side2 => exact HC0.out); rintro e w54 ⟨v412, rfl, ho0, hb⟩; refine ⟨_, rfl, ?_⟩; have n0_ := zK (Kd.R_elder' (by (with_reducible repeat (first | apply Kd.RA | apply Kd.RN | apply Kd.RD)); exact HO_6.out) (Kd.R_base ho0) hb); have n1_ := zK (Kd.R_elder' (by (with_reducible repeat (first | apply Kd.RA | apply Kd.RN | apply Kd.RD)); exact HO_8.out) (Kd.R_base ho0) hb); have n2_ := zK (Kd.R_elder' (by (with_reducible repeat (first | apply Kd.RA | apply Kd.RN | apply Kd.RD)); exact HO_10.out) (Kd.R_base ho0) hb); have n3_ := zK (Kd.R_below (by (with_reducible repeat (first | apply Kd.RA | apply Kd.RN | apply Kd.RD)); exact HO_406002.out) hb); have n4_ := zK (Kd.R_lower (Kd.R_new' (Kd.R_new' (Kd.R_new' ho0 (Kd.R_lt (by (with_reducible repeat (first | apply Kd.RA | apply Kd.RN | apply Kd.RD)); exact HO_6.out))) (Kd.R_lt (by (with_reducible repeat (first | apply Kd.RA | apply Kd.RN | apply Kd.RD)); exact HO_8.out))) (Kd.R_lt (by (with_reducible repeat (first | apply Kd.RA | apply Kd.RN | apply Kd.RD)); exact HO_10.out))) (bZ (by repeat (first | (with_reducible first | exact HB.out | apply bA | apply bN | apply b1 | refine bS ?_ GE380.out | refine bS ?_ GE405.out) | exact HB.out)))); have n5_ := zK (bB (g := gb380) (o := .cells #[.int .i64 a1_0, .int .i64 a1_1, .slice A1_2 l1_2.length c1_2, .int .i64 a1_3] 74 (0, 0)) (by (with_reducible repeat (first | refine kN ?_ _ | refine kD ?_ | refine kA ?_ _)); exact BK380.out) hb); have n6_ := zK (bB (g := gb405) (o := .cells #[.int .i64 t399, .int .i64 t400, .slice Ao33 t401.length co33, .int .i64 t404] 53 (0, 0)) (by (with_reducible repeat (first | refine kN ?_ _ | refine kD ?_ | refine kA ?_ _)); exact BK405.out) hb); have n7_ := zK (bT (by repeat (first | (with_reducible first | exact HB.out | apply bA | apply bN | apply b1 | refine bS ?_ GE380.out | refine bS ?_ GE405.out) | exact HB.out)) hb); clear HO_6; clear HO_8; clear HO_10; clear HO_406002; clear BK380; clear BK405; clear HB; have HO_6 := n0_; have HO_8 := n1_; have HO_10 := n2_; have HO_406002 := n3_; have HO413 := n4_; have BK380 := n5_; have BK405 := n6_; have HB := n7_; clear n0_ n1_ n2_ n3_ n4_ n5_ n6_ n7_; (try clear hb); (try clear hb2); (try clear hk); (try clear hi); (try clear ho0); obtain ⟨Ao55, co55, eo55⟩ := Kd.R_slice HO413.out; subst eo55) | ((with_reducible refine gate_callee (f := 52) rfl ?_); refine goesL_ (some 57) rfl rfl Try.func52 (by kernel_rfl) rfl #[.slice Ao34 t396.length co34, .slice Ao55 t411.length co55] rfl (by (try simp only [List.map_toArray, List.map_cons, List.map_nil]); first | done | rfl | (simp only [List.length_drop, List.length_take]; rfl)) ?_; (with_reducible refine (laws_eqHandS.calls kj16 _ _ t396 _ _ t411 true _ ?side1 ?side2 ?side3 ?side4 A46.out).mono ?_); (case side1 => repeat (first | exact (Kd.R_reads' HO_8.out).2.2 | (with_reducible refine Kd.CA ?_ _) | (with_reducible refine Kd.CN ?_ _) | (with_reducible refine Kd.CD ?_))); (case side2 => exact (Kd.R_reads' HO_8.out).2.1); (case side3 => repeat (first | exact (Kd.R_reads' HO413.out).2.2 | (with_reducible refine Kd.CA ?_ _) | (with_reducible refine Kd.CN ?_ _) | (with_reducible refine Kd.CD ?_))); (case side4 => exact (Kd.R_reads' HO413.out).2.1); rintro e w56 ⟨rfl, hb⟩; refine ⟨_, rfl, ?_⟩; have n0_ := zK (Kd.R_below (by (with_reducible repeat (first | apply Kd.RA | apply Kd.RN | apply Kd.RD)); exact HO_6.out) hb); have n1_ := zK (Kd.R_below (by (with_reducible repeat (first | apply Kd.RA | apply Kd.RN | apply Kd.RD)); exact HO_8.out) hb); have n2_ := zK (Kd.R_below (by (with_reducible repeat (first | apply Kd.RA | apply Kd.RN | apply Kd.RD)); exact HO_10.out) hb); have n3_ := zK (Kd.R_below (by (with_reducible repeat (first | apply Kd.RA | apply Kd.RN | apply Kd.RD)); exact HO_406002.out) hb); have n4_ := zK (Kd.R_below (by (with_reducible repeat (first | apply Kd.RA | apply Kd.RN | apply Kd.RD)); exact HO413.out) hb); have n5_ := zK (bB (g := gb380) (o := .cells #[.int .i64 a1_0, .int .i64 a1_1, .slice A1_2 l1_2.length c1_2, .int .i64 a1_3] 74 (0, 0)) (by (with_reducible repeat (first | refine kN ?_ _ | refine kD ?_ | refine kA ?_ _)); exact BK380.out) hb); have n6_ := zK (bB (g := gb405) (o := .cells #[.int .i64 t399, .int .i64 t400, .slice Ao33 t401.length co33, .int .i64 t404] 53 (0, 0)) (by (with_reducible repeat (first | refine kN ?_ _ | refine kD ?_ | refine kA ?_ _)); exact BK405.out) hb); have n7_ := zK (bT (by repeat (first | (with_reducible first | exact HB.out | apply bA | apply bN | apply b1 | refine bS ?_ GE380.out | refine bS ?_ GE405.out) | exact HB.out)) hb); clear HO_6; clear HO_8; clear HO_10; clear HO_406002; clear HO413; clear BK380; clear BK405; clear HB; have HO_6 := n0_; have HO_8 := n1_; have HO_10 := n2_; have HO_406002 := n3_; have HO413 := n4_; have BK380 := n5_; have BK405 := n6_; have HB := n7_; clear n0_ n1_ n2_ n3_ n4_ n5_ n6_ n7_; (try clear hb); (try clear hb2); (try clear hk); (try clear hi)))
      have n0_ := zK (Kd.RD HO_6.out)
      have n1_ := zK (Kd.RD HO_8.out)
      have n2_ := zK (Kd.RD HO_10.out)
      have n3_ := zK (Kd.RD HO_406002.out)
      have n4_ := zK (Kd.RD HO413.out)
      have n5_ := zK (kD BK380.out)
      have n6_ := zK (kD BK405.out)
      have n7_ := zK (b1 HB.out)
      clear HO_6
      clear HO_8
      clear HO_10
      clear HO_406002
      clear HO413
      clear BK380
      clear BK405
      clear HB
      have HO_6 := n0_
      have HO_8 := n1_
      have HO_10 := n2_
      have HO_406002 := n3_
      have HO413 := n4_
      have BK380 := n5_
      have BK405 := n6_
      have HB := n7_
      clear n0_ n1_ n2_ n3_ n4_ n5_ n6_ n7_
      refine start_ (n := 5) (S := fun w' => w'.cell? ⟨gb405, 0, none⟩ = some (.int .i64 t399) ∧ w'.cell? ⟨gb405, 1, none⟩ = some (.int .i64 t400) ∧ w'.cell? ⟨gb405, 2, none⟩ = some (.slice Ao33 t401.length co33) ∧ w'.cell? ⟨gb405, 3, none⟩ = some (.int .i64 t404) ∧ w'.cell? ⟨gb380, 0, none⟩ = some (.int .i64 a1_0) ∧ w'.cell? ⟨gb380, 1, none⟩ = some (.int .i64 a1_1) ∧ w'.cell? ⟨gb380, 2, none⟩ = some (.slice A1_2 l1_2.length c1_2) ∧ w'.cell? ⟨gb380, 3, none⟩ = some (.int .i64 a1_3)) (ds := []) #[false, false, false, false, false] (by kernel_rfl) rfl rfl ⟨(bc BK405.out 0).trans rfl, (bc BK405.out 1).trans rfl, (bc BK405.out 2).trans rfl, (bc BK405.out 3).trans rfl, (bc BK380.out 0).trans rfl, (bc BK380.out 1).trans rfl, (bc BK380.out 2).trans rfl, (bc BK380.out 3).trans rfl⟩ (fun hHeld => ?_)
      generalize w56.drew = w57 at HO_6 HO_8 HO_10 HO_406002 HO413 BK380 BK405 HB hHeld ⊢
      refine take_ (i := 0) (N := some 59) (v := ?_) (a' := ?_) #[true, false, false, false, false] rfl rfl (by kernel_rfl) (fun _ _ _ h => h) (Or.inl ⟨by rfl, ?_⟩) hHeld ?_ ?_
      rotate_left
      · rintro w' ⟨s0, s1, s2, s3, s4, s5, s6, s7⟩
        go_simp
        with_reducible rfl
      rotate_left
      · simp only [Act.put, sA, sZ, sS, i64_w, i32_w]
        rfl
      refine take_ (i := 1) (N := some 60) (v := ?_) (a' := ?_) #[true, true, false, false, false] rfl rfl (by kernel_rfl) (fun _ _ _ h => h) (Or.inl ⟨by rfl, ?_⟩) hHeld ?_ ?_
      rotate_left
      · rintro w' ⟨s0, s1, s2, s3, s4, s5, s6, s7⟩
        go_simp
        with_reducible rfl
      rotate_left
      · simp only [Act.put, sA, sZ, sS, i64_w, i32_w]
        rfl
      refine one_ (i := 2) (N := some 61) #[true, true, true, false, false] rfl rfl (by kernel_rfl) (by decide) (fun K hK => ?_)
      refine goes_ Try.func51 (by kernel_rfl) rfl #[.agg #[.int .i64 a1_0, .int .i64 a1_1, .slice A1_2 l1_2.length c1_2, .int .i64 a1_3]] (by rfl) rfl rfl (by (try simp only [List.map_toArray, List.map_cons, List.map_nil]); first | done | rfl | (simp only [List.length_drop, List.length_take]; rfl)) ?_
      with_reducible refine (laws_toParcel.calls kj16 a1_0 a1_1 _ _ l1_2 a1_3 t415 t416 t417 t420 _ ?side1 ?side2 A48.out).mono ?_
      (case side1 => repeat (first | exact (Kd.C_below HR1_2.out HB.out) | (with_reducible refine Kd.CA ?_ _) | (with_reducible refine Kd.CN ?_ _) | (with_reducible refine Kd.CD ?_)))
      (case side2 => exact HC1_2.out)
      rintro e w58 ⟨v418, rfl, ho0, hb⟩
      refine ⟨_, rfl, ?_⟩
      have n0_ := zK (Kd.R_below (by (with_reducible repeat (first | apply Kd.RA | apply Kd.RN | apply Kd.RD)); exact HO_6.out) hb)
      have n1_ := zK (Kd.R_below (by (with_reducible repeat (first | apply Kd.RA | apply Kd.RN | apply Kd.RD)); exact HO_8.out) hb)
      have n2_ := zK (Kd.R_below (by (with_reducible repeat (first | apply Kd.RA | apply Kd.RN | apply Kd.RD)); exact HO_10.out) hb)
      have n3_ := zK (Kd.R_elder' (by (with_reducible repeat (first | apply Kd.RA | apply Kd.RN | apply Kd.RD)); exact HO_406002.out) (Kd.R_base ho0) hb)
      have n4_ := zK (Kd.R_below (by (with_reducible repeat (first | apply Kd.RA | apply Kd.RN | apply Kd.RD)); exact HO413.out) hb)
      have n5_ := zK (Kd.R_lower (Kd.R_new' ho0 (Kd.R_lt (by (with_reducible repeat (first | apply Kd.RA | apply Kd.RN | apply Kd.RD)); exact HO_406002.out))) (bZ (by repeat (first | (with_reducible first | exact HB.out | apply bA | apply bN | apply b1 | refine bS ?_ GE380.out | refine bS ?_ GE405.out) | exact HB.out))))
      have n6_ := zK (bB (g := gb380) (o := .cells #[.int .i64 a1_0, .int .i64 a1_1, .slice A1_2 l1_2.length c1_2, .int .i64 a1_3] 74 (0, 0)) (by (with_reducible repeat (first | refine kN ?_ _ | refine kD ?_ | refine kA ?_ _)); exact BK380.out) hb)
      have n7_ := zK (bB (g := gb405) (o := .cells #[.int .i64 t399, .int .i64 t400, .slice Ao33 t401.length co33, .int .i64 t404] 53 (0, 0)) (by (with_reducible repeat (first | refine kN ?_ _ | refine kD ?_ | refine kA ?_ _)); exact BK405.out) hb)
      have n8_ := zK (bT (by repeat (first | (with_reducible first | exact HB.out | apply bA | apply bN | apply b1 | refine bS ?_ GE380.out | refine bS ?_ GE405.out) | exact HB.out)) hb)
      clear HO_6
      clear HO_8
      clear HO_10
      clear HO_406002
      clear HO413
      clear BK380
      clear BK405
      clear HB
      have HO_6 := n0_
      have HO_8 := n1_
      have HO_10 := n2_
      have HO_406002 := n3_
      have HO413 := n4_
      have HO419 := n5_
      have BK380 := n6_
      have BK405 := n7_
      have HB := n8_
      clear n0_ n1_ n2_ n3_ n4_ n5_ n6_ n7_ n8_
      (try clear hb)
      (try clear hb2)
      (try clear hk)
      (try clear hi)
      (try clear ho0)
      obtain ⟨Ao59, co59, eo59⟩ := Kd.R_slice HO419.out
      (first | subst eo59 | (injection eo59 with f1_ f2_ f3_; have f4_ := f1_.symm; have f5_ := f3_.symm; clear f1_ f2_ f3_; subst f4_; subst f5_))
      refine hK.out _ _ ⟨(bc BK405.out 0).trans rfl, (bc BK405.out 1).trans rfl, (bc BK405.out 2).trans rfl, (bc BK405.out 3).trans rfl, (bc BK380.out 0).trans rfl, (bc BK380.out 1).trans rfl, (bc BK380.out 2).trans rfl, (bc BK380.out 3).trans rfl⟩ (fun hHeld => ?_)
      clear hK K
      refine norm_ (a' := ?_) ?_ ?_
      rotate_left
      · show Act.put _ (some 61) _ = _
        simp only [Act.put, sA, sZ, sS, i64_w, i32_w]
        rfl
      refine one_ (i := 3) (N := some 62) #[true, true, true, true, false] rfl rfl (by kernel_rfl) (by decide) (fun K hK => ?_)
      refine goes_ Try.func53 (by kernel_rfl) rfl #[.agg #[.int .i64 t399, .int .i64 t400, .slice Ao33 t401.length co33, .int .i64 t404], .agg #[.int .i64 t415, .int .i64 t416, .slice Ao59 t417.length co59, .int .i64 t420]] (by rfl) rfl rfl (by (try simp only [List.map_toArray, List.map_cons, List.map_nil]); first | done | rfl | (simp only [List.length_drop, List.length_take]; rfl)) ?_
      with_reducible refine (laws_eqParcel.calls kj16 t399 t400 _ _ t401 t404 t415 t416 _ _ t417 t420 true _ ?side1 ?side2 ?side3 ?side4 A49.out).mono ?_
      (case side1 => repeat (first | exact (Kd.R_reads' HO_406002.out).2.2 | (with_reducible refine Kd.CA ?_ _) | (with_reducible refine Kd.CN ?_ _) | (with_reducible refine Kd.CD ?_)))
      (case side2 => exact (Kd.R_reads' HO_406002.out).2.1)
      (case side3 => repeat (first | exact (Kd.R_reads' HO419.out).2.2 | (with_reducible refine Kd.CA ?_ _) | (with_reducible refine Kd.CN ?_ _) | (with_reducible refine Kd.CD ?_)))
      (case side4 => exact (Kd.R_reads' HO419.out).2.1)
      rintro e w60 ⟨rfl, hb⟩
      refine ⟨_, rfl, ?_⟩
      have n0_ := zK (Kd.R_below (by (with_reducible repeat (first | apply Kd.RA | apply Kd.RN | apply Kd.RD)); exact HO_6.out) hb)
      have n1_ := zK (Kd.R_below (by (with_reducible repeat (first | apply Kd.RA | apply Kd.RN | apply Kd.RD)); exact HO_8.out) hb)
      have n2_ := zK (Kd.R_below (by (with_reducible repeat (first | apply Kd.RA | apply Kd.RN | apply Kd.RD)); exact HO_10.out) hb)
      have n3_ := zK (Kd.R_below (by (with_reducible repeat (first | apply Kd.RA | apply Kd.RN | apply Kd.RD)); exact HO_406002.out) hb)
      have n4_ := zK (Kd.R_below (by (with_reducible repeat (first | apply Kd.RA | apply Kd.RN | apply Kd.RD)); exact HO413.out) hb)
      have n5_ := zK (Kd.R_below (by (with_reducible repeat (first | apply Kd.RA | apply Kd.RN | apply Kd.RD)); exact HO419.out) hb)
      have n6_ := zK (bB (g := gb380) (o := .cells #[.int .i64 a1_0, .int .i64 a1_1, .slice A1_2 l1_2.length c1_2, .int .i64 a1_3] 74 (0, 0)) (by (with_reducible repeat (first | refine kN ?_ _ | refine kD ?_ | refine kA ?_ _)); exact BK380.out) hb)
      have n7_ := zK (bB (g := gb405) (o := .cells #[.int .i64 t399, .int .i64 t400, .slice Ao33 t401.length co33, .int .i64 t404] 53 (0, 0)) (by (with_reducible repeat (first | refine kN ?_ _ | refine kD ?_ | refine kA ?_ _)); exact BK405.out) hb)
      have n8_ := zK (bT (by repeat (first | (with_reducible first | exact HB.out | apply bA | apply bN | apply b1 | refine bS ?_ GE380.out | refine bS ?_ GE405.out) | exact HB.out)) hb)
      clear HO_6
      clear HO_8
      clear HO_10
      clear HO_406002
      clear HO413
      clear HO419
      clear BK380
      clear BK405
      clear HB
      have HO_6 := n0_
      have HO_8 := n1_
      have HO_10 := n2_
      have HO_406002 := n3_
      have HO413 := n4_
      have HO419 := n5_
      have BK380 := n6_
      have BK405 := n7_
      have HB := n8_
      clear n0_ n1_ n2_ n3_ n4_ n5_ n6_ n7_ n8_
      (try clear hb)
      (try clear hb2)
      (try clear hk)
      (try clear hi)
      refine hK.out _ _ ⟨(bc BK405.out 0).trans rfl, (bc BK405.out 1).trans rfl, (bc BK405.out 2).trans rfl, (bc BK405.out 3).trans rfl, (bc BK380.out 0).trans rfl, (bc BK380.out 1).trans rfl, (bc BK380.out 2).trans rfl, (bc BK380.out 3).trans rfl⟩ (fun hHeld => ?_)
      clear hK K
      refine norm_ (a' := ?_) ?_ ?_
      rotate_left
      · show Act.put _ (some 62) _ = _
        simp only [Act.put, sA, sZ, sS, i64_w, i32_w]
        rfl
      refine pure_ (i := 4) (N := some 63) (v := ?_) (a' := ?_) #[true, true, true, true, true] rfl rfl (by kernel_rfl) (fun _ _ _ h => h) (Or.inl ⟨by rfl, ?_⟩) ?_ ?_
      rotate_left
      · intro w'
        go_simp
        with_reducible rfl
      rotate_left
      · simp only [Act.put, sA, sZ, sS, i64_w, i32_w]
        rfl
      refine done_ (by kernel_rfl) ?_
      go_upto_region 21 with (first | ((with_reducible refine gate_callee (f := 54) rfl ?_); refine goesL_ (some 66) rfl rfl Try.func54 (by kernel_rfl) rfl #[.slice Ao34 t396.length co34, .int .i64 1] rfl (by (try simp only [List.map_toArray, List.map_cons, List.map_nil]); first | done | rfl | (simp only [List.length_drop, List.length_take]; rfl)) ?_; (with_reducible refine (laws_markHandS.calls kj16 (fun k_ => some k_ = (.slice Ao34 t396.length co34 : Value).ownBlock) (.slice Ao34 t396.length co34) t396 1 t422 t423 w _ ?side1 ?side2 A51.out).mono ?_); (case side1 => repeat (first | (with_reducible first | exact HB.out | apply bA | apply bN | apply b1 | refine bS ?_ GE380.out | refine bS ?_ GE405.out) | exact HB.out)); (case side2 => exact Kd.R_tight rfl HO_8.out); rintro e w61 ⟨rfl, hy0, hb, hkp⟩; refine ⟨_, rfl, ?_⟩; have n0_ := zK (Kd.R_mono (ok' := fun k_ => some k_ ≠ (.slice Ao34 t396.length co34 : Value).ownBlock ∧ some k_ ≠ (v407 : Value).ownBlock ∧ some k_ ≠ (.slice Ao55 t411.length co55 : Value).ownBlock) (Kd.R_keptB (HO_6.out) hkp (fun k_ hk_ hs_ => (hk_.1.1) hs_)) (fun k_ hk_ => ⟨hk_.1.1.1, hk_.1.1.2, hk_.1.2⟩)); have n1_ := zK (Kd.R_reok rfl hy0 (fun k_ e_ => HO_8.out.1 k_ e_)); have n2_ := zK (Kd.R_mono (ok' := fun k_ => some k_ ≠ (v393 : Value).ownBlock ∧ some k_ ≠ (.slice Ao34 t396.length co34 : Value).ownBlock ∧ some k_ ≠ (.slice Ao55 t411.length co55 : Value).ownBlock) (Kd.R_keptB (HO_10.out) hkp (fun k_ hk_ hs_ => (hk_.1.2) hs_)) (fun k_ hk_ => ⟨hk_.1.1.1, hk_.1.1.2, hk_.1.2⟩)); have n3_ := zK (Kd.R_mono (ok' := fun k_ => some k_ ≠ (.slice Ao59 t417.length co59 : Value).ownBlock) (Kd.R_keptB ((Kd.R_apart' HO_406002.out (Kd.R_typed HO_8.out) (by decide))) hkp (fun k_ hk_ hs_ => (hk_.2) hs_)) (fun k_ hk_ => hk_.1.1.2)); have n4_ := zK (blk_kept (by (with_reducible repeat (first | refine kN ?_ _ | refine kD ?_ | refine kA ?_ _)); exact BK380.out) hkp (fun hs_ => (fun e_ => (Kd.R_ne HO_8.out BK380.out (by decide)) e_) hs_)); have n5_ := zK (blk_kept (by (with_reducible repeat (first | refine kN ?_ _ | refine kD ?_ | refine kA ?_ _)); exact BK405.out) hkp (fun hs_ => (fun e_ => (Kd.R_ne HO_8.out BK405.out (by decide)) e_) hs_)); have n6_ := zK (Kd.R_mono (ok' := fun k_ => some k_ ≠ (v393 : Value).ownBlock ∧ some k_ ≠ (.slice Ao34 t396.length co34 : Value).ownBlock ∧ some k_ ≠ (v407 : Value).ownBlock) (Kd.R_keptB (HO413.out) hkp (fun k_ hk_ hs_ => (hk_.1.2) hs_)) (fun k_ hk_ => ⟨hk_.1.1.1.2, hk_.1.1.2, hk_.1.2⟩)); have n7_ := zK (Kd.R_mono (ok' := fun k_ => some k_ ≠ (.slice Ao33 t401.length co33 : Value).ownBlock) (Kd.R_keptB ((Kd.R_apart' HO419.out (Kd.R_typed HO_8.out) (by decide))) hkp (fun k_ hk_ hs_ => (hk_.2) hs_)) (fun k_ hk_ => hk_.1.1.2)); have n8_ := zK (hb); clear HO_6; clear HO_8; clear HO_10; clear HO_406002; clear BK380; clear BK405; clear HO413; clear HO419; clear HB; have HO_6 := n0_; have HO_8 := n1_; have HO_10 := n2_; have HO_406002 := n3_; have BK380 := n4_; have BK405 := n5_; have HO413 := n6_; have HO419 := n7_; have HB := n8_; clear n0_ n1_ n2_ n3_ n4_ n5_ n6_ n7_ n8_; (try clear hb); (try clear hkp); (try clear hy0); have hnb62 := NB405_380.out; have hnc62 := NB380_405.out; have hcz63_0 : w61.cell? ⟨gb405, 0, none⟩ = some (.int .i64 t399) := (bc BK405.out 0).trans rfl; have hcz63_1 : w61.cell? ⟨gb405, 1, none⟩ = some (.int .i64 t400) := (bc BK405.out 1).trans rfl; have hcz63_2 : w61.cell? ⟨gb405, 2, none⟩ = some (.slice Ao33 t401.length co33) := (bc BK405.out 2).trans rfl; have hcz63_3 : w61.cell? ⟨gb405, 3, none⟩ = some (.int .i64 t404) := (bc BK405.out 3).trans rfl; have hfz63_0 := bf BK405.out 0; have hfz63_1 := bf BK405.out 1; have hfz63_2 := bf BK405.out 2; have hfz63_3 := bf BK405.out 3) | ((with_reducible refine gate_callee (f := 55) rfl ?_); refine goesL_ (some 69) rfl rfl Try.func55 (by kernel_rfl) rfl #[.agg #[.int .i64 t399, .int .i64 t400, .slice Ao33 t401.length co33, .int .i64 t404], .int .i64 t422] rfl (by (try simp only [List.map_toArray, List.map_cons, List.map_nil]); first | done | rfl | (simp only [List.length_drop, List.length_take]; rfl)) ?_; (with_reducible refine (laws_markParcel.calls kj16 t399 t400 (fun k_ => some k_ = (.slice Ao33 t401.length co33 : Value).ownBlock) (.slice Ao33 t401.length co33) t401 t404 t422 t424 t425 w _ ?side1 ?side2 A52.out).mono ?_); (case side1 => repeat (first | (with_reducible first | exact HB.out | apply bA | apply bN | apply b1 | refine bS ?_ GE380.out | refine bS ?_ GE405.out) | exact HB.out)); (case side2 => exact Kd.R_tight rfl HO_406002.out); rintro e w64 ⟨rfl, hy0, hb, hkp⟩; refine ⟨_, rfl, ?_⟩; have n0_ := zK (Kd.R_mono (ok' := fun k_ => some k_ ≠ (.slice Ao34 t396.length co34 : Value).ownBlock ∧ some k_ ≠ (v407 : Value).ownBlock ∧ some k_ ≠ (.slice Ao55 t411.length co55 : Value).ownBlock) (Kd.R_keptB ((Kd.R_apart' HO_6.out (Kd.R_typed HO_406002.out) (by decide))) hkp (fun k_ hk_ hs_ => (hk_.2) hs_)) (fun k_ hk_ => ⟨hk_.1.1.1, hk_.1.1.2.1, hk_.1.1.2.2⟩)); have n1_ := zK (Kd.R_mono (ok' := fun k_ => some k_ ≠ (v393 : Value).ownBlock ∧ some k_ ≠ (v407 : Value).ownBlock ∧ some k_ ≠ (.slice Ao55 t411.length co55 : Value).ownBlock) (Kd.R_keptB ((Kd.R_apart' HO_8.out (Kd.R_typed HO_406002.out) (by decide))) hkp (fun k_ hk_ hs_ => (hk_.2) hs_)) (fun k_ hk_ => ⟨hk_.1.1.1.1, hk_.1.1.1.2, hk_.1.1.2⟩)); have n2_ := zK (Kd.R_mono (ok' := fun k_ => some k_ ≠ (v393 : Value).ownBlock ∧ some k_ ≠ (.slice Ao34 t396.length co34 : Value).ownBlock ∧ some k_ ≠ (.slice Ao55 t411.length co55 : Value).ownBlock) (Kd.R_keptB ((Kd.R_apart' HO_10.out (Kd.R_typed HO_406002.out) (by decide))) hkp (fun k_ hk_ hs_ => (hk_.2) hs_)) (fun k_ hk_ => ⟨hk_.1.1.1, hk_.1.1.2.1, hk_.1.1.2.2⟩)); have n3_ := zK (Kd.R_reok rfl hy0 (fun k_ e_ => HO_406002.out.1 k_ e_)); have n4_ := zK (blk_kept (by (with_reducible repeat (first | refine kN ?_ _ | refine kD ?_ | refine kA ?_ _)); exact BK380.out) hkp (fun hs_ => (fun e_ => (Kd.R_ne HO_406002.out BK380.out (by decide)) e_) hs_)); have n5_ := zK (blk_kept (by (with_reducible repeat (first | refine kN ?_ _ | refine kD ?_ | refine kA ?_ _)); exact BK405.out) hkp (fun hs_ => (fun e_ => (Kd.R_ne HO_406002.out BK405.out (by decide)) e_) hs_)); have n6_ := zK (Kd.R_mono (ok' := fun k_ => some k_ ≠ (v393 : Value).ownBlock ∧ some k_ ≠ (.slice Ao34 t396.length co34 : Value).ownBlock ∧ some k_ ≠ (v407 : Value).ownBlock) (Kd.R_keptB ((Kd.R_apart' HO413.out (Kd.R_typed HO_406002.out) (by decide))) hkp (fun k_ hk_ hs_ => (hk_.2) hs_)) (fun k_ hk_ => ⟨hk_.1.1.1, hk_.1.1.2.1, hk_.1.1.2.2⟩)); have n7_ := zK (Kd.R_mono (ok' := fun k_ => some k_ ≠ (.slice Ao33 t401.length co33 : Value).ownBlock) (Kd.R_keptB (HO419.out) hkp (fun k_ hk_ hs_ => (hk_) hs_)) (fun k_ hk_ => hk_.1)); have n8_ := zK (hb); clear HO_6; clear HO_8; clear HO_10; clear HO_406002; clear BK380; clear BK405; clear HO413; clear HO419; clear HB; have HO_6 := n0_; have HO_8 := n1_; have HO_10 := n2_; have HO_406002 := n3_; have BK380 := n4_; have BK405 := n5_; have HO413 := n6_; have HO419 := n7_; have HB := n8_; clear n0_ n1_ n2_ n3_ n4_ n5_ n6_ n7_ n8_; (try clear hb); (try clear hkp); (try clear hy0)))
      (try simp only [Act.put, sA, sZ, sS])
      go_cut [82] (fun v82 wc => ∃ (kq : Nat) (x82_52 : Bool), v82 = .bool x82_52 ∧ Aside0 (laws_FnExactSendParcel.j1 kq l0 t392 t395 t406 x82_52 a1_0 a1_1 l1_2 a1_3 = some r) ∧ Aside0 (kq ≤ kj16) ∧ Aside0 (Kd.R k138 138 wc w.heap.size (fun k_ => some k_ ≠ (v407 : Value).ownBlock) v393 t392) ∧ Aside0 (Kd.R k138 138 wc w.heap.size (fun k_ => some k_ ≠ (v393 : Value).ownBlock) v407 t406) ∧ Aside0 (Kd.R (Kd.int .i64) 3 wc w.heap.size (fun _ => True) (.slice Ao33 t401.length co33) t425) ∧ Aside0 (wc.heap[gb380]? = some (.cells #[.int .i64 a1_0, .int .i64 a1_1, (.slice A1_2 l1_2.length c1_2), .int .i64 a1_3] 74 (0, 0))) ∧ Aside0 (wc.heap[gb405]? = some (.cells #[.int .i64 t399, .int .i64 t400, (.slice Ao33 t401.length co33), .int .i64 t404] 53 (0, 0))) ∧ Aside0 (Below w.heap.size w wc))
      case first =>
        have H := HC53.out
        clear HC53
        by_cases c65 : t424 < 0
        · rw [if_pos c65] at H
          have c65b0 : decide (t424 < 0) = true := decide_eq_true c65
          clear c65
          (first | rw [c65b0] | rw [c65b1] | (simp only [i64_w, i32_w]; rw [c65b0]) | skip)
          have H' := zK H
          clear H
          go_wp2
          go_meet
          case rel => exact ⟨_, (true), (by first | rfl | (simp; done) | (simp [*]; done)), H', ⟨by have := HJ16.out; first | omega | exact Nat.le_refl _⟩, ⟨by (with_reducible repeat (first | apply Kd.RA | apply Kd.RN | apply Kd.RD)); exact Kd.R_mono HO_6.out (fun _ hk => hk.2.1)⟩, ⟨by (with_reducible repeat (first | apply Kd.RA | apply Kd.RN | apply Kd.RD)); exact Kd.R_mono HO_10.out (fun _ hk => hk.1)⟩, ⟨by (with_reducible repeat (first | apply Kd.RA | apply Kd.RN | apply Kd.RD)); exact Kd.R_mono HO_406002.out (fun _ hk => trivial)⟩, ⟨by (with_reducible repeat (first | refine kN ?_ _ | refine kD ?_ | refine kA ?_ _)); exact BK380.out⟩, ⟨by (with_reducible repeat (first | refine kN ?_ _ | refine kD ?_ | refine kA ?_ _)); exact BK405.out⟩, ⟨by repeat (first | (with_reducible first | exact HB.out | apply bA | apply bN | apply b1 | refine bS ?_ GE380.out | refine bS ?_ GE405.out) | exact HB.out)⟩⟩
        rw [if_neg c65] at H
        have c65b0 : decide (t424 < 0) = false := decide_eq_false c65
        clear c65
        (first | rw [c65b0] | rw [c65b1] | (simp only [i64_w, i32_w]; rw [c65b0]) | skip)
        replace H := Option.bind_eq_some_iff.mp H
        obtain ⟨t426, A660, H⟩ := H
        replace H : (if t426 = true then (laws_FnExactSendParcel.j1 kj16 l0 t392 t395 t406 (t409 != t395) a1_0 a1_1 l1_2 a1_3) else (laws_FnExactSendParcel.j1 kj16 l0 t392 t395 t406 true a1_0 a1_1 l1_2 a1_3)) = some r := H
        have A66 := zK A660
        clear A660
        by_cases c67 : t426 = true
        · subst c67
          have H1 : (laws_FnExactSendParcel.j1 kj16 l0 t392 t395 t406 (t409 != t395) a1_0 a1_1 l1_2 a1_3) = some r := by rw [if_pos rfl] at H; exact H
          clear H
          have H := H1
          clear H1
          have H' := zK H
          clear H
          obtain ⟨Ao68, co68, eo68⟩ := Kd.R_slice HO_10.out
          subst eo68
          obtain ⟨Ao69, co69, eo69⟩ := Kd.R_slice HO_6.out
          subst eo69
          go_wp2_with (first | (go_at_call 52; (with_reducible refine (laws_eqHandS.calls kj16 _ _ t406 _ _ t392 true _ ?side1 ?side2 ?side3 ?side4 A66.out).mono ?_); (case side1 => repeat (first | exact (Kd.R_reads' HO_10.out).2.2 | (with_reducible refine Kd.CA ?_ _) | (with_reducible refine Kd.CN ?_ _) | (with_reducible refine Kd.CD ?_))); (case side2 => exact (Kd.R_reads' HO_10.out).2.1); (case side3 => repeat (first | exact (Kd.R_reads' HO_6.out).2.2 | (with_reducible refine Kd.CA ?_ _) | (with_reducible refine Kd.CN ?_ _) | (with_reducible refine Kd.CD ?_))); (case side4 => exact (Kd.R_reads' HO_6.out).2.1); rintro e w70 ⟨rfl, hb⟩; have n0_ := zK (Kd.R_below (by (with_reducible repeat (first | apply Kd.RA | apply Kd.RN | apply Kd.RD)); exact HO_6.out) hb); have n1_ := zK (Kd.R_below (by (with_reducible repeat (first | apply Kd.RA | apply Kd.RN | apply Kd.RD)); exact HO_8.out) hb); have n2_ := zK (Kd.R_below (by (with_reducible repeat (first | apply Kd.RA | apply Kd.RN | apply Kd.RD)); exact HO_10.out) hb); have n3_ := zK (Kd.R_below (by (with_reducible repeat (first | apply Kd.RA | apply Kd.RN | apply Kd.RD)); exact HO_406002.out) hb); have n4_ := zK (Kd.R_below (by (with_reducible repeat (first | apply Kd.RA | apply Kd.RN | apply Kd.RD)); exact HO413.out) hb); have n5_ := zK (Kd.R_below (by (with_reducible repeat (first | apply Kd.RA | apply Kd.RN | apply Kd.RD)); exact HO419.out) hb); have n6_ := zK (bB (g := gb380) (o := .cells #[.int .i64 a1_0, .int .i64 a1_1, .slice A1_2 l1_2.length c1_2, .int .i64 a1_3] 74 (0, 0)) (by (with_reducible repeat (first | refine kN ?_ _ | refine kD ?_ | refine kA ?_ _)); exact BK380.out) hb); have n7_ := zK (bB (g := gb405) (o := .cells #[.int .i64 t399, .int .i64 t400, .slice Ao33 t401.length co33, .int .i64 t404] 53 (0, 0)) (by (with_reducible repeat (first | refine kN ?_ _ | refine kD ?_ | refine kA ?_ _)); exact BK405.out) hb); have n8_ := zK (bT (by repeat (first | (with_reducible first | exact HB.out | apply bA | apply bN | apply b1 | refine bS ?_ GE380.out | refine bS ?_ GE405.out) | exact HB.out)) hb); clear HO_6; clear HO_8; clear HO_10; clear HO_406002; clear HO413; clear HO419; clear BK380; clear BK405; clear HB; have HO_6 := n0_; have HO_8 := n1_; have HO_10 := n2_; have HO_406002 := n3_; have HO413 := n4_; have HO419 := n5_; have BK380 := n6_; have BK405 := n7_; have HB := n8_; clear n0_ n1_ n2_ n3_ n4_ n5_ n6_ n7_ n8_; (try clear hb); (try clear hb2); (try clear hk); (try clear hi)))
          go_meet
          case rel => exact ⟨_, ((t409 != t395)), (by first | rfl | (simp; done) | (simp [*]; done)), H', ⟨by have := HJ16.out; first | omega | exact Nat.le_refl _⟩, ⟨by (with_reducible repeat (first | apply Kd.RA | apply Kd.RN | apply Kd.RD)); exact Kd.R_mono HO_6.out (fun _ hk => hk.2.1)⟩, ⟨by (with_reducible repeat (first | apply Kd.RA | apply Kd.RN | apply Kd.RD)); exact Kd.R_mono HO_10.out (fun _ hk => hk.1)⟩, ⟨by (with_reducible repeat (first | apply Kd.RA | apply Kd.RN | apply Kd.RD)); exact Kd.R_mono HO_406002.out (fun _ hk => trivial)⟩, ⟨by (with_reducible repeat (first | refine kN ?_ _ | refine kD ?_ | refine kA ?_ _)); exact BK380.out⟩, ⟨by (with_reducible repeat (first | refine kN ?_ _ | refine kD ?_ | refine kA ?_ _)); exact BK405.out⟩, ⟨by repeat (first | (with_reducible first | exact HB.out | apply bA | apply bN | apply b1 | refine bS ?_ GE380.out | refine bS ?_ GE405.out) | exact HB.out)⟩⟩
        replace c67 := Bool.eq_false_iff.mpr c67
        subst c67
        have H1 : (laws_FnExactSendParcel.j1 kj16 l0 t392 t395 t406 true a1_0 a1_1 l1_2 a1_3) = some r := by rw [if_neg (show ¬ (false = true) by decide)] at H; exact H
        clear H
        have H := H1
        clear H1
        have H' := zK H
        clear H
        obtain ⟨Ao71, co71, eo71⟩ := Kd.R_slice HO_10.out
        subst eo71
        obtain ⟨Ao72, co72, eo72⟩ := Kd.R_slice HO_6.out
        subst eo72
        go_wp2_with (first | (go_at_call 52; (with_reducible refine (laws_eqHandS.calls kj16 _ _ t406 _ _ t392 false _ ?side1 ?side2 ?side3 ?side4 A66.out).mono ?_); (case side1 => repeat (first | exact (Kd.R_reads' HO_10.out).2.2 | (with_reducible refine Kd.CA ?_ _) | (with_reducible refine Kd.CN ?_ _) | (with_reducible refine Kd.CD ?_))); (case side2 => exact (Kd.R_reads' HO_10.out).2.1); (case side3 => repeat (first | exact (Kd.R_reads' HO_6.out).2.2 | (with_reducible refine Kd.CA ?_ _) | (with_reducible refine Kd.CN ?_ _) | (with_reducible refine Kd.CD ?_))); (case side4 => exact (Kd.R_reads' HO_6.out).2.1); rintro e w73 ⟨rfl, hb⟩; have n0_ := zK (Kd.R_below (by (with_reducible repeat (first | apply Kd.RA | apply Kd.RN | apply Kd.RD)); exact HO_6.out) hb); have n1_ := zK (Kd.R_below (by (with_reducible repeat (first | apply Kd.RA | apply Kd.RN | apply Kd.RD)); exact HO_8.out) hb); have n2_ := zK (Kd.R_below (by (with_reducible repeat (first | apply Kd.RA | apply Kd.RN | apply Kd.RD)); exact HO_10.out) hb); have n3_ := zK (Kd.R_below (by (with_reducible repeat (first | apply Kd.RA | apply Kd.RN | apply Kd.RD)); exact HO_406002.out) hb); have n4_ := zK (Kd.R_below (by (with_reducible repeat (first | apply Kd.RA | apply Kd.RN | apply Kd.RD)); exact HO413.out) hb); have n5_ := zK (Kd.R_below (by (with_reducible repeat (first | apply Kd.RA | apply Kd.RN | apply Kd.RD)); exact HO419.out) hb); have n6_ := zK (bB (g := gb380) (o := .cells #[.int .i64 a1_0, .int .i64 a1_1, .slice A1_2 l1_2.length c1_2, .int .i64 a1_3] 74 (0, 0)) (by (with_reducible repeat (first | refine kN ?_ _ | refine kD ?_ | refine kA ?_ _)); exact BK380.out) hb); have n7_ := zK (bB (g := gb405) (o := .cells #[.int .i64 t399, .int .i64 t400, .slice Ao33 t401.length co33, .int .i64 t404] 53 (0, 0)) (by (with_reducible repeat (first | refine kN ?_ _ | refine kD ?_ | refine kA ?_ _)); exact BK405.out) hb); have n8_ := zK (bT (by repeat (first | (with_reducible first | exact HB.out | apply bA | apply bN | apply b1 | refine bS ?_ GE380.out | refine bS ?_ GE405.out) | exact HB.out)) hb); clear HO_6; clear HO_8; clear HO_10; clear HO_406002; clear HO413; clear HO419; clear BK380; clear BK405; clear HB; have HO_6 := n0_; have HO_8 := n1_; have HO_10 := n2_; have HO_406002 := n3_; have HO413 := n4_; have HO419 := n5_; have BK380 := n6_; have BK405 := n7_; have HB := n8_; clear n0_ n1_ n2_ n3_ n4_ n5_ n6_ n7_ n8_; (try clear hb); (try clear hb2); (try clear hk); (try clear hi)))
        go_meet
        case rel => exact ⟨_, (true), (by first | rfl | (simp; done) | (simp [*]; done)), H', ⟨by have := HJ16.out; first | omega | exact Nat.le_refl _⟩, ⟨by (with_reducible repeat (first | apply Kd.RA | apply Kd.RN | apply Kd.RD)); exact Kd.R_mono HO_6.out (fun _ hk => hk.2.1)⟩, ⟨by (with_reducible repeat (first | apply Kd.RA | apply Kd.RN | apply Kd.RD)); exact Kd.R_mono HO_10.out (fun _ hk => hk.1)⟩, ⟨by (with_reducible repeat (first | apply Kd.RA | apply Kd.RN | apply Kd.RD)); exact Kd.R_mono HO_406002.out (fun _ hk => trivial)⟩, ⟨by (with_reducible repeat (first | refine kN ?_ _ | refine kD ?_ | refine kA ?_ _)); exact BK380.out⟩, ⟨by (with_reducible repeat (first | refine kN ?_ _ | refine kD ?_ | refine kA ?_ _)); exact BK405.out⟩, ⟨by repeat (first | (with_reducible first | exact HB.out | apply bA | apply bN | apply b1 | refine bS ?_ GE380.out | refine bS ?_ GE405.out) | exact HB.out)⟩⟩
      case rest =>
        clear HC53
        try clear c1
        try clear p2
        try clear c3
        try clear c4
        try clear c4b0
        try clear c5
        try clear c6
        try clear c7
        try clear c7b0
        try clear c8
        try clear c31
        try clear c32
        try clear c37
        try clear c44
        try clear c47
        try clear c48
        try clear c49
        try clear c50
        try clear c51
        try clear c52
        try clear c53
        try clear c54
        try clear c55
        try clear c62
        try clear c65
        try clear c65b0
        try clear c67
        try clear hcz19_0
        try clear hcz19_1
        try clear hcz19_2
        try clear hcz19_3
        try clear hcz28_0
        try clear hcz28_1
        try clear hcz28_2
        try clear hcz28_3
        try clear hcz32_0
        try clear hcz32_1
        try clear hcz32_2
        try clear hcz32_3
        try clear hcz63_0
        try clear hcz63_1
        try clear hcz63_2
        try clear hcz63_3
        try clear hcz9_0
        try clear hcz9_1
        try clear hcz9_2
        try clear hcz9_3
        try clear hfz19_0
        try clear hfz19_1
        try clear hfz19_2
        try clear hfz19_3
        try clear hfz28_0
        try clear hfz28_1
        try clear hfz28_2
        try clear hfz28_3
        try clear hfz32_0
        try clear hfz32_1
        try clear hfz32_2
        try clear hfz32_3
        try clear hfz63_0
        try clear hfz63_1
        try clear hfz63_2
        try clear hfz63_3
        try clear hfz9_0
        try clear hfz9_1
        try clear hfz9_2
        try clear hfz9_3
        try clear p2
        obtain ⟨kq, x82_52, rfl, HA, HJ52, HO_6, HO_10, HO_406002, BK380, BK405, HB⟩ := hcut
        have hl406002_52 := (Kd.R_reads' HO_406002.out).1
        rw [hl406002_52] at HO_406002
        (try simp only [hl406002_52])
        (try simp only [hl406002_52] at BK380)
        (try simp only [hl406002_52] at BK405)
        (try simp only [hl406002_52] at HO_6)
        (try simp only [hl406002_52] at HO_10)
        cases kq with
        | zero => exact absurd HA.out (by simp [laws_FnExactSendParcel.j1])
        | succ kj52 =>
          have H := HA.out
          clear HA
          simp only [laws_FnExactSendParcel.j1] at H
          by_cases c74 : x82_52 = true
          · subst c74
            have H1 : (some false) = some r := by rw [if_pos rfl] at H; exact H
            clear H
            have H := H1
            clear H1
            obtain rfl := Option.some.inj H
            go_wp2
            go_ret
            exact ⟨by first | rfl | (simp [errW_none, errW_some] <;> rfl) | (simp [*, errW_none, errW_some] <;> rfl), by repeat (first | (with_reducible first | exact HB.out | apply bA | apply bN | apply b1 | refine bS ?_ GE380.out | refine bS ?_ GE405.out) | exact HB.out)⟩
          replace c74 := Bool.eq_false_iff.mpr c74
          subst c74
          have H1 : ((laws_markHandS.f kj52 t406 1).bind fun bt427 => ((laws_heldHandS.f kj52 bt427.2 1).bind fun t429 => (if t429 < 0 then (some false) else (if t429 = bt427.1 then ((laws_toHandS.f kj52 l0).bind fun t430 => ((laws_toParcel.f kj52 a1_0 a1_1 l1_2 a1_3).bind fun bt433 => ((impl_SendParcel.f kj52 t430 bt433.1 bt433.2.1 bt433.2.2.1 bt433.2.2.2).bind fun bt439 => ((laws_eqHandS.f kj52 bt439.1 t392).bind fun t443 => (if t443 = true then (laws_FnExactSendParcel.j2 kj52 bt427.2 bt427.1 (bt439.2 != t395)) else (laws_FnExactSendParcel.j2 kj52 bt427.2 bt427.1 true)))))) else (some false))))) = some r := by rw [if_neg (show ¬ (false = true) by decide)] at H; exact H
          clear H
          have H := H1
          clear H1
          replace H := Option.bind_eq_some_iff.mp H
          obtain ⟨⟨t427, t428⟩, A750, H⟩ := H
          replace H : ((laws_heldHandS.f kj52 t428 1).bind fun t429 => (if t429 < 0 then (some false) else (if t429 = t427 then ((laws_toHandS.f kj52 l0).bind fun t430 => ((laws_toParcel.f kj52 a1_0 a1_1 l1_2 a1_3).bind fun bt433 => ((impl_SendParcel.f kj52 t430 bt433.1 bt433.2.1 bt433.2.2.1 bt433.2.2.2).bind fun bt439 => ((laws_eqHandS.f kj52 bt439.1 t392).bind fun t443 => (if t443 = true then (laws_FnExactSendParcel.j2 kj52 t428 t427 (bt439.2 != t395)) else (laws_FnExactSendParcel.j2 kj52 t428 t427 true)))))) else (some false)))) = some r := H
          have A75 := zK A750
          clear A750
          replace H := Option.bind_eq_some_iff.mp H
          obtain ⟨t429, A760, H⟩ := H
          replace H : (if t429 < 0 then (some false) else (if t429 = t427 then ((laws_toHandS.f kj52 l0).bind fun t430 => ((laws_toParcel.f kj52 a1_0 a1_1 l1_2 a1_3).bind fun bt433 => ((impl_SendParcel.f kj52 t430 bt433.1 bt433.2.1 bt433.2.2.1 bt433.2.2.2).bind fun bt439 => ((laws_eqHandS.f kj52 bt439.1 t392).bind fun t443 => (if t443 = true then (laws_FnExactSendParcel.j2 kj52 t428 t427 (bt439.2 != t395)) else (laws_FnExactSendParcel.j2 kj52 t428 t427 true)))))) else (some false))) = some r := H
          have A76 := zK A760
          clear A760
          by_cases c77 : t429 < 0
          · rw [if_pos c77] at H
            have c77b0 : decide (t429 < 0) = true := decide_eq_true c77
            clear c77
            obtain rfl := Option.some.inj H
            obtain ⟨Ao78, co78, eo78⟩ := Kd.R_slice HO_10.out
            subst eo78
            go_wp2_with (first | ((with_reducible refine gate_callee (f := 54) rfl ?_); refine goesL_ (some 85) rfl rfl Try.func54 (by kernel_rfl) rfl #[.slice Ao78 t406.length co78, .int .i64 1] rfl (by (try simp only [List.map_toArray, List.map_cons, List.map_nil]); first | done | rfl | (simp only [List.length_drop, List.length_take]; rfl)) ?_; (with_reducible refine (laws_markHandS.calls kj52 (fun k_ => some k_ = (.slice Ao78 t406.length co78 : Value).ownBlock) (.slice Ao78 t406.length co78) t406 1 t427 t428 w _ ?side1 ?side2 A75.out).mono ?_); (case side1 => repeat (first | (with_reducible first | exact HB.out | apply bA | apply bN | apply b1 | refine bS ?_ GE380.out | refine bS ?_ GE405.out) | exact HB.out)); (case side2 => exact Kd.R_tight rfl HO_10.out); rintro e w79 ⟨rfl, hy0, hb, hkp⟩; refine ⟨_, rfl, ?_⟩; have n0_ := zK (Kd.R_mono (ok' := fun k_ => some k_ ≠ (.slice Ao78 t406.length co78 : Value).ownBlock) (Kd.R_keptB (HO_6.out) hkp (fun k_ hk_ hs_ => (hk_) hs_)) (fun k_ hk_ => hk_.1)); have n1_ := zK (Kd.R_reok rfl hy0 (fun k_ e_ => HO_10.out.1 k_ e_)); have n2_ := zK (Kd.R_mono (ok' := fun k_ => True) (Kd.R_keptB ((Kd.R_apart' HO_406002.out (Kd.R_typed HO_10.out) (by decide))) hkp (fun k_ hk_ hs_ => (hk_.2) hs_)) (fun k_ hk_ => trivial)); have n3_ := zK (blk_kept (by (with_reducible repeat (first | refine kN ?_ _ | refine kD ?_ | refine kA ?_ _)); exact BK380.out) hkp (fun hs_ => (fun e_ => (Kd.R_ne HO_10.out BK380.out (by decide)) e_) hs_)); have n4_ := zK (blk_kept (by (with_reducible repeat (first | refine kN ?_ _ | refine kD ?_ | refine kA ?_ _)); exact BK405.out) hkp (fun hs_ => (fun e_ => (Kd.R_ne HO_10.out BK405.out (by decide)) e_) hs_)); have n5_ := zK (hb); clear HO_6; clear HO_10; clear HO_406002; clear BK380; clear BK405; clear HB; have HO_6 := n0_; have HO_10 := n1_; have HO_406002 := n2_; have BK380 := n3_; have BK405 := n4_; have HB := n5_; clear n0_ n1_ n2_ n3_ n4_ n5_; (try clear hb); (try clear hkp); (try clear hy0)) | ((with_reducible refine gate_callee (f := 56) rfl ?_); refine goesL_ (some 88) rfl rfl Try.func56 (by kernel_rfl) rfl #[.slice Ao78 t428.length co78, .int .i64 1] rfl (by (try simp only [List.map_toArray, List.map_cons, List.map_nil]); first | done | (rw [show t428.length = t406.length from (Kd.R_reads' HO_10.out).1.symm] <;> rfl) | rfl | (simp only [List.length_drop, List.length_take]; rfl)) ?_; (with_reducible refine (laws_heldHandS.calls kj52 _ _ t428 1 t429 _ ?side1 ?side2 A76.out).mono ?_); (case side1 => repeat (first | exact (Kd.R_reads' HO_10.out).2.2 | (with_reducible refine Kd.CA ?_ _) | (with_reducible refine Kd.CN ?_ _) | (with_reducible refine Kd.CD ?_))); (case side2 => rw [show t428.length = t406.length from (Kd.R_reads' HO_10.out).1.symm]; exact (Kd.R_reads' HO_10.out).2.1); rintro e w' ⟨rfl, ⟨nd, rfl⟩⟩; refine ⟨_, rfl, ?_⟩))
            go_ret
            exact ⟨by first | rfl | (simp [errW_none, errW_some] <;> rfl) | (simp [*, errW_none, errW_some] <;> rfl), by repeat (first | (with_reducible first | exact HB.out | apply bA | apply bN | apply b1 | refine bS ?_ GE380.out | refine bS ?_ GE405.out) | exact HB.out)⟩
          rw [if_neg c77] at H
          have c77b0 : decide (t429 < 0) = false := decide_eq_false c77
          clear c77
          by_cases c80 : t429 = t427
          rotate_left
          · rw [if_neg c80] at H
            have c80b0 : (t429 == t427) = false := beq_eq_false_iff_ne.mpr c80
            have c80b1 : (t429 != t427) = true := bne_iff_ne.mpr c80
            obtain rfl := Option.some.inj H
            obtain ⟨Ao105, co105, eo105⟩ := Kd.R_slice HO_10.out
            subst eo105
            go_wp2_with (first | ((with_reducible refine gate_callee (f := 54) rfl ?_); refine goesL_ (some 85) rfl rfl Try.func54 (by kernel_rfl) rfl #[.slice Ao105 t406.length co105, .int .i64 1] rfl (by (try simp only [List.map_toArray, List.map_cons, List.map_nil]); first | done | rfl | (simp only [List.length_drop, List.length_take]; rfl)) ?_; (with_reducible refine (laws_markHandS.calls kj52 (fun k_ => some k_ = (.slice Ao105 t406.length co105 : Value).ownBlock) (.slice Ao105 t406.length co105) t406 1 t427 t428 w _ ?side1 ?side2 A75.out).mono ?_); (case side1 => repeat (first | (with_reducible first | exact HB.out | apply bA | apply bN | apply b1 | refine bS ?_ GE380.out | refine bS ?_ GE405.out) | exact HB.out)); (case side2 => exact Kd.R_tight rfl HO_10.out); rintro e w106 ⟨rfl, hy0, hb, hkp⟩; refine ⟨_, rfl, ?_⟩; have n0_ := zK (Kd.R_mono (ok' := fun k_ => some k_ ≠ (.slice Ao105 t406.length co105 : Value).ownBlock) (Kd.R_keptB (HO_6.out) hkp (fun k_ hk_ hs_ => (hk_) hs_)) (fun k_ hk_ => hk_.1)); have n1_ := zK (Kd.R_reok rfl hy0 (fun k_ e_ => HO_10.out.1 k_ e_)); have n2_ := zK (Kd.R_mono (ok' := fun k_ => True) (Kd.R_keptB ((Kd.R_apart' HO_406002.out (Kd.R_typed HO_10.out) (by decide))) hkp (fun k_ hk_ hs_ => (hk_.2) hs_)) (fun k_ hk_ => trivial)); have n3_ := zK (blk_kept (by (with_reducible repeat (first | refine kN ?_ _ | refine kD ?_ | refine kA ?_ _)); exact BK380.out) hkp (fun hs_ => (fun e_ => (Kd.R_ne HO_10.out BK380.out (by decide)) e_) hs_)); have n4_ := zK (blk_kept (by (with_reducible repeat (first | refine kN ?_ _ | refine kD ?_ | refine kA ?_ _)); exact BK405.out) hkp (fun hs_ => (fun e_ => (Kd.R_ne HO_10.out BK405.out (by decide)) e_) hs_)); have n5_ := zK (hb); clear HO_6; clear HO_10; clear HO_406002; clear BK380; clear BK405; clear HB; have HO_6 := n0_; have HO_10 := n1_; have HO_406002 := n2_; have BK380 := n3_; have BK405 := n4_; have HB := n5_; clear n0_ n1_ n2_ n3_ n4_ n5_; (try clear hb); (try clear hkp); (try clear hy0)) | ((with_reducible refine gate_callee (f := 56) rfl ?_); refine goesL_ (some 88) rfl rfl Try.func56 (by kernel_rfl) rfl #[.slice Ao105 t428.length co105, .int .i64 1] rfl (by (try simp only [List.map_toArray, List.map_cons, List.map_nil]); first | done | (rw [show t428.length = t406.length from (Kd.R_reads' HO_10.out).1.symm] <;> rfl) | rfl | (simp only [List.length_drop, List.length_take]; rfl)) ?_; (with_reducible refine (laws_heldHandS.calls kj52 _ _ t428 1 t429 _ ?side1 ?side2 A76.out).mono ?_); (case side1 => repeat (first | exact (Kd.R_reads' HO_10.out).2.2 | (with_reducible refine Kd.CA ?_ _) | (with_reducible refine Kd.CN ?_ _) | (with_reducible refine Kd.CD ?_))); (case side2 => rw [show t428.length = t406.length from (Kd.R_reads' HO_10.out).1.symm]; exact (Kd.R_reads' HO_10.out).2.1); rintro e w' ⟨rfl, ⟨nd, rfl⟩⟩; refine ⟨_, rfl, ?_⟩))
            go_ret
            exact ⟨by first | rfl | (simp [errW_none, errW_some] <;> rfl) | (simp [*, errW_none, errW_some] <;> rfl), by repeat (first | (with_reducible first | exact HB.out | apply bA | apply bN | apply b1 | refine bS ?_ GE380.out | refine bS ?_ GE405.out) | exact HB.out)⟩
          rw [if_pos c80] at H
          have c80b0 : (t429 == t427) = true := beq_iff_eq.mpr c80
          have c80b1 : (t429 != t427) = false := bne_eq_false_iff_eq.mpr c80
          clear c80
          replace H := Option.bind_eq_some_iff.mp H
          obtain ⟨t430, A810, H⟩ := H
          replace H : ((laws_toParcel.f kj52 a1_0 a1_1 l1_2 a1_3).bind fun bt433 => ((impl_SendParcel.f kj52 t430 bt433.1 bt433.2.1 bt433.2.2.1 bt433.2.2.2).bind fun bt439 => ((laws_eqHandS.f kj52 bt439.1 t392).bind fun t443 => (if t443 = true then (laws_FnExactSendParcel.j2 kj52 t428 t427 (bt439.2 != t395)) else (laws_FnExactSendParcel.j2 kj52 t428 t427 true))))) = some r := H
          have A81 := zK A810
          clear A810
          replace H := Option.bind_eq_some_iff.mp H
          obtain ⟨⟨t433, t434, t435, t438⟩, A820, H⟩ := H
          replace H : ((impl_SendParcel.f kj52 t430 t433 t434 t435 t438).bind fun bt439 => ((laws_eqHandS.f kj52 bt439.1 t392).bind fun t443 => (if t443 = true then (laws_FnExactSendParcel.j2 kj52 t428 t427 (bt439.2 != t395)) else (laws_FnExactSendParcel.j2 kj52 t428 t427 true)))) = some r := H
          have A82 := zK A820
          clear A820
          replace H := Option.bind_eq_some_iff.mp H
          obtain ⟨⟨t439, t442⟩, A830, H⟩ := H
          replace H : ((laws_eqHandS.f kj52 t439 t392).bind fun t443 => (if t443 = true then (laws_FnExactSendParcel.j2 kj52 t428 t427 (t442 != t395)) else (laws_FnExactSendParcel.j2 kj52 t428 t427 true))) = some r := H
          have A83 := zK A830
          clear A830
          have HC84 := zK H
          clear H
          obtain ⟨Ao85, co85, eo85⟩ := Kd.R_slice HO_10.out
          subst eo85
          try go_wp2_with (first | ((with_reducible refine gate_callee (f := 54) rfl ?_); refine goesL_ (some 85) rfl rfl Try.func54 (by kernel_rfl) rfl #[.slice Ao85 t406.length co85, .int .i64 1] rfl (by (try simp only [List.map_toArray, List.map_cons, List.map_nil]); first | done | rfl | (simp only [List.length_drop, List.length_take]; rfl)) ?_; (with_reducible refine (laws_markHandS.calls kj52 (fun k_ => some k_ = (.slice Ao85 t406.length co85 : Value).ownBlock) (.slice Ao85 t406.length co85) t406 1 t427 t428 w _ ?side1 ?side2 A75.out).mono ?_); (case side1 => repeat (first | (with_reducible first | exact HB.out | apply bA | apply bN | apply b1 | refine bS ?_ GE380.out | refine bS ?_ GE405.out) | exact HB.out)); (case side2 => exact Kd.R_tight rfl HO_10.out); rintro e w86 ⟨rfl, hy0, hb, hkp⟩; refine ⟨_, rfl, ?_⟩; have n0_ := zK (Kd.R_mono (ok' := fun k_ => some k_ ≠ (.slice Ao85 t406.length co85 : Value).ownBlock) (Kd.R_keptB (HO_6.out) hkp (fun k_ hk_ hs_ => (hk_) hs_)) (fun k_ hk_ => hk_.1)); have n1_ := zK (Kd.R_reok rfl hy0 (fun k_ e_ => HO_10.out.1 k_ e_)); have n2_ := zK (Kd.R_mono (ok' := fun k_ => True) (Kd.R_keptB ((Kd.R_apart' HO_406002.out (Kd.R_typed HO_10.out) (by decide))) hkp (fun k_ hk_ hs_ => (hk_.2) hs_)) (fun k_ hk_ => trivial)); have n3_ := zK (blk_kept (by (with_reducible repeat (first | refine kN ?_ _ | refine kD ?_ | refine kA ?_ _)); exact BK380.out) hkp (fun hs_ => (fun e_ => (Kd.R_ne HO_10.out BK380.out (by decide)) e_) hs_)); have n4_ := zK (blk_kept (by (with_reducible repeat (first | refine kN ?_ _ | refine kD ?_ | refine kA ?_ _)); exact BK405.out) hkp (fun hs_ => (fun e_ => (Kd.R_ne HO_10.out BK405.out (by decide)) e_) hs_)); have n5_ := zK (hb); clear HO_6; clear HO_10; clear HO_406002; clear BK380; clear BK405; clear HB; have HO_6 := n0_; have HO_10 := n1_; have HO_406002 := n2_; have BK380 := n3_; have BK405 := n4_; have HB := n5_; clear n0_ n1_ n2_ n3_ n4_ n5_; (try clear hb); (try clear hkp); (try clear hy0)) | ((with_reducible refine gate_callee (f := 56) rfl ?_); refine goesL_ (some 88) rfl rfl Try.func56 (by kernel_rfl) rfl #[.slice Ao85 t428.length co85, .int .i64 1] rfl (by (try simp only [List.map_toArray, List.map_cons, List.map_nil]); first | done | (rw [show t428.length = t406.length from (Kd.R_reads' HO_10.out).1.symm] <;> rfl) | rfl | (simp only [List.length_drop, List.length_take]; rfl)) ?_; (with_reducible refine (laws_heldHandS.calls kj52 _ _ t428 1 t429 _ ?side1 ?side2 A76.out).mono ?_); (case side1 => repeat (first | exact (Kd.R_reads' HO_10.out).2.2 | (with_reducible refine Kd.CA ?_ _) | (with_reducible refine Kd.CN ?_ _) | (with_reducible refine Kd.CD ?_))); (case side2 => rw [show t428.length = t406.length from (Kd.R_reads' HO_10.out).1.symm]; exact (Kd.R_reads' HO_10.out).2.1); rintro e w' ⟨rfl, ⟨nd, rfl⟩⟩; refine ⟨_, rfl, ?_⟩))
          (try (rw [drewN_self w86]; generalize hq_ : World.drewN w86 _ = w86; have n0_ : Aside0 (Kd.R k138 138 w86 w.heap.size (fun k_ => some k_ ≠ (v393 : Value).ownBlock) (.slice Ao85 t406.length co85) t428) := ⟨by rw [← hq_]; exact (by (with_reducible repeat (first | apply Kd.RA | apply Kd.RN | apply Kd.RD)); exact HO_10.out)⟩; have n1_ : Aside0 (Kd.R (Kd.int .i64) 3 w86 w.heap.size (fun _ => True) (.slice Ao33 t425.length co33) t425) := ⟨by rw [← hq_]; exact (by (with_reducible repeat (first | apply Kd.RA | apply Kd.RN | apply Kd.RD)); exact HO_406002.out)⟩; have n2_ : Aside0 (Kd.R k138 138 w86 w.heap.size (fun k_ => some k_ ≠ (.slice Ao85 t406.length co85 : Value).ownBlock) v393 t392) := ⟨by rw [← hq_]; exact (by (with_reducible repeat (first | apply Kd.RA | apply Kd.RN | apply Kd.RD)); exact HO_6.out)⟩; have n3_ : Aside0 (w86.heap[gb380]? = some (.cells #[.int .i64 a1_0, .int .i64 a1_1, .slice A1_2 l1_2.length c1_2, .int .i64 a1_3] 74 (0, 0))) := ⟨by rw [← hq_]; exact (by (with_reducible repeat (first | refine kN ?_ _ | refine kD ?_ | refine kA ?_ _)); exact BK380.out)⟩; have n4_ : Aside0 (w86.heap[gb405]? = some (.cells #[.int .i64 t399, .int .i64 t400, .slice Ao33 t425.length co33, .int .i64 t404] 53 (0, 0))) := ⟨by rw [← hq_]; exact (by (with_reducible repeat (first | refine kN ?_ _ | refine kD ?_ | refine kA ?_ _)); exact BK405.out)⟩; have n5_ : Aside0 (Below w.heap.size w w86) := ⟨by rw [← hq_]; exact (by repeat (first | (with_reducible first | exact HB.out | apply bA | apply bN | apply b1 | refine bS ?_ GE380.out | refine bS ?_ GE405.out) | exact HB.out))⟩; clear HO_10 HO_406002 HO_6 BK380 BK405 HB hq_; have HO_10 := n0_; have HO_406002 := n1_; have HO_6 := n2_; have BK380 := n3_; have BK405 := n4_; have HB := n5_; clear n0_ n1_ n2_ n3_ n4_ n5_))
          have n0_ := zK (Kd.RD HO_6.out)
          have n1_ := zK (Kd.RD HO_10.out)
          have n2_ := zK (Kd.RD HO_406002.out)
          have n3_ := zK (kD BK380.out)
          have n4_ := zK (kD BK405.out)
          have n5_ := zK (b1 HB.out)
          clear HO_6
          clear HO_10
          clear HO_406002
          clear BK380
          clear BK405
          clear HB
          have HO_6 := n0_
          have HO_10 := n1_
          have HO_406002 := n2_
          have BK380 := n3_
          have BK405 := n4_
          have HB := n5_
          clear n0_ n1_ n2_ n3_ n4_ n5_
          refine start_ (n := 10) (S := fun w' => w'.cell? ⟨gb380, 0, none⟩ = some (.int .i64 a1_0) ∧ w'.cell? ⟨gb380, 1, none⟩ = some (.int .i64 a1_1) ∧ w'.cell? ⟨gb380, 2, none⟩ = some (.slice A1_2 l1_2.length c1_2) ∧ w'.cell? ⟨gb380, 3, none⟩ = some (.int .i64 a1_3)) (ds := []) b14A0 (by kernel_rfl) rfl rfl ⟨(bc BK380.out 0).trans rfl, (bc BK380.out 1).trans rfl, (bc BK380.out 2).trans rfl, (bc BK380.out 3).trans rfl⟩ (fun hHeld => ?_); refine with_tabW laws_FnExactSendParcel.tab31 laws_FnExactSendParcel.bits31 (fun HT_ HW_ => ?_)
          generalize w86.drew = w87 at HO_6 HO_10 HO_406002 BK380 BK405 HB hHeld ⊢
          refine pI 0 (some 95) b14A1 HT_ ?_
          refine tI 2 (some 97) b14A2 HT_ HW_ hHeld rfl rfl (Or.inl ⟨by rfl, by rintro w' ⟨s0, s1, s2, s3⟩; go_simp; with_reducible rfl⟩) ?_
          refine one_ (i := 1) (N := some 96) b14A3 rfl rfl (one_of HT_.out (by kernel_rfl)) (by decide) (fun K hK => ?_)
          refine goes_ Try.func50 (by kernel_rfl) rfl #[.slice A0 l0.length c0] (by rfl) rfl rfl (by (try simp only [List.map_toArray, List.map_cons, List.map_nil]); first | done | rfl | (simp only [List.length_drop, List.length_take]; rfl)) ?_
          with_reducible refine (laws_toHandS.calls kj52 _ _ l0 t430 _ ?side1 ?side2 A81.out).mono ?_
          (case side1 => repeat (first | exact (Kd.C_below HR0.out HB.out) | (with_reducible refine Kd.CA ?_ _) | (with_reducible refine Kd.CN ?_ _) | (with_reducible refine Kd.CD ?_)))
          (case side2 => exact HC0.out)
          rintro e w88 ⟨v431, rfl, ho0, hb⟩
          refine ⟨_, rfl, ?_⟩
          have n0_ := zK (Kd.R_elder' (by (with_reducible repeat (first | apply Kd.RA | apply Kd.RN | apply Kd.RD)); exact HO_6.out) (Kd.R_base ho0) hb)
          have n1_ := zK (Kd.R_elder' (by (with_reducible repeat (first | apply Kd.RA | apply Kd.RN | apply Kd.RD)); exact HO_10.out) (Kd.R_base ho0) hb)
          have n2_ := zK (Kd.R_below (by (with_reducible repeat (first | apply Kd.RA | apply Kd.RN | apply Kd.RD)); exact HO_406002.out) hb)
          have n3_ := zK (Kd.R_lower (Kd.R_new' (Kd.R_new' ho0 (Kd.R_lt (by (with_reducible repeat (first | apply Kd.RA | apply Kd.RN | apply Kd.RD)); exact HO_6.out))) (Kd.R_lt (by (with_reducible repeat (first | apply Kd.RA | apply Kd.RN | apply Kd.RD)); exact HO_10.out))) (bZ (by repeat (first | (with_reducible first | exact HB.out | apply bA | apply bN | apply b1 | refine bS ?_ GE380.out | refine bS ?_ GE405.out) | exact HB.out))))
          have n4_ := zK (bB (g := gb380) (o := .cells #[.int .i64 a1_0, .int .i64 a1_1, .slice A1_2 l1_2.length c1_2, .int .i64 a1_3] 74 (0, 0)) (by (with_reducible repeat (first | refine kN ?_ _ | refine kD ?_ | refine kA ?_ _)); exact BK380.out) hb)
          have n5_ := zK (bB (g := gb405) (o := .cells #[.int .i64 t399, .int .i64 t400, .slice Ao33 t425.length co33, .int .i64 t404] 53 (0, 0)) (by (with_reducible repeat (first | refine kN ?_ _ | refine kD ?_ | refine kA ?_ _)); exact BK405.out) hb)
          have n6_ := zK (bT (by repeat (first | (with_reducible first | exact HB.out | apply bA | apply bN | apply b1 | refine bS ?_ GE380.out | refine bS ?_ GE405.out) | exact HB.out)) hb)
          clear HO_6
          clear HO_10
          clear HO_406002
          clear BK380
          clear BK405
          clear HB
          have HO_6 := n0_
          have HO_10 := n1_
          have HO_406002 := n2_
          have HO432 := n3_
          have BK380 := n4_
          have BK405 := n5_
          have HB := n6_
          clear n0_ n1_ n2_ n3_ n4_ n5_ n6_
          (try clear hb)
          (try clear hb2)
          (try clear hk)
          (try clear hi)
          (try clear ho0)
          refine hK.out _ _ ⟨(bc BK380.out 0).trans rfl, (bc BK380.out 1).trans rfl, (bc BK380.out 2).trans rfl, (bc BK380.out 3).trans rfl⟩ (fun hHeld => ?_)
          clear hK K
          refine norm_ (a' := ?_) ?_ ?_
          rotate_left
          · show Act.put _ (some 96) _ = _
            simp only [Act.put, sA, sZ, sS, i64_w, i32_w]
            rfl
          refine one_ (i := 3) (N := some 98) b14A4 rfl rfl (one_of HT_.out (by kernel_rfl)) (by decide) (fun K hK => ?_)
          refine goes_ Try.func51 (by kernel_rfl) rfl #[.agg #[.int .i64 a1_0, .int .i64 a1_1, .slice A1_2 l1_2.length c1_2, .int .i64 a1_3]] (by rfl) rfl rfl (by (try simp only [List.map_toArray, List.map_cons, List.map_nil]); first | done | rfl | (simp only [List.length_drop, List.length_take]; rfl)) ?_
          with_reducible refine (laws_toParcel.calls kj52 a1_0 a1_1 _ _ l1_2 a1_3 t433 t434 t435 t438 _ ?side1 ?side2 A82.out).mono ?_
          (case side1 => repeat (first | exact (Kd.C_below HR1_2.out HB.out) | (with_reducible refine Kd.CA ?_ _) | (with_reducible refine Kd.CN ?_ _) | (with_reducible refine Kd.CD ?_)))
          (case side2 => exact HC1_2.out)
          rintro e w89 ⟨v436, rfl, ho0, hb⟩
          refine ⟨_, rfl, ?_⟩
          have n0_ := zK (Kd.R_below (by (with_reducible repeat (first | apply Kd.RA | apply Kd.RN | apply Kd.RD)); exact HO_6.out) hb)
          have n1_ := zK (Kd.R_below (by (with_reducible repeat (first | apply Kd.RA | apply Kd.RN | apply Kd.RD)); exact HO_10.out) hb)
          have n2_ := zK (Kd.R_elder' (by (with_reducible repeat (first | apply Kd.RA | apply Kd.RN | apply Kd.RD)); exact HO_406002.out) (Kd.R_base ho0) hb)
          have n3_ := zK (Kd.R_below (by (with_reducible repeat (first | apply Kd.RA | apply Kd.RN | apply Kd.RD)); exact HO432.out) hb)
          have n4_ := zK (Kd.R_lower (Kd.R_new' ho0 (Kd.R_lt (by (with_reducible repeat (first | apply Kd.RA | apply Kd.RN | apply Kd.RD)); exact HO_406002.out))) (bZ (by repeat (first | (with_reducible first | exact HB.out | apply bA | apply bN | apply b1 | refine bS ?_ GE380.out | refine bS ?_ GE405.out) | exact HB.out))))
          have n5_ := zK (bB (g := gb380) (o := .cells #[.int .i64 a1_0, .int .i64 a1_1, .slice A1_2 l1_2.length c1_2, .int .i64 a1_3] 74 (0, 0)) (by (with_reducible repeat (first | refine kN ?_ _ | refine kD ?_ | refine kA ?_ _)); exact BK380.out) hb)
          have n6_ := zK (bB (g := gb405) (o := .cells #[.int .i64 t399, .int .i64 t400, .slice Ao33 t425.length co33, .int .i64 t404] 53 (0, 0)) (by (with_reducible repeat (first | refine kN ?_ _ | refine kD ?_ | refine kA ?_ _)); exact BK405.out) hb)
          have n7_ := zK (bT (by repeat (first | (with_reducible first | exact HB.out | apply bA | apply bN | apply b1 | refine bS ?_ GE380.out | refine bS ?_ GE405.out) | exact HB.out)) hb)
          clear HO_6
          clear HO_10
          clear HO_406002
          clear HO432
          clear BK380
          clear BK405
          clear HB
          have HO_6 := n0_
          have HO_10 := n1_
          have HO_406002 := n2_
          have HO432 := n3_
          have HO437 := n4_
          have BK380 := n5_
          have BK405 := n6_
          have HB := n7_
          clear n0_ n1_ n2_ n3_ n4_ n5_ n6_ n7_
          (try clear hb)
          (try clear hb2)
          (try clear hk)
          (try clear hi)
          (try clear ho0)
          obtain ⟨Ao90, co90, eo90⟩ := Kd.R_slice HO432.out
          (first | subst eo90 | (injection eo90 with f1_ f2_ f3_; have f4_ := f1_.symm; have f5_ := f3_.symm; clear f1_ f2_ f3_; subst f4_; subst f5_))
          obtain ⟨Ao91, co91, eo91⟩ := Kd.R_slice HO437.out
          (first | subst eo91 | (injection eo91 with f1_ f2_ f3_; have f4_ := f1_.symm; have f5_ := f3_.symm; clear f1_ f2_ f3_; subst f4_; subst f5_))
          refine hK.out _ _ ⟨(bc BK380.out 0).trans rfl, (bc BK380.out 1).trans rfl, (bc BK380.out 2).trans rfl, (bc BK380.out 3).trans rfl⟩ (fun hHeld => ?_)
          clear hK K
          refine norm_ (a' := ?_) ?_ ?_
          rotate_left
          · show Act.put _ (some 98) _ = _
            simp only [Act.put, sA, sZ, sS, i64_w, i32_w]
            rfl
          refine one_ (i := 4) (N := some 99) b14A5 rfl rfl (one_of HT_.out (by kernel_rfl)) (by decide) (fun K hK => ?_)
          refine goes_ Try.func32 (by kernel_rfl) rfl #[.slice Ao90 t430.length co90, .agg #[.int .i64 t433, .int .i64 t434, .slice Ao91 t435.length co91, .int .i64 t438]] (by rfl) rfl rfl (by (try simp only [List.map_toArray, List.map_cons, List.map_nil]); first | done | rfl | (simp only [List.length_drop, List.length_take]; rfl)) ?_
          with_reducible refine (impl_SendParcel.calls kj52 _ _ t430 t433 t434 _ _ t435 t438 t439 t442 _ ?side1 ?side2 ?side3 ?side4 A83.out).mono ?_
          (case side1 => repeat (first | exact (Kd.R_reads' HO432.out).2.2 | (with_reducible refine Kd.CA ?_ _) | (with_reducible refine Kd.CN ?_ _) | (with_reducible refine Kd.CD ?_)))
          (case side2 => exact (Kd.R_reads' HO432.out).2.1)
          (case side3 => repeat (first | exact (Kd.R_reads' HO437.out).2.2 | (with_reducible refine Kd.CA ?_ _) | (with_reducible refine Kd.CN ?_ _) | (with_reducible refine Kd.CD ?_)))
          (case side4 => exact (Kd.R_reads' HO437.out).2.1)
          rintro e w92 ⟨v440, rfl, ho0, hb⟩
          refine ⟨_, rfl, ?_⟩
          have n0_ := zK (Kd.R_elder' (by (with_reducible repeat (first | apply Kd.RA | apply Kd.RN | apply Kd.RD)); exact HO_6.out) (Kd.R_base ho0) hb)
          have n1_ := zK (Kd.R_elder' (by (with_reducible repeat (first | apply Kd.RA | apply Kd.RN | apply Kd.RD)); exact HO_10.out) (Kd.R_base ho0) hb)
          have n2_ := zK (Kd.R_below (by (with_reducible repeat (first | apply Kd.RA | apply Kd.RN | apply Kd.RD)); exact HO_406002.out) hb)
          have n3_ := zK (Kd.R_elder' (by (with_reducible repeat (first | apply Kd.RA | apply Kd.RN | apply Kd.RD)); exact HO432.out) (Kd.R_base ho0) hb)
          have n4_ := zK (Kd.R_below (by (with_reducible repeat (first | apply Kd.RA | apply Kd.RN | apply Kd.RD)); exact HO437.out) hb)
          have n5_ := zK (Kd.R_lower (Kd.R_new' (Kd.R_new' (Kd.R_new' ho0 (Kd.R_lt (by (with_reducible repeat (first | apply Kd.RA | apply Kd.RN | apply Kd.RD)); exact HO_6.out))) (Kd.R_lt (by (with_reducible repeat (first | apply Kd.RA | apply Kd.RN | apply Kd.RD)); exact HO_10.out))) (Kd.R_lt (by (with_reducible repeat (first | apply Kd.RA | apply Kd.RN | apply Kd.RD)); exact HO432.out))) (bZ (by repeat (first | (with_reducible first | exact HB.out | apply bA | apply bN | apply b1 | refine bS ?_ GE380.out | refine bS ?_ GE405.out) | exact HB.out))))
          have n6_ := zK (bB (g := gb380) (o := .cells #[.int .i64 a1_0, .int .i64 a1_1, .slice A1_2 l1_2.length c1_2, .int .i64 a1_3] 74 (0, 0)) (by (with_reducible repeat (first | refine kN ?_ _ | refine kD ?_ | refine kA ?_ _)); exact BK380.out) hb)
          have n7_ := zK (bB (g := gb405) (o := .cells #[.int .i64 t399, .int .i64 t400, .slice Ao33 t425.length co33, .int .i64 t404] 53 (0, 0)) (by (with_reducible repeat (first | refine kN ?_ _ | refine kD ?_ | refine kA ?_ _)); exact BK405.out) hb)
          have n8_ := zK (bT (by repeat (first | (with_reducible first | exact HB.out | apply bA | apply bN | apply b1 | refine bS ?_ GE380.out | refine bS ?_ GE405.out) | exact HB.out)) hb)
          clear HO_6
          clear HO_10
          clear HO_406002
          clear HO432
          clear HO437
          clear BK380
          clear BK405
          clear HB
          have HO_6 := n0_
          have HO_10 := n1_
          have HO_406002 := n2_
          have HO432 := n3_
          have HO437 := n4_
          have HO441 := n5_
          have BK380 := n6_
          have BK405 := n7_
          have HB := n8_
          clear n0_ n1_ n2_ n3_ n4_ n5_ n6_ n7_ n8_
          (try clear hb)
          (try clear hb2)
          (try clear hk)
          (try clear hi)
          (try clear ho0)
          refine hK.out _ _ ⟨(bc BK380.out 0).trans rfl, (bc BK380.out 1).trans rfl, (bc BK380.out 2).trans rfl, (bc BK380.out 3).trans rfl⟩ (fun hHeld => ?_)
          clear hK K
          refine norm_ (a' := ?_) ?_ ?_
          rotate_left
          · show Act.put _ (some 99) _ = _
            simp only [Act.put, sA, sZ, sS, i64_w, i32_w]
            rfl
          refine pI 5 (some 94) b14A6 HT_ ?_
          refine pI 6 (some 100) b14A7 HT_ ?_
          refine pI 7 (some 101) b14A8 HT_ ?_
          refine pI 8 (some 15) b14A9 HT_ ?_
          refine pI 9 (some 16) b14A10 HT_ ?_
          refine done_ (done_of HT_.out (by kernel_rfl)) ?_
          go_upto_region 32 with (fail)
          go_cut [110] (fun v110 wc => ∃ (kq : Nat) (x110_83 : Bool), v110 = .bool x110_83 ∧ Aside0 (laws_FnExactSendParcel.j2 kq t428 t427 x110_83 = some r) ∧ Aside0 (kq ≤ kj52) ∧ Aside0 (Kd.R k138 138 wc w.heap.size (fun _ => True) (.slice Ao85 t406.length co85) t428) ∧ Aside0 (Kd.R (Kd.int .i64) 3 wc w.heap.size (fun _ => True) (.slice Ao33 t425.length co33) t425) ∧ Aside0 (wc.heap[gb380]? = some (.cells #[.int .i64 a1_0, .int .i64 a1_1, (.slice A1_2 l1_2.length c1_2), .int .i64 a1_3] 74 (0, 0))) ∧ Aside0 (wc.heap[gb405]? = some (.cells #[.int .i64 t399, .int .i64 t400, (.slice Ao33 t425.length co33), .int .i64 t404] 53 (0, 0))) ∧ Aside0 (Below w.heap.size w wc))
          case first =>
            have H := HC84.out
            clear HC84
            replace H := Option.bind_eq_some_iff.mp H
            obtain ⟨t443, A930, H⟩ := H
            replace H : (if t443 = true then (laws_FnExactSendParcel.j2 kj52 t428 t427 (t442 != t395)) else (laws_FnExactSendParcel.j2 kj52 t428 t427 true)) = some r := H
            have A93 := zK A930
            clear A930
            by_cases c94 : t443 = true
            · subst c94
              have H1 : (laws_FnExactSendParcel.j2 kj52 t428 t427 (t442 != t395)) = some r := by rw [if_pos rfl] at H; exact H
              clear H
              have H := H1
              clear H1
              have H' := zK H
              clear H
              obtain ⟨Ao95, co95, eo95⟩ := Kd.R_slice HO441.out
              subst eo95
              obtain ⟨Ao96, co96, eo96⟩ := Kd.R_slice HO_6.out
              subst eo96
              go_wp2_with (first | ((with_reducible refine gate_callee (f := 52) rfl ?_); refine goesL_ (some 104) rfl rfl Try.func52 (by kernel_rfl) rfl #[.slice Ao95 t439.length co95, .slice Ao96 t392.length co96] rfl (by (try simp only [List.map_toArray, List.map_cons, List.map_nil]); first | done | rfl | (simp only [List.length_drop, List.length_take]; rfl)) ?_; (with_reducible refine (laws_eqHandS.calls kj52 _ _ t439 _ _ t392 true _ ?side1 ?side2 ?side3 ?side4 A93.out).mono ?_); (case side1 => repeat (first | exact (Kd.R_reads' HO441.out).2.2 | (with_reducible refine Kd.CA ?_ _) | (with_reducible refine Kd.CN ?_ _) | (with_reducible refine Kd.CD ?_))); (case side2 => exact (Kd.R_reads' HO441.out).2.1); (case side3 => repeat (first | exact (Kd.R_reads' HO_6.out).2.2 | (with_reducible refine Kd.CA ?_ _) | (with_reducible refine Kd.CN ?_ _) | (with_reducible refine Kd.CD ?_))); (case side4 => exact (Kd.R_reads' HO_6.out).2.1); rintro e w97 ⟨rfl, hb⟩; refine ⟨_, rfl, ?_⟩; have n0_ := zK (Kd.R_below (by (with_reducible repeat (first | apply Kd.RA | apply Kd.RN | apply Kd.RD)); exact HO_6.out) hb); have n1_ := zK (Kd.R_below (by (with_reducible repeat (first | apply Kd.RA | apply Kd.RN | apply Kd.RD)); exact HO_10.out) hb); have n2_ := zK (Kd.R_below (by (with_reducible repeat (first | apply Kd.RA | apply Kd.RN | apply Kd.RD)); exact HO_406002.out) hb); have n3_ := zK (Kd.R_below (by (with_reducible repeat (first | apply Kd.RA | apply Kd.RN | apply Kd.RD)); exact HO432.out) hb); have n4_ := zK (Kd.R_below (by (with_reducible repeat (first | apply Kd.RA | apply Kd.RN | apply Kd.RD)); exact HO437.out) hb); have n5_ := zK (Kd.R_below (by (with_reducible repeat (first | apply Kd.RA | apply Kd.RN | apply Kd.RD)); exact HO441.out) hb); have n6_ := zK (bB (g := gb380) (o := .cells #[.int .i64 a1_0, .int .i64 a1_1, .slice A1_2 l1_2.length c1_2, .int .i64 a1_3] 74 (0, 0)) (by (with_reducible repeat (first | refine kN ?_ _ | refine kD ?_ | refine kA ?_ _)); exact BK380.out) hb); have n7_ := zK (bB (g := gb405) (o := .cells #[.int .i64 t399, .int .i64 t400, .slice Ao33 t425.length co33, .int .i64 t404] 53 (0, 0)) (by (with_reducible repeat (first | refine kN ?_ _ | refine kD ?_ | refine kA ?_ _)); exact BK405.out) hb); have n8_ := zK (bT (by repeat (first | (with_reducible first | exact HB.out | apply bA | apply bN | apply b1 | refine bS ?_ GE380.out | refine bS ?_ GE405.out) | exact HB.out)) hb); clear HO_6; clear HO_10; clear HO_406002; clear HO432; clear HO437; clear HO441; clear BK380; clear BK405; clear HB; have HO_6 := n0_; have HO_10 := n1_; have HO_406002 := n2_; have HO432 := n3_; have HO437 := n4_; have HO441 := n5_; have BK380 := n6_; have BK405 := n7_; have HB := n8_; clear n0_ n1_ n2_ n3_ n4_ n5_ n6_ n7_ n8_; (try clear hb); (try clear hb2); (try clear hk); (try clear hi)))
              go_meet
              case rel => exact ⟨_, ((t442 != t395)), (by first | rfl | (simp; done) | (simp [*]; done)), H', ⟨by have := HJ16.out; have := HJ52.out; first | omega | exact Nat.le_refl _⟩, ⟨by (try simp only [hl406002_52]); (with_reducible repeat (first | apply Kd.RA | apply Kd.RN | apply Kd.RD)); exact Kd.R_mono HO_10.out (fun _ hk => trivial)⟩, ⟨by (try simp only [hl406002_52]); (with_reducible repeat (first | apply Kd.RA | apply Kd.RN | apply Kd.RD)); exact Kd.R_mono HO_406002.out (fun _ hk => trivial)⟩, ⟨by (try simp only [hl406002_52]); (with_reducible repeat (first | refine kN ?_ _ | refine kD ?_ | refine kA ?_ _)); exact BK380.out⟩, ⟨by (try simp only [hl406002_52]); (with_reducible repeat (first | refine kN ?_ _ | refine kD ?_ | refine kA ?_ _)); exact BK405.out⟩, ⟨by repeat (first | (with_reducible first | exact HB.out | apply bA | apply bN | apply b1 | refine bS ?_ GE380.out | refine bS ?_ GE405.out) | exact HB.out)⟩⟩
            replace c94 := Bool.eq_false_iff.mpr c94
            subst c94
            have H1 : (laws_FnExactSendParcel.j2 kj52 t428 t427 true) = some r := by rw [if_neg (show ¬ (false = true) by decide)] at H; exact H
            clear H
            have H := H1
            clear H1
            have H' := zK H
            clear H
            obtain ⟨Ao98, co98, eo98⟩ := Kd.R_slice HO441.out
            subst eo98
            obtain ⟨Ao99, co99, eo99⟩ := Kd.R_slice HO_6.out
            subst eo99
            go_wp2_with (first | ((with_reducible refine gate_callee (f := 52) rfl ?_); refine goesL_ (some 104) rfl rfl Try.func52 (by kernel_rfl) rfl #[.slice Ao98 t439.length co98, .slice Ao99 t392.length co99] rfl (by (try simp only [List.map_toArray, List.map_cons, List.map_nil]); first | done | rfl | (simp only [List.length_drop, List.length_take]; rfl)) ?_; (with_reducible refine (laws_eqHandS.calls kj52 _ _ t439 _ _ t392 false _ ?side1 ?side2 ?side3 ?side4 A93.out).mono ?_); (case side1 => repeat (first | exact (Kd.R_reads' HO441.out).2.2 | (with_reducible refine Kd.CA ?_ _) | (with_reducible refine Kd.CN ?_ _) | (with_reducible refine Kd.CD ?_))); (case side2 => exact (Kd.R_reads' HO441.out).2.1); (case side3 => repeat (first | exact (Kd.R_reads' HO_6.out).2.2 | (with_reducible refine Kd.CA ?_ _) | (with_reducible refine Kd.CN ?_ _) | (with_reducible refine Kd.CD ?_))); (case side4 => exact (Kd.R_reads' HO_6.out).2.1); rintro e w100 ⟨rfl, hb⟩; refine ⟨_, rfl, ?_⟩; have n0_ := zK (Kd.R_below (by (with_reducible repeat (first | apply Kd.RA | apply Kd.RN | apply Kd.RD)); exact HO_6.out) hb); have n1_ := zK (Kd.R_below (by (with_reducible repeat (first | apply Kd.RA | apply Kd.RN | apply Kd.RD)); exact HO_10.out) hb); have n2_ := zK (Kd.R_below (by (with_reducible repeat (first | apply Kd.RA | apply Kd.RN | apply Kd.RD)); exact HO_406002.out) hb); have n3_ := zK (Kd.R_below (by (with_reducible repeat (first | apply Kd.RA | apply Kd.RN | apply Kd.RD)); exact HO432.out) hb); have n4_ := zK (Kd.R_below (by (with_reducible repeat (first | apply Kd.RA | apply Kd.RN | apply Kd.RD)); exact HO437.out) hb); have n5_ := zK (Kd.R_below (by (with_reducible repeat (first | apply Kd.RA | apply Kd.RN | apply Kd.RD)); exact HO441.out) hb); have n6_ := zK (bB (g := gb380) (o := .cells #[.int .i64 a1_0, .int .i64 a1_1, .slice A1_2 l1_2.length c1_2, .int .i64 a1_3] 74 (0, 0)) (by (with_reducible repeat (first | refine kN ?_ _ | refine kD ?_ | refine kA ?_ _)); exact BK380.out) hb); have n7_ := zK (bB (g := gb405) (o := .cells #[.int .i64 t399, .int .i64 t400, .slice Ao33 t425.length co33, .int .i64 t404] 53 (0, 0)) (by (with_reducible repeat (first | refine kN ?_ _ | refine kD ?_ | refine kA ?_ _)); exact BK405.out) hb); have n8_ := zK (bT (by repeat (first | (with_reducible first | exact HB.out | apply bA | apply bN | apply b1 | refine bS ?_ GE380.out | refine bS ?_ GE405.out) | exact HB.out)) hb); clear HO_6; clear HO_10; clear HO_406002; clear HO432; clear HO437; clear HO441; clear BK380; clear BK405; clear HB; have HO_6 := n0_; have HO_10 := n1_; have HO_406002 := n2_; have HO432 := n3_; have HO437 := n4_; have HO441 := n5_; have BK380 := n6_; have BK405 := n7_; have HB := n8_; clear n0_ n1_ n2_ n3_ n4_ n5_ n6_ n7_ n8_; (try clear hb); (try clear hb2); (try clear hk); (try clear hi)))
            go_meet
            case rel => exact ⟨_, (true), (by first | rfl | (simp; done) | (simp [*]; done)), H', ⟨by have := HJ16.out; have := HJ52.out; first | omega | exact Nat.le_refl _⟩, ⟨by (try simp only [hl406002_52]); (with_reducible repeat (first | apply Kd.RA | apply Kd.RN | apply Kd.RD)); exact Kd.R_mono HO_10.out (fun _ hk => trivial)⟩, ⟨by (try simp only [hl406002_52]); (with_reducible repeat (first | apply Kd.RA | apply Kd.RN | apply Kd.RD)); exact Kd.R_mono HO_406002.out (fun _ hk => trivial)⟩, ⟨by (try simp only [hl406002_52]); (with_reducible repeat (first | refine kN ?_ _ | refine kD ?_ | refine kA ?_ _)); exact BK380.out⟩, ⟨by (try simp only [hl406002_52]); (with_reducible repeat (first | refine kN ?_ _ | refine kD ?_ | refine kA ?_ _)); exact BK405.out⟩, ⟨by repeat (first | (with_reducible first | exact HB.out | apply bA | apply bN | apply b1 | refine bS ?_ GE380.out | refine bS ?_ GE405.out) | exact HB.out)⟩⟩
          case rest =>
            clear HC84
            try clear c1
            try clear p2
            try clear c3
            try clear c4
            try clear c4b0
            try clear c5
            try clear c6
            try clear c7
            try clear c7b0
            try clear c8
            try clear c9
            try clear c31
            try clear c32
            try clear c37
            try clear c44
            try clear c47
            try clear c48
            try clear c49
            try clear c50
            try clear c51
            try clear c52
            try clear c53
            try clear c54
            try clear c55
            try clear c56
            try clear c62
            try clear c65
            try clear c65b0
            try clear c67
            try clear c74
            try clear c77
            try clear c77b0
            try clear c80
            try clear c80b0
            try clear c80b1
            try clear c94
            try clear hcz19_0
            try clear hcz19_1
            try clear hcz19_2
            try clear hcz19_3
            try clear hcz28_0
            try clear hcz28_1
            try clear hcz28_2
            try clear hcz28_3
            try clear hcz32_0
            try clear hcz32_1
            try clear hcz32_2
            try clear hcz32_3
            try clear hcz63_0
            try clear hcz63_1
            try clear hcz63_2
            try clear hcz63_3
            try clear hcz9_0
            try clear hcz9_1
            try clear hcz9_2
            try clear hcz9_3
            try clear hfz19_0
            try clear hfz19_1
            try clear hfz19_2
            try clear hfz19_3
            try clear hfz28_0
            try clear hfz28_1
            try clear hfz28_2
            try clear hfz28_3
            try clear hfz32_0
            try clear hfz32_1
            try clear hfz32_2
            try clear hfz32_3
            try clear hfz63_0
            try clear hfz63_1
            try clear hfz63_2
            try clear hfz63_3
            try clear hfz9_0
            try clear hfz9_1
            try clear hfz9_2
            try clear hfz9_3
            try clear p2
            obtain ⟨kq, x110_83, rfl, HA, HJ83, HO_10, HO_406002, BK380, BK405, HB⟩ := hcut
            have hl10_83 := (Kd.R_reads' HO_10.out).1
            rw [hl10_83] at HO_10
            (try simp only [hl10_83])
            (try simp only [hl10_83] at BK380)
            (try simp only [hl10_83] at BK405)
            (try simp only [hl10_83] at HO_406002)
            cases kq with
            | zero => exact absurd HA.out (by simp [laws_FnExactSendParcel.j2])
            | succ kj83 =>
              have H := HA.out
              clear HA
              simp only [laws_FnExactSendParcel.j2] at H
              by_cases c101 : x110_83 = true
              · subst c101
                have H1 : (some false) = some r := by rw [if_pos rfl] at H; exact H
                clear H
                have H := H1
                clear H1
                obtain rfl := Option.some.inj H
                go_wp2
                go_ret
                exact ⟨by first | rfl | (simp [errW_none, errW_some] <;> rfl) | (simp [*, errW_none, errW_some] <;> rfl), by repeat (first | (with_reducible first | exact HB.out | apply bA | apply bN | apply b1 | refine bS ?_ GE380.out | refine bS ?_ GE405.out) | exact HB.out)⟩
              replace c101 := Bool.eq_false_iff.mpr c101
              subst c101
              have H1 : ((laws_heldHandS.f kj83 t428 1).bind fun t444 => (if t444 < 0 then (some false) else (if t444 = t427 then (some true) else (some false)))) = some r := by rw [if_neg (show ¬ (false = true) by decide)] at H; exact H
              clear H
              have H := H1
              clear H1
              replace H := Option.bind_eq_some_iff.mp H
              obtain ⟨t444, A1020, H⟩ := H
              replace H : (if t444 < 0 then (some false) else (if t444 = t427 then (some true) else (some false))) = some r := H
              have A102 := zK A1020
              clear A1020
              by_cases c103 : t444 < 0
              · rw [if_pos c103] at H
                have c103b0 : decide (t444 < 0) = true := decide_eq_true c103
                clear c103
                obtain rfl := Option.some.inj H
                go_wp2_with (first | ((with_reducible refine gate_callee (f := 56) rfl ?_); refine goesL_ (some 113) rfl rfl Try.func56 (by kernel_rfl) rfl #[.slice Ao85 t428.length co85, .int .i64 1] rfl (by (try simp only [List.map_toArray, List.map_cons, List.map_nil]); first | done | rfl | (simp only [List.length_drop, List.length_take]; rfl)) ?_; (with_reducible refine (laws_heldHandS.calls kj83 _ _ t428 1 t444 _ ?side1 ?side2 A102.out).mono ?_); (case side1 => repeat (first | exact (Kd.R_reads' HO_10.out).2.2 | (with_reducible refine Kd.CA ?_ _) | (with_reducible refine Kd.CN ?_ _) | (with_reducible refine Kd.CD ?_))); (case side2 => exact (Kd.R_reads' HO_10.out).2.1); rintro e w' ⟨rfl, ⟨nd, rfl⟩⟩; refine ⟨_, rfl, ?_⟩))
                go_ret
                exact ⟨by first | rfl | (simp [errW_none, errW_some] <;> rfl) | (simp [*, errW_none, errW_some] <;> rfl), by repeat (first | (with_reducible first | exact HB.out | apply bA | apply bN | apply b1 | refine bS ?_ GE380.out | refine bS ?_ GE405.out) | exact HB.out)⟩
              rw [if_neg c103] at H
              have c103b0 : decide (t444 < 0) = false := decide_eq_false c103
              clear c103
              by_cases c104 : t444 = t427
              rotate_left
              · rw [if_neg c104] at H
                have c104b0 : (t444 == t427) = false := beq_eq_false_iff_ne.mpr c104
                have c104b1 : (t444 != t427) = true := bne_iff_ne.mpr c104
                obtain rfl := Option.some.inj H
                go_wp2_with (first | ((with_reducible refine gate_callee (f := 56) rfl ?_); refine goesL_ (some 113) rfl rfl Try.func56 (by kernel_rfl) rfl #[.slice Ao85 t428.length co85, .int .i64 1] rfl (by (try simp only [List.map_toArray, List.map_cons, List.map_nil]); first | done | rfl | (simp only [List.length_drop, List.length_take]; rfl)) ?_; (with_reducible refine (laws_heldHandS.calls kj83 _ _ t428 1 t444 _ ?side1 ?side2 A102.out).mono ?_); (case side1 => repeat (first | exact (Kd.R_reads' HO_10.out).2.2 | (with_reducible refine Kd.CA ?_ _) | (with_reducible refine Kd.CN ?_ _) | (with_reducible refine Kd.CD ?_))); (case side2 => exact (Kd.R_reads' HO_10.out).2.1); rintro e w' ⟨rfl, ⟨nd, rfl⟩⟩; refine ⟨_, rfl, ?_⟩))
                go_ret
                exact ⟨by first | rfl | (simp [errW_none, errW_some] <;> rfl) | (simp [*, errW_none, errW_some] <;> rfl), by repeat (first | (with_reducible first | exact HB.out | apply bA | apply bN | apply b1 | refine bS ?_ GE380.out | refine bS ?_ GE405.out) | exact HB.out)⟩
              rw [if_pos c104] at H
              have c104b0 : (t444 == t427) = true := beq_iff_eq.mpr c104
              have c104b1 : (t444 != t427) = false := bne_eq_false_iff_eq.mpr c104
              clear c104
              obtain rfl := Option.some.inj H
              go_wp2_with (first | ((with_reducible refine gate_callee (f := 56) rfl ?_); refine goesL_ (some 113) rfl rfl Try.func56 (by kernel_rfl) rfl #[.slice Ao85 t428.length co85, .int .i64 1] rfl (by (try simp only [List.map_toArray, List.map_cons, List.map_nil]); first | done | rfl | (simp only [List.length_drop, List.length_take]; rfl)) ?_; (with_reducible refine (laws_heldHandS.calls kj83 _ _ t428 1 t444 _ ?side1 ?side2 A102.out).mono ?_); (case side1 => repeat (first | exact (Kd.R_reads' HO_10.out).2.2 | (with_reducible refine Kd.CA ?_ _) | (with_reducible refine Kd.CN ?_ _) | (with_reducible refine Kd.CD ?_))); (case side2 => exact (Kd.R_reads' HO_10.out).2.1); rintro e w' ⟨rfl, ⟨nd, rfl⟩⟩; refine ⟨_, rfl, ?_⟩))
              go_ret
              exact ⟨by first | rfl | (simp [errW_none, errW_some] <;> rfl) | (simp [*, errW_none, errW_some] <;> rfl), by repeat (first | (with_reducible first | exact HB.out | apply bA | apply bN | apply b1 | refine bS ?_ GE380.out | refine bS ?_ GE405.out) | exact HB.out)⟩
end Go.Proofs.Ytejhjenlodclpaa.PFnExactSendParcel
