/- Walks of functions that FnParcels reaches: written by a tool of the kit for this claim, then shortened by a program of ours. -/
import Derived.Test.YtejhjenlodclpaaPFnParcelsx0
import Derived.Test.YtejhjenlodclpaaPFnParcelsx1
import Derived.Test.YtejhjenlodclpaaPFnParcelsx3
import Derived.Test.YtejhjenlodclpaaPFnParcelsx4
import Derived.Test.YtejhjenlodclpaaPFnParcelsx6
/- narrow -/
namespace Go.Proofs.Ytejhjenlodclpaa.PFnParcels
open Go.RowKit Go.Proofs.YtejhjenlodclpaaW.PrintWords Go.Proofs.YtejhjenlodclpaaW.PrintLast Go.Proofs.YtejhjenlodclpaaW.PrintMore
attribute [local go_sem] max2_int min2_int max_two min_two max_three min_three max_four min_four   -- for this text's walks alone
set_option linter.unusedVariables false
set_option linter.unusedSimpArgs false

abbrev b7A0 : Array Bool := #[bo, bo, bo, bo, bo, bo, bo, bo, bo, bo]
abbrev b7A1 : Array Bool := #[bi, bo, bo, bo, bo, bo, bo, bo, bo, bo]
abbrev b7A2 : Array Bool := #[bi, bo, bi, bo, bo, bo, bo, bo, bo, bo]
abbrev b7A3 : Array Bool := #[bi, bo, bi, bi, bo, bo, bo, bo, bo, bo]
abbrev b7A4 : Array Bool := #[bi, bo, bi, bi, bi, bo, bo, bo, bo, bo]
abbrev b7A5 : Array Bool := #[bi, bi, bi, bi, bi, bo, bo, bo, bo, bo]
abbrev b7A6 : Array Bool := #[bi, bi, bi, bi, bi, bi, bo, bo, bo, bo]
abbrev b7A7 : Array Bool := #[bi, bi, bi, bi, bi, bi, bi, bo, bo, bo]
abbrev b7A8 : Array Bool := #[bi, bi, bi, bi, bi, bi, bi, bi, bo, bo]
abbrev b7A9 : Array Bool := #[bi, bi, bi, bi, bi, bi, bi, bi, bi, bo]
abbrev b7A10 : Array Bool := #[bi, bi, bi, bi, bi, bi, bi, bi, bi, bi]
/-! ### spec_l22One: function 99 -/
mutual
def spec_l22One.l0 : Nat → List Int → Int → List Int → Int → Int → Int → Int → List Int → Int → Option (Int × Int × List Int × Int × Int × Int)
 | 0, _, _, _, _, _, _, _, _, _ => none
 | k + 1, x6, x7, x1000, x1001, x1002, x303000, x303001, x303002, x303003 => if x7 < (x6.length : Int) then ((spec_l1Once.f x1000 x1001 x1002 3).bind fun bt306 => (if bt306.1 = true then (spec_l22One.l0 k x6 (wrap64 (x7 + 1)) x1000 bt306.2.1 bt306.2.2 x303000 x303001 x303002 x303003) else (if 0 ≤ x7 then (if x303002.length < 17592186044416 then (spec_l22One.l0 k x6 (wrap64 (x7 + 1)) x1000 bt306.2.1 bt306.2.2 x303000 x303001 (x303002 ++ [rd x6 x7]) x303003) else (none)) else (none)))) else (if (x303002.length : Int) = 0 then (spec_l22One.j1 k true x1000 x1001 x1002 x303000 x303001 x303002 x303003) else ((spec_l1Once.f x1000 x1001 x1002 8).bind fun bt313 => (spec_l22One.j1 k bt313.1 x1000 bt313.2.1 bt313.2.2 x303000 x303001 x303002 x303003)))
def spec_l22One.j1 : Nat → Bool → List Int → Int → Int → Int → Int → List Int → Int → Option (Int × Int × List Int × Int × Int × Int)
 | 0, _, _, _, _, _, _, _, _ => none
 | k + 1, x47, x1000, x1001, x1002, x303000, x303001, x303002, x303003 => if x47 = true then ((spec_l1Int.f x1000 x1001 x1002 (([0, 2, 4, 999] : List Int))).bind fun bt319 => (spec_l22One.j2 k x1000 bt319.2.1 bt319.2.2 x303000 x303001 (([bt319.1] : List Int)) x303003)) else (spec_l22One.j2 k x1000 x1001 x1002 x303000 x303001 x303002 x303003)
def spec_l22One.j2 : Nat → List Int → Int → Int → Int → Int → List Int → Int → Option (Int × Int × List Int × Int × Int × Int)
 | 0, _, _, _, _, _, _, _ => none
 | k + 1, x1000, x1001, x1002, x303000, x303001, x303002, x303003 => (spec_l1Once.f x1000 x1001 x1002 12).bind fun bt325 => (if bt325.1 = true then ((spec_l4Raw.f x1000 bt325.2.1 bt325.2.2).bind fun bt328 => (some (x303000, x303001, x303002, bt328.1, bt328.2.1, bt328.2.2))) else (some (x303000, x303001, x303002, x303003, bt325.2.1, bt325.2.2)))
end
def spec_l22One.f (k : Nat) (s0_0 : List Int) (s0_1 : Int) (s0_2 : Int) (l1 : List (S138)) : Option (Int × Int × List Int × Int × Int × Int) := (spec_l1Below.f s0_0 s0_1 s0_2 3).bind fun bt293 => ((spec_l1Below.f s0_0 bt293.2.1 bt293.2.2 3).bind fun bt296 => ((spec_l1Below.f s0_0 bt296.2.1 bt296.2.2 20).bind fun bt299 => ((spec_InHouse.f k l1 (wrap64 (1 + bt293.1))).bind fun t303 => (spec_l22One.l0 k t303 0 s0_0 bt299.2.1 bt299.2.2 (wrap64 (1 + bt293.1)) (wrap64 (1 + bt296.1)) ([] : List Int) (wrap64 (60 + bt299.1))))))
def spec_l22One.T7 : Bool × List (List Nat × List Nat) := (true, [([], []), ([0], [0]), ([], []), ([], []), ([2, 3], [2, 3]), ([4], [4]), ([5], [5]), ([1, 6], [1, 6]), ([0, 1, 2, 3, 4, 5, 6, 7], []), ([8, 7, 7, 0, 1, 2, 3, 4, 5, 6, 7], [7, 8])])
def spec_l22One.B7 : List Nat := [0, 1, 0, 0, 12, 28, 60, 127, 255, 511]
theorem spec_l22One.tab7 : rtab .any (opsOf Try.f99 7) = spec_l22One.T7 := by kernel_rfl
theorem spec_l22One.bits7 : waitsOk spec_l22One.T7.2 spec_l22One.B7 = true := by kernel_rfl
set_option maxHeartbeats 8000000 in
set_option maxRecDepth 100000 in
theorem spec_l22One.calls (k : Nat) (g : Nat) (s0_0 : List Int) (s0_1 : Int) (s0_2 : Int) (A1 : Option Addr) (c1 : Nat) (l1 : List (S138)) (r1 : Int) (r2 : Int) (r3 : List Int) (r4 : Int) (r5 : Int) (r6 : Int) (w0 w : World) (hI : IsS173 w0 w g s0_0 s0_1 s0_2) (hB : Below w0.heap.size w0 w) (hr1 : ∀ W_, KeepBut w W_ g none → Kd.C k138 W_ A1 l1.length l1) (hc1 : l1.length ≤ c1) (h : spec_l22One.f k s0_0 s0_1 s0_2 l1 = some (r1, r2, r3, r4, r5, r6)) :
  Calls Try.prog 99 #[.pointer (some ⟨g, 0, none⟩), .slice A1 l1.length c1] w fun e w' => ∃ v2_ : Value, e = .returned (.agg #[.int .i64 r1, .int .i64 r2, v2_, .int .i64 r4]) ∧ Kd.R (Kd.int .i64) 3 w' w.heap.size (fun _ => True) v2_ r3 ∧ IsS173 w0 w' g s0_0 r5 r6 ∧ Below w0.heap.size w0 w' ∧ KeepBut w w' g none := by
 have hu53 := Try.underlying53
 have HR1 := zK hr1
 have HC1 := zK hc1
 clear hr1 hc1
 have HI0 := zK hI
 have HK := zK (KeepBut.refl w g none)
 have HL := zK hB.size
 clear hI
 have HW0 := zK hB.size
 have HB := zK hB
 clear hB
 have H : ((spec_l1Below.f s0_0 s0_1 s0_2 3).bind fun bt293 => ((spec_l1Below.f s0_0 bt293.2.1 bt293.2.2 3).bind fun bt296 => ((spec_l1Below.f s0_0 bt296.2.1 bt296.2.2 20).bind fun bt299 => ((spec_InHouse.f k l1 (wrap64 (1 + bt293.1))).bind fun t303 => (spec_l22One.l0 k t303 0 s0_0 bt299.2.1 bt299.2.2 (wrap64 (1 + bt293.1)) (wrap64 (1 + bt296.1)) ([] : List Int) (wrap64 (60 + bt299.1))))))) = some (r1, r2, r3, r4, r5, r6) := h
 clear h
 replace H := Option.bind_eq_some_iff.mp H
 obtain ⟨⟨t293, t294, t295⟩, A30, H⟩ := H
 replace H : ((spec_l1Below.f s0_0 t294 t295 3).bind fun bt296 => ((spec_l1Below.f s0_0 bt296.2.1 bt296.2.2 20).bind fun bt299 => ((spec_InHouse.f k l1 (wrap64 (1 + t293))).bind fun t303 => (spec_l22One.l0 k t303 0 s0_0 bt299.2.1 bt299.2.2 (wrap64 (1 + t293)) (wrap64 (1 + bt296.1)) ([] : List Int) (wrap64 (60 + bt299.1)))))) = some (r1, r2, r3, r4, r5, r6) := H
 have A3 := zK A30
 clear A30
 replace H := Option.bind_eq_some_iff.mp H
 obtain ⟨⟨t296, t297, t298⟩, A40, H⟩ := H
 replace H : ((spec_l1Below.f s0_0 t297 t298 20).bind fun bt299 => ((spec_InHouse.f k l1 (wrap64 (1 + t293))).bind fun t303 => (spec_l22One.l0 k t303 0 s0_0 bt299.2.1 bt299.2.2 (wrap64 (1 + t293)) (wrap64 (1 + t296)) ([] : List Int) (wrap64 (60 + bt299.1))))) = some (r1, r2, r3, r4, r5, r6) := H
 have A4 := zK A40
 clear A40
 replace H := Option.bind_eq_some_iff.mp H
 obtain ⟨⟨t299, t300, t301⟩, A50, H⟩ := H
 replace H : ((spec_InHouse.f k l1 (wrap64 (1 + t293))).bind fun t303 => (spec_l22One.l0 k t303 0 s0_0 t300 t301 (wrap64 (1 + t293)) (wrap64 (1 + t296)) ([] : List Int) (wrap64 (60 + t299)))) = some (r1, r2, r3, r4, r5, r6) := H
 have A5 := zK A50
 clear A50
 replace H := Option.bind_eq_some_iff.mp H
 obtain ⟨t303, A60, H⟩ := H
 replace H : (spec_l22One.l0 k t303 0 s0_0 t300 t301 (wrap64 (1 + t293)) (wrap64 (1 + t296)) ([] : List Int) (wrap64 (60 + t299))) = some (r1, r2, r3, r4, r5, r6) := H
 have A6 := zK A60
 clear A60
 have H' := zK H
 clear H
 go_enter Try.func99, Try.ntmps99
 go_wp2_with (first | ((with_reducible refine gate_dst (N := 4) rfl ?_); refine box_event ?hg (N := 4) ?hd (cs := #[.int .i64 0, .int .i64 0, .slice none 0 0, .int .i64 0]) (t := 53) ?hr ?_; (case hd => rfl); (case hg => rfl); (case hr => first | (go_simp; done) | (go_simp; rfl)); intro gb292 hg w7 hbox hb; have n0_ := zK (IsS173.below (by repeat (first | (with_reducible first | exact HI0.out | apply IsS173.alloc | apply IsS173.drewN | apply IsS173.drew | apply IsS173.set_1 | apply IsS173.set_2) | exact HI0.out)) hb); have n1_ := zK (KeepBut.trans (by repeat (first | (with_reducible first | exact HK.out | apply KeepBut.set_ | apply keep_drewN | apply keep_drew | apply keep_alloc) | exact HK.out)) (KeepBut.of_below hb g none) (.inl rfl)); have n2_ := zK (bT (by repeat (first | (with_reducible first | exact HB.out | apply bA | apply bN | apply b1 | refine bS ?_ (IsS173.ge HI0.out)) | exact HB.out)) hb); have n3_ := zK (hbox); have n4_ := zK ((by rw [hg]; exact (keep_size (w := w) (g := g) (row := none) (by repeat (first | (with_reducible first | exact HK.out | apply KeepBut.set_ | apply keep_drewN | apply keep_drew | apply keep_alloc) | exact HK.out))) : w.heap.size ≤ gb292)); have n5_ := zK ((Nat.le_trans HW0.out (by rw [hg]; exact (keep_size (w := w) (g := g) (row := none) (by repeat (first | (with_reducible first | exact HK.out | apply KeepBut.set_ | apply keep_drewN | apply keep_drew | apply keep_alloc) | exact HK.out))) : w.heap.size ≤ gb292) : w0.heap.size ≤ gb292)); have n6_ := zK ((by rw [hg]; exact Nat.ne_of_lt (IsS173.lt (show IsS173 w0 _ g s0_0 s0_1 s0_2 from by repeat (first | (with_reducible first | exact HI0.out | apply IsS173.alloc | apply IsS173.drewN | apply IsS173.drew | apply IsS173.set_1 | apply IsS173.set_2) | exact HI0.out))) : g ≠ gb292)); have n7_ := zK ((by rw [hg]; exact Nat.ne_of_gt (IsS173.lt (show IsS173 w0 _ g s0_0 s0_1 s0_2 from by repeat (first | (with_reducible first | exact HI0.out | apply IsS173.alloc | apply IsS173.drewN | apply IsS173.drew | apply IsS173.set_1 | apply IsS173.set_2) | exact HI0.out))) : gb292 ≠ g)); clear HI0; clear HK; clear HB; have HI0 := n0_; have HK := n1_; have HB := n2_; have BK292 := n3_; have GW292 := n4_; have GE292 := n5_; have NB0_292 := n6_; have NB292_0 := n7_; clear n0_ n1_ n2_ n3_ n4_ n5_ n6_ n7_; clear hb hbox hg) | ((with_reducible refine gate_callee (f := 108) rfl ?_); refine goesL_ (some 9) rfl rfl Try.func108 (by kernel_rfl) rfl #[.pointer (some ⟨g, 0, none⟩), .int .i64 3] rfl (by (try simp only [List.map_toArray, List.map_cons, List.map_nil]); first | done | rfl | (simp only [List.length_drop, List.length_take]; rfl)) ?_; (with_reducible refine (spec_l1Below.calls g s0_0 s0_1 s0_2 3 t293 t294 t295 w0 _ ?side1 ?side2 A3.out).mono ?_); (case side1 => repeat (first | (with_reducible first | exact HI0.out | apply IsS173.alloc | apply IsS173.drewN | apply IsS173.drew | apply IsS173.set_1 | apply IsS173.set_2 | refine IsS173.far ?_ NB0_292.out _) | exact HI0.out)); (case side2 => repeat (first | (with_reducible first | exact HB.out | apply bA | apply bN | apply b1 | refine bS ?_ (IsS173.ge HI0.out) | refine bS ?_ GE292.out) | exact HB.out)); rintro e w8 ⟨rfl, hi, hb, hk⟩; refine ⟨_, rfl, ?_⟩; have n0_ := zK (KeepBut.blk hk (g' := gb292) (o := .cells #[.int .i64 0, .int .i64 0, .slice none 0 0, .int .i64 0] 53 (0, 0)) (by (with_reducible repeat (first | refine kN ?_ _ | refine kD ?_ | refine kA ?_ _)); exact BK292.out) NB292_0.out (by simp)); have n1_ := zK (KeepBut.trans (by repeat (first | (with_reducible first | exact HK.out | apply KeepBut.set_ | apply keep_drewN | apply keep_drew | apply keep_alloc | refine keep_far ?_ GW292.out _) | exact HK.out)) hk (.inl rfl)); have n2_ := zK (hb); have n3_ := zK (hi); clear BK292; clear HK; clear HB; clear HI0; have BK292 := n0_; have HK := n1_; have HB := n2_; have HI0 := n3_; clear n0_ n1_ n2_ n3_; (try clear hb); (try clear hb2); (try clear hk); (try clear hi)) | ((with_reducible refine gate_callee (f := 108) rfl ?_); refine goesL_ (some 12) rfl rfl Try.func108 (by kernel_rfl) rfl #[.pointer (some ⟨g, 0, none⟩), .int .i64 3] rfl (by (try simp only [List.map_toArray, List.map_cons, List.map_nil]); first | done | rfl | (simp only [List.length_drop, List.length_take]; rfl)) ?_; (with_reducible refine (spec_l1Below.calls g s0_0 t294 t295 3 t296 t297 t298 w0 _ ?side1 ?side2 A4.out).mono ?_); (case side1 => repeat (first | (with_reducible first | exact HI0.out | apply IsS173.alloc | apply IsS173.drewN | apply IsS173.drew | apply IsS173.set_1 | apply IsS173.set_2 | refine IsS173.far ?_ NB0_292.out _) | exact HI0.out)); (case side2 => repeat (first | (with_reducible first | exact HB.out | apply bA | apply bN | apply b1 | refine bS ?_ (IsS173.ge HI0.out) | refine bS ?_ GE292.out) | exact HB.out)); rintro e w9 ⟨rfl, hi, hb, hk⟩; refine ⟨_, rfl, ?_⟩; have n0_ := zK (KeepBut.blk hk (g' := gb292) (o := .cells #[.int .i64 0, .int .i64 0, .slice none 0 0, .int .i64 0] 53 (0, 0)) (by (with_reducible repeat (first | refine kN ?_ _ | refine kD ?_ | refine kA ?_ _)); exact BK292.out) NB292_0.out (by simp)); have n1_ := zK (KeepBut.trans (by repeat (first | (with_reducible first | exact HK.out | apply KeepBut.set_ | apply keep_drewN | apply keep_drew | apply keep_alloc | refine keep_far ?_ GW292.out _) | exact HK.out)) hk (.inl rfl)); have n2_ := zK (hb); have n3_ := zK (hi); clear BK292; clear HK; clear HB; clear HI0; have BK292 := n0_; have HK := n1_; have HB := n2_; have HI0 := n3_; clear n0_ n1_ n2_ n3_; (try clear hb); (try clear hb2); (try clear hk); (try clear hi)) | ((with_reducible refine gate_callee (f := 108) rfl ?_); refine goesL_ (some 15) rfl rfl Try.func108 (by kernel_rfl) rfl #[.pointer (some ⟨g, 0, none⟩), .int .i64 20] rfl (by (try simp only [List.map_toArray, List.map_cons, List.map_nil]); first | done | rfl | (simp only [List.length_drop, List.length_take]; rfl)) ?_; (with_reducible refine (spec_l1Below.calls g s0_0 t297 t298 20 t299 t300 t301 w0 _ ?side1 ?side2 A5.out).mono ?_); (case side1 => repeat (first | (with_reducible first | exact HI0.out | apply IsS173.alloc | apply IsS173.drewN | apply IsS173.drew | apply IsS173.set_1 | apply IsS173.set_2 | refine IsS173.far ?_ NB0_292.out _) | exact HI0.out)); (case side2 => repeat (first | (with_reducible first | exact HB.out | apply bA | apply bN | apply b1 | refine bS ?_ (IsS173.ge HI0.out) | refine bS ?_ GE292.out) | exact HB.out)); rintro e w10 ⟨rfl, hi, hb, hk⟩; refine ⟨_, rfl, ?_⟩; have n0_ := zK (KeepBut.blk hk (g' := gb292) (o := .cells #[.int .i64 0, .int .i64 0, .slice none 0 0, .int .i64 0] 53 (0, 0)) (by (with_reducible repeat (first | refine kN ?_ _ | refine kD ?_ | refine kA ?_ _)); exact BK292.out) NB292_0.out (by simp)); have n1_ := zK (KeepBut.trans (by repeat (first | (with_reducible first | exact HK.out | apply KeepBut.set_ | apply keep_drewN | apply keep_drew | apply keep_alloc | refine keep_far ?_ GW292.out _) | exact HK.out)) hk (.inl rfl)); have n2_ := zK (hb); have n3_ := zK (hi); clear BK292; clear HK; clear HB; clear HI0; have BK292 := n0_; have HK := n1_; have HB := n2_; have HI0 := n3_; clear n0_ n1_ n2_ n3_; (try clear hb); (try clear hb2); (try clear hk); (try clear hi)) | ((with_reducible refine gate_dst (N := 5) rfl ?_); refine box_event ?hg (N := 5) ?hd (cs := #[.int .i64 0, .int .i64 0, .slice none 0 0, .int .i64 0]) (t := 53) ?hr ?_; (case hd => rfl); (case hg => rfl); (case hr => first | (go_simp; done) | (go_simp; rfl)); intro gb302 hg w11 hbox hb; have n0_ := zK (IsS173.below (by repeat (first | (with_reducible first | exact HI0.out | apply IsS173.alloc | apply IsS173.drewN | apply IsS173.drew | apply IsS173.set_1 | apply IsS173.set_2 | refine IsS173.far ?_ NB0_292.out _) | exact HI0.out)) hb); have n1_ := zK (bB (g := gb292) (o := .cells #[.int .i64 0, .int .i64 0, .slice none 0 0, .int .i64 0] 53 (0, 0)) (by (with_reducible repeat (first | refine kN ?_ _ | refine kD ?_ | refine kA ?_ _)); exact BK292.out) hb); have n2_ := zK (KeepBut.trans (by repeat (first | (with_reducible first | exact HK.out | apply KeepBut.set_ | apply keep_drewN | apply keep_drew | apply keep_alloc | refine keep_far ?_ GW292.out _) | exact HK.out)) (KeepBut.of_below hb g none) (.inl rfl)); have n3_ := zK (bT (by repeat (first | (with_reducible first | exact HB.out | apply bA | apply bN | apply b1 | refine bS ?_ (IsS173.ge HI0.out) | refine bS ?_ GE292.out) | exact HB.out)) hb); have n4_ := zK (hbox); have n5_ := zK ((by rw [hg]; exact (keep_size (w := w) (g := g) (row := none) (by repeat (first | (with_reducible first | exact HK.out | apply KeepBut.set_ | apply keep_drewN | apply keep_drew | apply keep_alloc | refine keep_far ?_ GW292.out _) | exact HK.out))) : w.heap.size ≤ gb302)); have n6_ := zK ((Nat.le_trans HW0.out (by rw [hg]; exact (keep_size (w := w) (g := g) (row := none) (by repeat (first | (with_reducible first | exact HK.out | apply KeepBut.set_ | apply keep_drewN | apply keep_drew | apply keep_alloc | refine keep_far ?_ GW292.out _) | exact HK.out))) : w.heap.size ≤ gb302) : w0.heap.size ≤ gb302)); have n7_ := zK ((by rw [hg]; exact Nat.ne_of_lt (blk_lt (g := gb292) (o := .cells #[.int .i64 0, .int .i64 0, .slice none 0 0, .int .i64 0] 53 (0, 0)) (by (with_reducible repeat (first | refine kN ?_ _ | refine kD ?_ | refine kA ?_ _)); exact BK292.out)) : gb292 ≠ gb302)); have n8_ := zK ((by rw [hg]; exact Nat.ne_of_gt (blk_lt (g := gb292) (o := .cells #[.int .i64 0, .int .i64 0, .slice none 0 0, .int .i64 0] 53 (0, 0)) (by (with_reducible repeat (first | refine kN ?_ _ | refine kD ?_ | refine kA ?_ _)); exact BK292.out)) : gb302 ≠ gb292)); have n9_ := zK ((by rw [hg]; exact Nat.ne_of_lt (IsS173.lt (show IsS173 w0 _ g s0_0 t300 t301 from by repeat (first | (with_reducible first | exact HI0.out | apply IsS173.alloc | apply IsS173.drewN | apply IsS173.drew | apply IsS173.set_1 | apply IsS173.set_2 | refine IsS173.far ?_ NB0_292.out _) | exact HI0.out))) : g ≠ gb302)); have n10_ := zK ((by rw [hg]; exact Nat.ne_of_gt (IsS173.lt (show IsS173 w0 _ g s0_0 t300 t301 from by repeat (first | (with_reducible first | exact HI0.out | apply IsS173.alloc | apply IsS173.drewN | apply IsS173.drew | apply IsS173.set_1 | apply IsS173.set_2 | refine IsS173.far ?_ NB0_292.out _) | exact HI0.out))) : gb302 ≠ g)); clear HI0; clear BK292; clear HK; clear HB; have HI0 := n0_; have BK292 := n1_; have HK := n2_; have HB := n3_; have BK302 := n4_; have GW302 := n5_; have GE302 := n6_; have NB292_302 := n7_; have NB302_292 := n8_; have NB0_302 := n9_; have NB302_0 := n10_; clear n0_ n1_ n2_ n3_ n4_ n5_ n6_ n7_ n8_ n9_ n10_; clear hb hbox hg; have hnb12 := NB302_292.out; have hnc12 := NB292_302.out; have hnb13 := NB302_0.out; have hnc13 := NB0_302.out; have hcz14_0 : w11.cell? ⟨gb302, 0, none⟩ = some (.int .i64 0) := (bc BK302.out 0).trans rfl; have hcz14_1 : w11.cell? ⟨gb302, 1, none⟩ = some (.int .i64 0) := (bc BK302.out 1).trans rfl; have hcz14_2 : w11.cell? ⟨gb302, 2, none⟩ = some (.slice none 0 0) := (bc BK302.out 2).trans rfl; have hcz14_3 : w11.cell? ⟨gb302, 3, none⟩ = some (.int .i64 0) := (bc BK302.out 3).trans rfl; have hfz14_0 := bf BK302.out 0; have hfz14_1 := bf BK302.out 1; have hfz14_2 := bf BK302.out 2; have hfz14_3 := bf BK302.out 3) | ((with_reducible refine gate_callee (f := 110) rfl ?_); refine goesL_ (some 21) rfl rfl Try.func110 (by kernel_rfl) rfl #[.slice A1 l1.length c1, .int .i64 (wrap64 (1 + t293))] rfl (by (try simp only [List.map_toArray, List.map_cons, List.map_nil]); first | done | rfl | (simp only [List.length_drop, List.length_take]; rfl)) ?_; (with_reducible refine (spec_InHouse.calls k _ _ l1 (wrap64 (1 + t293)) t303 _ ?side1 ?side2 A6.out).mono ?_); (case side1 => exact Kd.C_foot_now HR1.out (by repeat (first | (with_reducible first | exact HK.out | apply KeepBut.set_ | apply keep_drewN | apply keep_drew | apply keep_alloc | refine keep_far ?_ GW292.out _ | refine keep_far ?_ GW302.out _) | exact HK.out))); (case side2 => exact HC1.out); rintro e w15 ⟨v304, rfl, ho0, hb⟩; refine ⟨_, rfl, ?_⟩; have n0_ := zK (Kd.R_lower ho0 (keep_size (w := w) (g := g) (row := none) (by repeat (first | (with_reducible first | exact HK.out | apply KeepBut.set_ | apply keep_drewN | apply keep_drew | apply keep_alloc | refine keep_far ?_ GW292.out _ | refine keep_far ?_ GW302.out _) | exact HK.out)))); have n1_ := zK (IsS173.below (show IsS173 w0 ((((w11.setCell ⟨gb302, 0, none⟩ (.int .i64 (wrap64 (1 + t293)))).setCell ⟨gb302, 1, none⟩ (.int .i64 (wrap64 (1 + t296)))).setCell ⟨gb302, 2, none⟩ (.slice none 0 0)).setCell ⟨gb302, 3, none⟩ (.int .i64 (wrap64 (60 + t299)))) g s0_0 t300 t301 from by repeat (first | (with_reducible first | exact HI0.out | apply IsS173.alloc | apply IsS173.drewN | apply IsS173.drew | apply IsS173.set_1 | apply IsS173.set_2 | refine IsS173.far ?_ NB0_292.out _ | refine IsS173.far ?_ NB0_302.out _) | exact HI0.out)) hb); have n2_ := zK (bB (g := gb292) (o := .cells #[.int .i64 0, .int .i64 0, .slice none 0 0, .int .i64 0] 53 (0, 0)) (by (with_reducible repeat (first | refine kN ?_ _ | refine kD ?_ | refine kA ?_ _)); refine blk_far ?_ NB292_302.out _; (with_reducible repeat (first | refine kN ?_ _ | refine kD ?_ | refine kA ?_ _)); refine blk_far ?_ NB292_302.out _; (with_reducible repeat (first | refine kN ?_ _ | refine kD ?_ | refine kA ?_ _)); refine blk_far ?_ NB292_302.out _; (with_reducible repeat (first | refine kN ?_ _ | refine kD ?_ | refine kA ?_ _)); refine blk_far ?_ NB292_302.out _; (with_reducible repeat (first | refine kN ?_ _ | refine kD ?_ | refine kA ?_ _)); exact BK292.out) hb); have n3_ := zK (bB (g := gb302) (o := .cells #[.int .i64 (wrap64 (1 + t293)), .int .i64 (wrap64 (1 + t296)), .slice none 0 0, .int .i64 (wrap64 (60 + t299))] 53 (0, 0)) (by (with_reducible repeat (first | refine kN ?_ _ | refine kD ?_ | refine kA ?_ _)); refine blk_put (cs := #[.int .i64 (wrap64 (1 + t293)), .int .i64 (wrap64 (1 + t296)), .slice none 0 0, .int .i64 0]) ?_ 3 _ rfl; (with_reducible repeat (first | refine kN ?_ _ | refine kD ?_ | refine kA ?_ _)); refine blk_put (cs := #[.int .i64 (wrap64 (1 + t293)), .int .i64 (wrap64 (1 + t296)), .slice none 0 0, .int .i64 0]) ?_ 2 _ rfl; (with_reducible repeat (first | refine kN ?_ _ | refine kD ?_ | refine kA ?_ _)); refine blk_put (cs := #[.int .i64 (wrap64 (1 + t293)), .int .i64 0, .slice none 0 0, .int .i64 0]) ?_ 1 _ rfl; (with_reducible repeat (first | refine kN ?_ _ | refine kD ?_ | refine kA ?_ _)); refine blk_put (cs := #[.int .i64 0, .int .i64 0, .slice none 0 0, .int .i64 0]) ?_ 0 _ rfl; (with_reducible repeat (first | refine kN ?_ _ | refine kD ?_ | refine kA ?_ _)); exact BK302.out) hb); have n4_ := zK (KeepBut.trans (by repeat (first | (with_reducible first | exact HK.out | apply KeepBut.set_ | apply keep_drewN | apply keep_drew | apply keep_alloc | refine keep_far ?_ GW292.out _ | refine keep_far ?_ GW302.out _) | exact HK.out)) (KeepBut.of_below hb g none) (.inl rfl)); have n5_ := zK (bT (by repeat (first | (with_reducible first | exact HB.out | apply bA | apply bN | apply b1 | refine bS ?_ (IsS173.ge HI0.out) | refine bS ?_ GE292.out | refine bS ?_ GE302.out) | exact HB.out)) hb); clear HI0; clear BK292; clear BK302; clear HK; clear HB; have HO305 := n0_; have HI0 := n1_; have BK292 := n2_; have BK302 := n3_; have HK := n4_; have HB := n5_; clear n0_ n1_ n2_ n3_ n4_ n5_; (try clear hb); (try clear hb2); (try clear hk); (try clear hi); (try clear ho0)))
 go_loopg [7] k (fun kq v7 w' => ∃ (x7_1 : Int) (x1001_1 : Int) (x1002_1 : Int) (x303002_1 : List Int) (u303002 : Value), v7 = .int .i64 x7_1 ∧ Aside0 (spec_l22One.l0 kq t303 x7_1 s0_0 x1001_1 x1002_1 (wrap64 (1 + t293)) (wrap64 (1 + t296)) x303002_1 (wrap64 (60 + t299)) = some (r1, r2, r3, r4, r5, r6)) ∧ Aside0 (kq ≤ k) ∧ Aside0 (Kd.R (Kd.int .i64) 3 w' w.heap.size (fun k_ => some k_ ≠ (u303002 : Value).ownBlock) v304 t303) ∧ Aside0 (Kd.R (Kd.int .i64) 3 w' w.heap.size (fun k_ => some k_ ≠ (v304 : Value).ownBlock) u303002 x303002_1) ∧ Aside0 (w'.heap[gb292]? = some (.cells #[.int .i64 0, .int .i64 0, (.slice none 0 0), .int .i64 0] 53 (0, 0))) ∧ Aside0 (w'.heap[gb302]? = some (.cells #[.int .i64 (wrap64 (1 + t293)), .int .i64 (wrap64 (1 + t296)), u303002, .int .i64 (wrap64 (60 + t299))] 53 (0, 0))) ∧ Aside0 (IsS173 w0 w' g s0_0 x1001_1 x1002_1) ∧ Aside0 (KeepBut w w' g none) ∧ Aside0 (Below w0.heap.size w0 w'))
 case atStart => exact ⟨(0), (t300), (t301), (([] : List Int)), (.slice none 0 0), (by first | rfl | (simp; done) | (simp [*]; done)), H', ⟨Nat.le_refl _⟩, ⟨by (with_reducible repeat (first | apply Kd.RA | apply Kd.RN | apply Kd.RD)); exact Kd.R_mono HO305.out (fun _ hk => (by simp [Value.ownBlock]))⟩, ⟨by first | exact Kd.R_nil _ _ _ _ _ | exact Kd.N_nil _ _ _ _ _ | exact Kd.V_nil _ _ _ _ _ | exact Kd.Q_nil _ _ _ _ _ | exact Kd.S_nil _ _ _ _ _⟩, ⟨by (with_reducible repeat (first | refine kN ?_ _ | refine kD ?_ | refine kA ?_ _)); exact BK292.out⟩, ⟨by (with_reducible repeat (first | refine kN ?_ _ | refine kD ?_ | refine kA ?_ _)); exact BK302.out⟩, ⟨by repeat (first | (with_reducible first | exact HI0.out | apply IsS173.alloc | apply IsS173.drewN | apply IsS173.drew | apply IsS173.set_1 | apply IsS173.set_2 | refine IsS173.far ?_ NB0_292.out _ | refine IsS173.far ?_ NB0_302.out _) | exact HI0.out)⟩, ⟨by repeat (first | (with_reducible first | exact HK.out | apply KeepBut.set_ | apply keep_drewN | apply keep_drew | apply keep_alloc | refine keep_far ?_ GW292.out _ | refine keep_far ?_ GW302.out _) | exact HK.out)⟩, ⟨by repeat (first | (with_reducible first | exact HB.out | apply bA | apply bN | apply b1 | refine bS ?_ (IsS173.ge HI0.out) | refine bS ?_ GE292.out | refine bS ?_ GE302.out) | exact HB.out)⟩⟩
 case round =>
  clear H'
  try clear c1
  try clear p2
  try clear p6
  try clear c9
  try clear c10
  try clear c11
  try clear c12
  try clear c13
  try clear hcz14_0
  try clear hcz14_1
  try clear hcz14_2
  try clear hcz14_3
  try clear hfz14_0
  try clear hfz14_1
  try clear hfz14_2
  try clear hfz14_3
  obtain ⟨x7_1, x1001_1, x1002_1, x303002_1, u303002, rfl, HA, HK1, HO_6, HO_303002, BK292, BK302, HI0, HK, HB⟩ := hrel
  cases gk with
  | zero => exact absurd HA.out (by simp [spec_l22One.l0])
  | succ k1 =>
   have H := HA.out
   clear HA
   simp only [spec_l22One.l0] at H
   by_cases c16 : x7_1 < (t303.length : Int)
   ·rw [if_pos c16] at H
    have c16b0 : decide (x7_1 < (t303.length : Int)) = true := decide_eq_true c16
    clear c16
    replace H := Option.bind_eq_some_iff.mp H
    obtain ⟨⟨t306, t307, t308⟩, A170, H⟩ := H
    replace H : (if t306 = true then (spec_l22One.l0 k1 t303 (wrap64 (x7_1 + 1)) s0_0 t307 t308 (wrap64 (1 + t293)) (wrap64 (1 + t296)) x303002_1 (wrap64 (60 + t299))) else (if 0 ≤ x7_1 then (if x303002_1.length < 17592186044416 then (spec_l22One.l0 k1 t303 (wrap64 (x7_1 + 1)) s0_0 t307 t308 (wrap64 (1 + t293)) (wrap64 (1 + t296)) (x303002_1 ++ [rd t303 x7_1]) (wrap64 (60 + t299))) else (none)) else (none))) = some (r1, r2, r3, r4, r5, r6) := H
    have A17 := zK A170
    clear A170
    by_cases c18 : t306 = true
    ·subst c18
     have H1 : (spec_l22One.l0 k1 t303 (wrap64 (x7_1 + 1)) s0_0 t307 t308 (wrap64 (1 + t293)) (wrap64 (1 + t296)) x303002_1 (wrap64 (60 + t299))) = some (r1, r2, r3, r4, r5, r6) := by rw [if_pos rfl] at H; exact H
     clear H
     have H := H1
     clear H1
     have H' := zK H
     clear H
     obtain ⟨Ao19, co19, eo19⟩ := Kd.R_slice HO_6.out
     subst eo19
     go_wp2_with (first | ((with_reducible refine gate_callee (f := 147) rfl ?_); refine goesL_ (some 29) rfl rfl Try.func147 (by kernel_rfl) rfl #[.pointer (some ⟨g, 0, none⟩), .int .i64 3] rfl (by (try simp only [List.map_toArray, List.map_cons, List.map_nil]); first | done | rfl | (simp only [List.length_drop, List.length_take]; rfl)) ?_; (with_reducible refine (spec_l1Once.calls g s0_0 x1001_1 x1002_1 3 true t307 t308 w0 _ ?side1 ?side2 A17.out).mono ?_); (case side1 => repeat (first | (with_reducible first | exact HI0.out | apply IsS173.alloc | apply IsS173.drewN | apply IsS173.drew | apply IsS173.set_1 | apply IsS173.set_2 | refine IsS173.far ?_ NB0_292.out _ | refine IsS173.far ?_ NB0_302.out _) | exact HI0.out)); (case side2 => repeat (first | (with_reducible first | exact HB.out | apply bA | apply bN | apply b1 | refine bS ?_ (IsS173.ge HI0.out) | refine bS ?_ GE292.out | refine bS ?_ GE302.out) | exact HB.out)); rintro e w20 ⟨rfl, hi, hb, hk⟩; refine ⟨_, rfl, ?_⟩; have n0_ := zK (Kd.R_mono (Kd.R_keep (IsS173.apart (show IsS173 w0 _ g s0_0 x1001_1 x1002_1 from by repeat (first | (with_reducible first | exact HI0.out | apply IsS173.alloc | apply IsS173.drewN | apply IsS173.drew | apply IsS173.set_1 | apply IsS173.set_2 | refine IsS173.far ?_ NB0_292.out _ | refine IsS173.far ?_ NB0_302.out _) | exact HI0.out)) (by (with_reducible repeat (first | apply Kd.RA | apply Kd.RN | apply Kd.RD)); exact HO_6.out) (by decide)) hk (fun _ h => h.2)) (fun _ h => h.1)); have n1_ := zK (Kd.R_mono (Kd.R_keep (IsS173.apart (show IsS173 w0 _ g s0_0 x1001_1 x1002_1 from by repeat (first | (with_reducible first | exact HI0.out | apply IsS173.alloc | apply IsS173.drewN | apply IsS173.drew | apply IsS173.set_1 | apply IsS173.set_2 | refine IsS173.far ?_ NB0_292.out _ | refine IsS173.far ?_ NB0_302.out _) | exact HI0.out)) (by (with_reducible repeat (first | apply Kd.RA | apply Kd.RN | apply Kd.RD)); exact HO_303002.out) (by decide)) hk (fun _ h => h.2)) (fun _ h => h.1)); have n2_ := zK (KeepBut.blk hk (g' := gb292) (o := .cells #[.int .i64 0, .int .i64 0, .slice none 0 0, .int .i64 0] 53 (0, 0)) (by (with_reducible repeat (first | refine kN ?_ _ | refine kD ?_ | refine kA ?_ _)); exact BK292.out) NB292_0.out (by simp)); have n3_ := zK (KeepBut.blk hk (g' := gb302) (o := .cells #[.int .i64 (wrap64 (1 + t293)), .int .i64 (wrap64 (1 + t296)), u303002, .int .i64 (wrap64 (60 + t299))] 53 (0, 0)) (by (with_reducible repeat (first | refine kN ?_ _ | refine kD ?_ | refine kA ?_ _)); exact BK302.out) NB302_0.out (by simp)); have n4_ := zK (KeepBut.trans (by repeat (first | (with_reducible first | exact HK.out | apply KeepBut.set_ | apply keep_drewN | apply keep_drew | apply keep_alloc | refine keep_far ?_ GW292.out _ | refine keep_far ?_ GW302.out _) | exact HK.out)) hk (.inl rfl)); have n5_ := zK (hb); have n6_ := zK (hi); clear HO_6; clear HO_303002; clear BK292; clear BK302; clear HK; clear HB; clear HI0; have HO_6 := n0_; have HO_303002 := n1_; have BK292 := n2_; have BK302 := n3_; have HK := n4_; have HB := n5_; have HI0 := n6_; clear n0_ n1_ n2_ n3_ n4_ n5_ n6_; (try clear hb); (try clear hb2); (try clear hk); (try clear hi)))
     go_roundg k1
     case measure => have := HK1.out; omega
     case rel => exact ⟨(wrap64 (x7_1 + 1)), (t307), (t308), (x303002_1), (u303002), (by first | rfl | (simp; done) | (simp [*]; done)), H', ⟨by have := HK1.out; omega⟩, ⟨by (with_reducible repeat (first | apply Kd.RA | apply Kd.RN | apply Kd.RD)); exact HO_6.out⟩, ⟨by (with_reducible repeat (first | apply Kd.RA | apply Kd.RN | apply Kd.RD)); exact HO_303002.out⟩, ⟨by (with_reducible repeat (first | refine kN ?_ _ | refine kD ?_ | refine kA ?_ _)); exact BK292.out⟩, ⟨by (with_reducible repeat (first | refine kN ?_ _ | refine kD ?_ | refine kA ?_ _)); exact BK302.out⟩, ⟨by repeat (first | (with_reducible first | exact HI0.out | apply IsS173.alloc | apply IsS173.drewN | apply IsS173.drew | apply IsS173.set_1 | apply IsS173.set_2 | refine IsS173.far ?_ NB0_292.out _ | refine IsS173.far ?_ NB0_302.out _) | exact HI0.out)⟩, ⟨by repeat (first | (with_reducible first | exact HK.out | apply KeepBut.set_ | apply keep_drewN | apply keep_drew | apply keep_alloc | refine keep_far ?_ GW292.out _ | refine keep_far ?_ GW302.out _) | exact HK.out)⟩, ⟨by repeat (first | (with_reducible first | exact HB.out | apply bA | apply bN | apply b1 | refine bS ?_ (IsS173.ge HI0.out) | refine bS ?_ GE292.out | refine bS ?_ GE302.out) | exact HB.out)⟩⟩
    replace c18 := Bool.eq_false_iff.mpr c18
    subst c18
    have H1 : (if 0 ≤ x7_1 then (if x303002_1.length < 17592186044416 then (spec_l22One.l0 k1 t303 (wrap64 (x7_1 + 1)) s0_0 t307 t308 (wrap64 (1 + t293)) (wrap64 (1 + t296)) (x303002_1 ++ [rd t303 x7_1]) (wrap64 (60 + t299))) else (none)) else (none)) = some (r1, r2, r3, r4, r5, r6) := by rw [if_neg (show ¬ (false = true) by decide)] at H; exact H
    clear H
    have H := H1
    clear H1
    by_cases c21 : 0 ≤ x7_1
    rotate_left
    ·rw [if_neg c21] at H
     exact absurd H (by simp)
    rw [if_pos c21] at H
    have c21b0 : decide (0 ≤ x7_1) = true := decide_eq_true c21
    clear c21
    by_cases c22 : x303002_1.length < 17592186044416
    rotate_left
    ·rw [if_neg c22] at H
     exact absurd H (by simp)
    rw [if_pos c22] at H
    have LMc22 := zK c22
    clear c22
    obtain ⟨y310, hy310⟩ : ∃ y_ : List Int, y_ = (x303002_1 ++ [rd t303 x7_1]) := ⟨_, rfl⟩
    replace H : (spec_l22One.l0 k1 t303 (wrap64 (x7_1 + 1)) s0_0 t307 t308 (wrap64 (1 + t293)) (wrap64 (1 + t296)) y310 (wrap64 (60 + t299))) = some (r1, r2, r3, r4, r5, r6) := by first | (rw [hy310]; with_reducible exact H) | (have H2_ := (Option.bind_some _ _).symm.trans H; rw [hy310]; with_reducible exact H2_) | (have H2_ := (Option.bind_some _ _).symm.trans H; with_reducible exact H2_) | with_reducible exact H | (rw [hy310]; exact H) | exact H
    have Ny310 := zK hy310
    clear hy310
    have H' := zK H
    clear H
    obtain ⟨Ao23, co23, eo23⟩ := Kd.R_slice HO_6.out
    subst eo23
    try go_wp2_with (first | ((with_reducible refine gate_callee (f := 147) rfl ?_); refine goesL_ (some 29) rfl rfl Try.func147 (by kernel_rfl) rfl #[.pointer (some ⟨g, 0, none⟩), .int .i64 3] rfl (by (try simp only [List.map_toArray, List.map_cons, List.map_nil]); first | done | rfl | (simp only [List.length_drop, List.length_take]; rfl)) ?_; (with_reducible refine (spec_l1Once.calls g s0_0 x1001_1 x1002_1 3 false t307 t308 w0 _ ?side1 ?side2 A17.out).mono ?_); (case side1 => repeat (first | (with_reducible first | exact HI0.out | apply IsS173.alloc | apply IsS173.drewN | apply IsS173.drew | apply IsS173.set_1 | apply IsS173.set_2 | refine IsS173.far ?_ NB0_292.out _ | refine IsS173.far ?_ NB0_302.out _) | exact HI0.out)); (case side2 => repeat (first | (with_reducible first | exact HB.out | apply bA | apply bN | apply b1 | refine bS ?_ (IsS173.ge HI0.out) | refine bS ?_ GE292.out | refine bS ?_ GE302.out) | exact HB.out)); rintro e w24 ⟨rfl, hi, hb, hk⟩; refine ⟨_, rfl, ?_⟩; have n0_ := zK (Kd.R_mono (Kd.R_keep (IsS173.apart (show IsS173 w0 _ g s0_0 x1001_1 x1002_1 from by repeat (first | (with_reducible first | exact HI0.out | apply IsS173.alloc | apply IsS173.drewN | apply IsS173.drew | apply IsS173.set_1 | apply IsS173.set_2 | refine IsS173.far ?_ NB0_292.out _ | refine IsS173.far ?_ NB0_302.out _) | exact HI0.out)) (by (with_reducible repeat (first | apply Kd.RA | apply Kd.RN | apply Kd.RD)); exact HO_6.out) (by decide)) hk (fun _ h => h.2)) (fun _ h => h.1)); have n1_ := zK (Kd.R_mono (Kd.R_keep (IsS173.apart (show IsS173 w0 _ g s0_0 x1001_1 x1002_1 from by repeat (first | (with_reducible first | exact HI0.out | apply IsS173.alloc | apply IsS173.drewN | apply IsS173.drew | apply IsS173.set_1 | apply IsS173.set_2 | refine IsS173.far ?_ NB0_292.out _ | refine IsS173.far ?_ NB0_302.out _) | exact HI0.out)) (by (with_reducible repeat (first | apply Kd.RA | apply Kd.RN | apply Kd.RD)); exact HO_303002.out) (by decide)) hk (fun _ h => h.2)) (fun _ h => h.1)); have n2_ := zK (KeepBut.blk hk (g' := gb292) (o := .cells #[.int .i64 0, .int .i64 0, .slice none 0 0, .int .i64 0] 53 (0, 0)) (by (with_reducible repeat (first | refine kN ?_ _ | refine kD ?_ | refine kA ?_ _)); exact BK292.out) NB292_0.out (by simp)); have n3_ := zK (KeepBut.blk hk (g' := gb302) (o := .cells #[.int .i64 (wrap64 (1 + t293)), .int .i64 (wrap64 (1 + t296)), u303002, .int .i64 (wrap64 (60 + t299))] 53 (0, 0)) (by (with_reducible repeat (first | refine kN ?_ _ | refine kD ?_ | refine kA ?_ _)); exact BK302.out) NB302_0.out (by simp)); have n4_ := zK (KeepBut.trans (by repeat (first | (with_reducible first | exact HK.out | apply KeepBut.set_ | apply keep_drewN | apply keep_drew | apply keep_alloc | refine keep_far ?_ GW292.out _ | refine keep_far ?_ GW302.out _) | exact HK.out)) hk (.inl rfl)); have n5_ := zK (hb); have n6_ := zK (hi); clear HO_6; clear HO_303002; clear BK292; clear BK302; clear HK; clear HB; clear HI0; have HO_6 := n0_; have HO_303002 := n1_; have BK292 := n2_; have BK302 := n3_; have HK := n4_; have HB := n5_; have HI0 := n6_; clear n0_ n1_ n2_ n3_ n4_ n5_ n6_; (try clear hb); (try clear hb2); (try clear hk); (try clear hi)))
    have n0_ := zK (Kd.RD HO_6.out)
    have n1_ := zK (Kd.RD HO_303002.out)
    have n2_ := zK (kD BK292.out)
    have n3_ := zK (kD BK302.out)
    have n4_ := zK (IsS173.drew HI0.out)
    have n5_ := zK (keep_drew HK.out)
    have n6_ := zK (b1 HB.out)
    clear HO_6
    clear HO_303002
    clear BK292
    clear BK302
    clear HI0
    clear HK
    clear HB
    have HO_6 := n0_
    have HO_303002 := n1_
    have BK292 := n2_
    have BK302 := n3_
    have HI0 := n4_
    have HK := n5_
    have HB := n6_
    clear n0_ n1_ n2_ n3_ n4_ n5_ n6_
    have p309 : 0 ≤ (x7_1 : Int) := oD (by first | (with_reducible assumption) | assumption)
    have q309 : x7_1 < (t303.length : Int) := oD (by first | (with_reducible assumption) | assumption)
    obtain ⟨ad309, e309, hx309_0⟩ := Kd.at_int (Kd.R_reads' HO_6.out).2.2 x7_1 p309 q309
    cases e309
    replace p309 := eq_true p309
    replace q309 := eq_true q309
    refine start_ (n := 10) (S := fun w' => w'.cell? ⟨gb302, 0, none⟩ = some (.int .i64 (wrap64 (1 + t293))) ∧ w'.cell? ⟨gb302, 1, none⟩ = some (.int .i64 (wrap64 (1 + t296))) ∧ w'.cell? ⟨gb302, 2, none⟩ = some (u303002) ∧ w'.cell? ⟨gb302, 3, none⟩ = some (.int .i64 (wrap64 (60 + t299))) ∧ w'.cell? (ad309.add (x7_1).toNat) = some (.int .i64 (rd t303 x7_1))) (ds := [7, 9]) b7A0 (by kernel_rfl) rfl rfl ⟨(bc BK302.out 0).trans rfl, (bc BK302.out 1).trans rfl, (bc BK302.out 2).trans rfl, (bc BK302.out 3).trans rfl, hx309_0⟩ (fun hHeld => ?_); refine with_tabW spec_l22One.tab7 spec_l22One.bits7 (fun HT_ HW_ => ?_)
    generalize w24.drew = w25 at HO_6 HO_303002 BK292 BK302 HI0 HK HB hx309_0 hHeld ⊢
    refine pI 0 (some 31) b7A1 HT_ ?_
    refine pI 2 (some 33) b7A2 HT_ ?_
    refine pI 3 (some 34) b7A3 HT_ ?_
    refine pI 4 (some 35) b7A4 HT_ ?_
    refine tI 1 (some 32) b7A5 HT_ HW_ hHeld rfl rfl (Or.inl ⟨by rfl, by rintro w' ⟨s0, s1, s2, s3, s4⟩; go_simp; with_reducible rfl⟩) ?_
    refine tI 5 (some 36) b7A6 HT_ HW_ hHeld rfl rfl (Or.inl ⟨by rfl, by rintro w' ⟨s0, s1, s2, s3, s4⟩; go_simp; with_reducible rfl⟩) ?_
    refine one_ (i := 6) (N := some 37) b7A7 rfl rfl (one_of HT_.out (by kernel_rfl)) (by decide) (fun K hK => ?_)
    refine value_ (w1 := ?_) (v := ?_) (by rfl) rfl ?_ ?_
    rotate_left 2
    ·go_simp
     constructor
     ·rfl
     rfl
    refine hK.out _ _ ⟨(bc (kA BK302.out _) 0).trans rfl, (bc (kA BK302.out _) 1).trans rfl, (bc (kA BK302.out _) 2).trans rfl, (bc (kA BK302.out _) 3).trans rfl, (World.cell?_alloc_lt _ _ _ (World.block_lt_of_cell? _ _ (hHeld.2.2.2.2))).trans (hHeld.2.2.2.2)⟩ (fun hHeld => ?_)
    clear hK K
    refine norm_ (a' := ?_) ?_ ?_
    rotate_left
    ·show Act.put _ (some 37) _ = _
     simp only [Act.put, sA, sZ, sS, i64_w, i32_w]
     rfl
    refine last_ (i := 7) (N := some 38) b7A8 rfl rfl (one_of HT_.out (by kernel_rfl)) (by decide) (fun K hK => ?_)
    refine Kd.R_append_step (Kd.int .i64) w.heap.size (by rfl) (.tmp 32) (.tmp 37) 24 3 (.int .i64 0) 8 rfl Try.underlying24 info3 rfl (by decide) (by omega) u303002 x303002_1 (rd t303 x7_1) [.int .i64 (rd t303 x7_1)] (fun k_ => some k_ ≠ (.slice (some ad309) t303.length co23 : Value).ownBlock) (fun _ => False) rfl rfl ?aP (fun _ hk => hk.elim) ?aF ?aO (Below.refl _ _) ?aS ?aL ?_
    (case aP => exact rfl)
    (case aF => exact (fun k_ hk => Kd.fresh' (Kd.R_lt (by (with_reducible repeat (first | apply Kd.RA | apply Kd.RN | apply Kd.RD)); exact HO_6.out)) k_ hk))
    (case aO => exact (by (with_reducible repeat (first | apply Kd.RA | apply Kd.RN | apply Kd.RD)); exact HO_303002.out))
    (case aS => exact (keep_size (w := w) (g := g) (row := none) (by repeat (first | (with_reducible first | exact HK.out | apply KeepBut.set_ | apply keep_drewN | apply keep_drew | apply keep_alloc | refine keep_far ?_ GW292.out _ | refine keep_far ?_ GW302.out _) | exact HK.out))))
    (case aL => have := LMc22.out; omega)
    intro v311 w26 ho hb hg hat
    rw [← Ny310.out] at ho
    have n0_ := zK (Kd.R_after (ok := (fun _ => True)) (by (with_reducible repeat (first | apply Kd.RA | apply Kd.RN | apply Kd.RD)); exact Kd.R_mono HO_6.out (fun _ hk => ⟨trivial, hk⟩)) hg hat)
    have n1_ := zK (blk_grown (g := gb292) (o := .cells #[.int .i64 0, .int .i64 0, .slice none 0 0, .int .i64 0] 53 (0, 0)) (by (with_reducible repeat (first | refine kN ?_ _ | refine kD ?_ | refine kA ?_ _)); exact BK292.out) hg (Kd.R_ne HO_303002.out BK292.out (by decide)))
    have n2_ := zK (blk_grown (g := gb302) (o := .cells #[.int .i64 (wrap64 (1 + t293)), .int .i64 (wrap64 (1 + t296)), u303002, .int .i64 (wrap64 (60 + t299))] 53 (0, 0)) (by (with_reducible repeat (first | refine kN ?_ _ | refine kD ?_ | refine kA ?_ _)); exact BK302.out) hg (Kd.R_ne HO_303002.out BK302.out (by decide)))
    have n3_ := zK (IsS173.grown (by repeat (first | (with_reducible first | exact HI0.out | apply IsS173.alloc | apply IsS173.drewN | apply IsS173.drew | apply IsS173.set_1 | apply IsS173.set_2 | refine IsS173.far ?_ NB0_292.out _ | refine IsS173.far ?_ NB0_302.out _) | exact HI0.out)) hg (IsS173.own_ne HI0.out HO_303002.out (by decide)))
    have n4_ := zK (below_weaken (by repeat (first | (with_reducible first | exact HB.out | apply bA | apply bN | apply b1 | refine bS ?_ (IsS173.ge HI0.out) | refine bS ?_ GE292.out | refine bS ?_ GE302.out) | exact HB.out)) HL.out hb)
    have n5_ := zK (KeepBut.trans (by repeat (first | (with_reducible first | exact HK.out | apply KeepBut.set_ | apply keep_drewN | apply keep_drew | apply keep_alloc | refine keep_far ?_ GW292.out _ | refine keep_far ?_ GW302.out _) | exact HK.out)) (KeepBut.of_grown hg g) (Kd.R_base2 HO_303002.out))
    have n6_ := zK (ho)
    clear HO_6
    clear BK292
    clear BK302
    clear HI0
    clear HB
    clear HK
    clear HO_303002
    have HO_6 := n0_
    have BK292 := n1_
    have BK302 := n2_
    have HI0 := n3_
    have HB := n4_
    have HK := n5_
    have HO312 := n6_
    clear n0_ n1_ n2_ n3_ n4_ n5_ n6_
    clear ho hb hg hat
    obtain ⟨Ao27, co27, eo27⟩ := Kd.R_slice HO312.out
    (first | subst eo27 | (injection eo27 with f1_ f2_ f3_; have f4_ := f1_.symm; have f5_ := f3_.symm; clear f1_ f2_ f3_; subst f4_; subst f5_))
    refine hK.out _ _ ?_
    clear hK K
    refine norm_ (a' := ?_) ?_ ?_
    rotate_left
    ·show Act.put _ (some 38) _ = _
     simp only [Act.put, sA, sZ, sS, i64_w, i32_w]
     rfl
    refine pI 8 (some 39) b7A9 HT_ ?_
    refine last_ (i := 9) (N := none) b7A10 rfl rfl (one_of HT_.out (by kernel_rfl)) (by decide) (fun K hK => ?_)
    have hs28 : w26.cell? ⟨gb302, 2, none⟩ = some (u303002) := (bc BK302.out 2).trans rfl
    have hfs28 := bf BK302.out 2
    have hns28_0 := NB292_302.out
    have hms28_0 := NB302_292.out
    refine skip_ (w1 := ?_) (by rfl) rfl ?_ ?_
    rotate_left
    ·go_simp
     rfl
    refine hK.out _ _ ?_
    clear hK K
    refine done_ (done_of HT_.out (by kernel_rfl)) ?_
    try go_wp2
    go_roundg k1
    case measure => have := HK1.out; omega
    case rel => exact ⟨(wrap64 (x7_1 + 1)), (t307), (t308), (y310), (.slice Ao27 y310.length co27), (by first | rfl | (simp; done) | (simp [*]; done)), H', ⟨by have := HK1.out; omega⟩, ⟨by (with_reducible repeat (first | apply Kd.RA | apply Kd.RN | apply Kd.RD)); exact Kd.R_mono (Kd.R_far (p := ⟨gb302, 2, none⟩) (Kd.R_types HO_6.out BK302.out (by decide)) (fun _ hk => hk.2) (.slice Ao27 y310.length co27)) (fun _ hk => hk.1.2)⟩, ⟨by (with_reducible repeat (first | apply Kd.RA | apply Kd.RN | apply Kd.RD)); exact Kd.R_mono (Kd.R_far (p := ⟨gb302, 2, none⟩) (Kd.R_types HO312.out BK302.out (by decide)) (fun _ hk => hk.2) (.slice Ao27 y310.length co27)) (fun _ hk => hk.1)⟩, ⟨by (with_reducible repeat (first | refine kN ?_ _ | refine kD ?_ | refine kA ?_ _)); refine blk_far ?_ NB292_302.out _; (with_reducible repeat (first | refine kN ?_ _ | refine kD ?_ | refine kA ?_ _)); exact BK292.out⟩, ⟨by (with_reducible repeat (first | refine kN ?_ _ | refine kD ?_ | refine kA ?_ _)); refine blk_put (cs := #[.int .i64 (wrap64 (1 + t293)), .int .i64 (wrap64 (1 + t296)), u303002, .int .i64 (wrap64 (60 + t299))]) ?_ 2 _ rfl; (with_reducible repeat (first | refine kN ?_ _ | refine kD ?_ | refine kA ?_ _)); exact BK302.out⟩, ⟨by repeat (first | (with_reducible first | exact HI0.out | apply IsS173.alloc | apply IsS173.drewN | apply IsS173.drew | apply IsS173.set_1 | apply IsS173.set_2 | refine IsS173.far ?_ NB0_292.out _ | refine IsS173.far ?_ NB0_302.out _) | exact HI0.out)⟩, ⟨by repeat (first | (with_reducible first | exact HK.out | apply KeepBut.set_ | apply keep_drewN | apply keep_drew | apply keep_alloc | refine keep_far ?_ GW292.out _ | refine keep_far ?_ GW302.out _) | exact HK.out)⟩, ⟨by repeat (first | (with_reducible first | exact HB.out | apply bA | apply bN | apply b1 | refine bS ?_ (IsS173.ge HI0.out) | refine bS ?_ GE292.out | refine bS ?_ GE302.out) | exact HB.out)⟩⟩
   rw [if_neg c16] at H
   have c16b0 : decide (x7_1 < (t303.length : Int)) = false := decide_eq_false c16
   clear c16
   have HC29 := zK H
   clear H
   obtain ⟨Ao30, co30, eo30⟩ := Kd.R_slice HO_6.out
   subst eo30
   go_upto_region 8 with (fail)
   go_cut [47] (fun v47 wc => ∃ (kq : Nat) (x47_28 : Bool) (x1001_28 : Int) (x1002_28 : Int), v47 = .bool x47_28 ∧ Aside0 (spec_l22One.j1 kq x47_28 s0_0 x1001_28 x1002_28 (wrap64 (1 + t293)) (wrap64 (1 + t296)) x303002_1 (wrap64 (60 + t299)) = some (r1, r2, r3, r4, r5, r6)) ∧ Aside0 (kq ≤ k1) ∧ Aside0 (Kd.R (Kd.int .i64) 3 wc w.heap.size (fun _ => True) u303002 x303002_1) ∧ Aside0 (wc.heap[gb292]? = some (.cells #[.int .i64 0, .int .i64 0, (.slice none 0 0), .int .i64 0] 53 (0, 0))) ∧ Aside0 (wc.heap[gb302]? = some (.cells #[.int .i64 (wrap64 (1 + t293)), .int .i64 (wrap64 (1 + t296)), u303002, .int .i64 (wrap64 (60 + t299))] 53 (0, 0))) ∧ Aside0 (IsS173 w0 wc g s0_0 x1001_28 x1002_28) ∧ Aside0 (KeepBut w wc g none) ∧ Aside0 (Below w0.heap.size w0 wc))
   case first =>
    have H := HC29.out
    clear HC29
    by_cases c31 : (x303002_1.length : Int) = 0
    ·rw [if_pos c31] at H
     have c31b0 : ((x303002_1.length : Int) == 0) = true := beq_iff_eq.mpr c31
     have c31b1 : ((x303002_1.length : Int) != 0) = false := bne_eq_false_iff_eq.mpr c31
     clear c31
     (first | rw [c31b0] | rw [c31b1] | (simp only [i64_w, i32_w]; rw [c31b0]) | skip)
     have H' := zK H
     clear H
     have hnb32 := NB302_292.out
     have hnc32 := NB292_302.out
     have hnb33 := NB302_0.out
     have hnc33 := NB0_302.out
     have hcz34_0 : wr.cell? ⟨gb302, 0, none⟩ = some (.int .i64 (wrap64 (1 + t293))) := (bc BK302.out 0).trans rfl
     have hcz34_1 : wr.cell? ⟨gb302, 1, none⟩ = some (.int .i64 (wrap64 (1 + t296))) := (bc BK302.out 1).trans rfl
     have hcz34_2 : wr.cell? ⟨gb302, 2, none⟩ = some (u303002) := (bc BK302.out 2).trans rfl
     have hcz34_3 : wr.cell? ⟨gb302, 3, none⟩ = some (.int .i64 (wrap64 (60 + t299))) := (bc BK302.out 3).trans rfl
     have hfz34_0 := bf BK302.out 0
     have hfz34_1 := bf BK302.out 1
     have hfz34_2 := bf BK302.out 2
     have hfz34_3 := bf BK302.out 3
     obtain ⟨Ao35, co35, eo35⟩ := Kd.R_slice HO_303002.out
     subst eo35
     go_wp2
     go_meet
     case rel => exact ⟨_, (true), (x1001_1), (x1002_1), (by first | rfl | (simp; done) | (simp [*]; done)), H', ⟨by have := HK1.out; first | omega | exact Nat.le_refl _⟩, ⟨by (with_reducible repeat (first | apply Kd.RA | apply Kd.RN | apply Kd.RD)); exact Kd.R_mono HO_303002.out (fun _ hk => trivial)⟩, ⟨by (with_reducible repeat (first | refine kN ?_ _ | refine kD ?_ | refine kA ?_ _)); exact BK292.out⟩, ⟨by (with_reducible repeat (first | refine kN ?_ _ | refine kD ?_ | refine kA ?_ _)); exact BK302.out⟩, ⟨by repeat (first | (with_reducible first | exact HI0.out | apply IsS173.alloc | apply IsS173.drewN | apply IsS173.drew | apply IsS173.set_1 | apply IsS173.set_2 | refine IsS173.far ?_ NB0_292.out _ | refine IsS173.far ?_ NB0_302.out _) | exact HI0.out)⟩, ⟨by repeat (first | (with_reducible first | exact HK.out | apply KeepBut.set_ | apply keep_drewN | apply keep_drew | apply keep_alloc | refine keep_far ?_ GW292.out _ | refine keep_far ?_ GW302.out _) | exact HK.out)⟩, ⟨by repeat (first | (with_reducible first | exact HB.out | apply bA | apply bN | apply b1 | refine bS ?_ (IsS173.ge HI0.out) | refine bS ?_ GE292.out | refine bS ?_ GE302.out) | exact HB.out)⟩⟩
    rw [if_neg c31] at H
    have c31b0 : ((x303002_1.length : Int) == 0) = false := beq_eq_false_iff_ne.mpr c31
    have c31b1 : ((x303002_1.length : Int) != 0) = true := bne_iff_ne.mpr c31
    have c31b2 : ¬ (x303002_1 = []) := fun h_ => c31 (by rw [h_]; rfl)
    (first | rw [c31b0] | rw [c31b1] | (simp only [i64_w, i32_w]; rw [c31b0]) | skip)
    replace H := Option.bind_eq_some_iff.mp H
    obtain ⟨⟨t313, t314, t315⟩, A360, H⟩ := H
    replace H : (spec_l22One.j1 k1 t313 s0_0 t314 t315 (wrap64 (1 + t293)) (wrap64 (1 + t296)) x303002_1 (wrap64 (60 + t299))) = some (r1, r2, r3, r4, r5, r6) := H
    have A36 := zK A360
    clear A360
    have H' := zK H
    clear H
    have hnb37 := NB302_292.out
    have hnc37 := NB292_302.out
    have hnb38 := NB302_0.out
    have hnc38 := NB0_302.out
    have hcz39_0 : wr.cell? ⟨gb302, 0, none⟩ = some (.int .i64 (wrap64 (1 + t293))) := (bc BK302.out 0).trans rfl
    have hcz39_1 : wr.cell? ⟨gb302, 1, none⟩ = some (.int .i64 (wrap64 (1 + t296))) := (bc BK302.out 1).trans rfl
    have hcz39_2 : wr.cell? ⟨gb302, 2, none⟩ = some (u303002) := (bc BK302.out 2).trans rfl
    have hcz39_3 : wr.cell? ⟨gb302, 3, none⟩ = some (.int .i64 (wrap64 (60 + t299))) := (bc BK302.out 3).trans rfl
    have hfz39_0 := bf BK302.out 0
    have hfz39_1 := bf BK302.out 1
    have hfz39_2 := bf BK302.out 2
    have hfz39_3 := bf BK302.out 3
    obtain ⟨Ao40, co40, eo40⟩ := Kd.R_slice HO_303002.out
    subst eo40
    go_wp2_with (first | (go_at_call 147; (with_reducible refine (spec_l1Once.calls g s0_0 x1001_1 x1002_1 8 t313 t314 t315 w0 _ ?side1 ?side2 A36.out).mono ?_); (case side1 => repeat (first | (with_reducible first | exact HI0.out | apply IsS173.alloc | apply IsS173.drewN | apply IsS173.drew | apply IsS173.set_1 | apply IsS173.set_2 | refine IsS173.far ?_ NB0_292.out _ | refine IsS173.far ?_ NB0_302.out _) | exact HI0.out)); (case side2 => repeat (first | (with_reducible first | exact HB.out | apply bA | apply bN | apply b1 | refine bS ?_ (IsS173.ge HI0.out) | refine bS ?_ GE292.out | refine bS ?_ GE302.out) | exact HB.out)); rintro e w41 ⟨rfl, hi, hb, hk⟩; have n0_ := zK (Kd.R_mono (Kd.R_keep (IsS173.apart (show IsS173 w0 _ g s0_0 x1001_1 x1002_1 from by repeat (first | (with_reducible first | exact HI0.out | apply IsS173.alloc | apply IsS173.drewN | apply IsS173.drew | apply IsS173.set_1 | apply IsS173.set_2 | refine IsS173.far ?_ NB0_292.out _ | refine IsS173.far ?_ NB0_302.out _) | exact HI0.out)) (by (with_reducible repeat (first | apply Kd.RA | apply Kd.RN | apply Kd.RD)); exact HO_6.out) (by decide)) hk (fun _ h => h.2)) (fun _ h => h.1)); have n1_ := zK (Kd.R_mono (Kd.R_keep (IsS173.apart (show IsS173 w0 _ g s0_0 x1001_1 x1002_1 from by repeat (first | (with_reducible first | exact HI0.out | apply IsS173.alloc | apply IsS173.drewN | apply IsS173.drew | apply IsS173.set_1 | apply IsS173.set_2 | refine IsS173.far ?_ NB0_292.out _ | refine IsS173.far ?_ NB0_302.out _) | exact HI0.out)) (by (with_reducible repeat (first | apply Kd.RA | apply Kd.RN | apply Kd.RD)); exact HO_303002.out) (by decide)) hk (fun _ h => h.2)) (fun _ h => h.1)); have n2_ := zK (KeepBut.blk hk (g' := gb292) (o := .cells #[.int .i64 0, .int .i64 0, .slice none 0 0, .int .i64 0] 53 (0, 0)) (by (with_reducible repeat (first | refine kN ?_ _ | refine kD ?_ | refine kA ?_ _)); exact BK292.out) NB292_0.out (by simp)); have n3_ := zK (KeepBut.blk hk (g' := gb302) (o := .cells #[.int .i64 (wrap64 (1 + t293)), .int .i64 (wrap64 (1 + t296)), .slice Ao40 x303002_1.length co40, .int .i64 (wrap64 (60 + t299))] 53 (0, 0)) (by (with_reducible repeat (first | refine kN ?_ _ | refine kD ?_ | refine kA ?_ _)); exact BK302.out) NB302_0.out (by simp)); have n4_ := zK (KeepBut.trans (by repeat (first | (with_reducible first | exact HK.out | apply KeepBut.set_ | apply keep_drewN | apply keep_drew | apply keep_alloc | refine keep_far ?_ GW292.out _ | refine keep_far ?_ GW302.out _) | exact HK.out)) hk (.inl rfl)); have n5_ := zK (hb); have n6_ := zK (hi); clear HO_6; clear HO_303002; clear BK292; clear BK302; clear HK; clear HB; clear HI0; have HO_6 := n0_; have HO_303002 := n1_; have BK292 := n2_; have BK302 := n3_; have HK := n4_; have HB := n5_; have HI0 := n6_; clear n0_ n1_ n2_ n3_ n4_ n5_ n6_; (try clear hb); (try clear hb2); (try clear hk); (try clear hi)))
    go_meet
    case rel => exact ⟨_, (t313), (t314), (t315), (by first | rfl | (simp; done) | (simp [*]; done)), H', ⟨by have := HK1.out; first | omega | exact Nat.le_refl _⟩, ⟨by (with_reducible repeat (first | apply Kd.RA | apply Kd.RN | apply Kd.RD)); exact Kd.R_mono HO_303002.out (fun _ hk => trivial)⟩, ⟨by (with_reducible repeat (first | refine kN ?_ _ | refine kD ?_ | refine kA ?_ _)); exact BK292.out⟩, ⟨by (with_reducible repeat (first | refine kN ?_ _ | refine kD ?_ | refine kA ?_ _)); exact BK302.out⟩, ⟨by repeat (first | (with_reducible first | exact HI0.out | apply IsS173.alloc | apply IsS173.drewN | apply IsS173.drew | apply IsS173.set_1 | apply IsS173.set_2 | refine IsS173.far ?_ NB0_292.out _ | refine IsS173.far ?_ NB0_302.out _) | exact HI0.out)⟩, ⟨by repeat (first | (with_reducible first | exact HK.out | apply KeepBut.set_ | apply keep_drewN | apply keep_drew | apply keep_alloc | refine keep_far ?_ GW292.out _ | refine keep_far ?_ GW302.out _) | exact HK.out)⟩, ⟨by repeat (first | (with_reducible first | exact HB.out | apply bA | apply bN | apply b1 | refine bS ?_ (IsS173.ge HI0.out) | refine bS ?_ GE292.out | refine bS ?_ GE302.out) | exact HB.out)⟩⟩
   case rest =>
    clear HC29
    try clear c1
    try clear c2
    try clear p2
    try clear c3
    try clear p3
    try clear q3
    try clear hx3
    try clear p6
    try clear c9
    try clear c10
    try clear c11
    try clear c12
    try clear c13
    try clear c14
    try clear c16
    try clear c16b0
    try clear c18
    try clear c21
    try clear c21b0
    try clear c22
    try clear p30
    try clear q30
    try clear hx30
    try clear c31
    try clear c31b0
    try clear c31b1
    try clear c31b2
    try clear c32
    try clear c33
    try clear c37
    try clear c38
    try clear hcz14_0
    try clear hcz14_1
    try clear hcz14_2
    try clear hcz14_3
    try clear hcz34_0
    try clear hcz34_1
    try clear hcz34_2
    try clear hcz34_3
    try clear hcz39_0
    try clear hcz39_1
    try clear hcz39_2
    try clear hcz39_3
    try clear hfz14_0
    try clear hfz14_1
    try clear hfz14_2
    try clear hfz14_3
    try clear hfz34_0
    try clear hfz34_1
    try clear hfz34_2
    try clear hfz34_3
    try clear hfz39_0
    try clear hfz39_1
    try clear hfz39_2
    try clear hfz39_3
    try clear hx309_0
    try clear p2
    try clear p309
    try clear p6
    try clear q309
    obtain ⟨kq, x47_28, x1001_28, x1002_28, rfl, HA, HJ28, HO_303002, BK292, BK302, HI0, HK, HB⟩ := hcut
    cases kq with
    | zero => exact absurd HA.out (by simp [spec_l22One.j1])
    | succ kj28 =>
     have H := HA.out
     clear HA
     simp only [spec_l22One.j1] at H
     have HC42 := zK H
     clear H
     go_upto_if 47 with (fail)
     go_cut [] (fun wc => ∃ (kq : Nat) (x1001_41 : Int) (x1002_41 : Int) (x303002_41 : List Int) (u303002 : Value), Aside0 (spec_l22One.j2 kq s0_0 x1001_41 x1002_41 (wrap64 (1 + t293)) (wrap64 (1 + t296)) x303002_41 (wrap64 (60 + t299)) = some (r1, r2, r3, r4, r5, r6)) ∧ Aside0 (kq ≤ kj28) ∧ Aside0 (Kd.R (Kd.int .i64) 3 wc w.heap.size (fun _ => True) u303002 x303002_41) ∧ Aside0 (wc.heap[gb292]? = some (.cells #[.int .i64 0, .int .i64 0, (.slice none 0 0), .int .i64 0] 53 (0, 0))) ∧ Aside0 (wc.heap[gb302]? = some (.cells #[.int .i64 (wrap64 (1 + t293)), .int .i64 (wrap64 (1 + t296)), u303002, .int .i64 (wrap64 (60 + t299))] 53 (0, 0))) ∧ Aside0 (IsS173 w0 wc g s0_0 x1001_41 x1002_41) ∧ Aside0 (KeepBut w wc g none) ∧ Aside0 (Below w0.heap.size w0 wc))
     case first =>
      have H := HC42.out
      clear HC42
      by_cases c43 : x47_28 = true
      rotate_left
      ·replace c43 := Bool.eq_false_iff.mpr c43
       subst c43
       have H1 : (spec_l22One.j2 kj28 s0_0 x1001_28 x1002_28 (wrap64 (1 + t293)) (wrap64 (1 + t296)) x303002_1 (wrap64 (60 + t299))) = some (r1, r2, r3, r4, r5, r6) := by rw [if_neg (show ¬ (false = true) by decide)] at H; exact H
       clear H
       have H := H1
       clear H1
       have H' := zK H
       clear H
       go_wp2
       go_meet
       case rel => exact ⟨_, (x1001_28), (x1002_28), (x303002_1), (u303002), H', ⟨by have := HK1.out; have := HJ28.out; first | omega | exact Nat.le_refl _⟩, ⟨by (with_reducible repeat (first | apply Kd.RA | apply Kd.RN | apply Kd.RD)); exact HO_303002.out⟩, ⟨by (with_reducible repeat (first | refine kN ?_ _ | refine kD ?_ | refine kA ?_ _)); exact BK292.out⟩, ⟨by (with_reducible repeat (first | refine kN ?_ _ | refine kD ?_ | refine kA ?_ _)); exact BK302.out⟩, ⟨by repeat (first | (with_reducible first | exact HI0.out | apply IsS173.alloc | apply IsS173.drewN | apply IsS173.drew | apply IsS173.set_1 | apply IsS173.set_2 | refine IsS173.far ?_ NB0_292.out _ | refine IsS173.far ?_ NB0_302.out _) | exact HI0.out)⟩, ⟨by repeat (first | (with_reducible first | exact HK.out | apply KeepBut.set_ | apply keep_drewN | apply keep_drew | apply keep_alloc | refine keep_far ?_ GW292.out _ | refine keep_far ?_ GW302.out _) | exact HK.out)⟩, ⟨by repeat (first | (with_reducible first | exact HB.out | apply bA | apply bN | apply b1 | refine bS ?_ (IsS173.ge HI0.out) | refine bS ?_ GE292.out | refine bS ?_ GE302.out) | exact HB.out)⟩⟩
      subst c43
      have H1 : ((spec_l1Int.f s0_0 x1001_28 x1002_28 (([0, 2, 4, 999] : List Int))).bind fun bt319 => (spec_l22One.j2 kj28 s0_0 bt319.2.1 bt319.2.2 (wrap64 (1 + t293)) (wrap64 (1 + t296)) (([bt319.1] : List Int)) (wrap64 (60 + t299)))) = some (r1, r2, r3, r4, r5, r6) := by rw [if_pos rfl] at H; exact H
      clear H
      have H := H1
      clear H1
      obtain ⟨y316, hy316⟩ : ∃ y_ : List Int, y_ = (([0, 2, 4, 999] : List Int)) := ⟨_, rfl⟩
      replace H : ((spec_l1Int.f s0_0 x1001_28 x1002_28 y316).bind fun bt319 => (spec_l22One.j2 kj28 s0_0 bt319.2.1 bt319.2.2 (wrap64 (1 + t293)) (wrap64 (1 + t296)) (([bt319.1] : List Int)) (wrap64 (60 + t299)))) = some (r1, r2, r3, r4, r5, r6) := by first | (rw [hy316]; with_reducible exact H) | (have H2_ := (Option.bind_some _ _).symm.trans H; rw [hy316]; with_reducible exact H2_) | (have H2_ := (Option.bind_some _ _).symm.trans H; with_reducible exact H2_) | with_reducible exact H | (rw [hy316]; exact H) | exact H
      have Ny316 := zK hy316
      clear hy316
      replace H := Option.bind_eq_some_iff.mp H
      obtain ⟨⟨t319, t320, t321⟩, A440, H⟩ := H
      replace H : (spec_l22One.j2 kj28 s0_0 t320 t321 (wrap64 (1 + t293)) (wrap64 (1 + t296)) (([t319] : List Int)) (wrap64 (60 + t299))) = some (r1, r2, r3, r4, r5, r6) := H
      have A44 := zK A440
      clear A440
      obtain ⟨y322, hy322⟩ : ∃ y_ : List Int, y_ = (([t319] : List Int)) := ⟨_, rfl⟩
      replace H : (spec_l22One.j2 kj28 s0_0 t320 t321 (wrap64 (1 + t293)) (wrap64 (1 + t296)) y322 (wrap64 (60 + t299))) = some (r1, r2, r3, r4, r5, r6) := by first | (rw [hy322]; with_reducible exact H) | (have H2_ := (Option.bind_some _ _).symm.trans H; rw [hy322]; with_reducible exact H2_) | (have H2_ := (Option.bind_some _ _).symm.trans H; with_reducible exact H2_) | with_reducible exact H | (rw [hy322]; exact H) | exact H
      have Ny322 := zK hy322
      clear hy322
      have H' := zK H
      clear H
      go_wp2_with (first | ((with_reducible refine gate_dst (N := 49) rfl ?_); refine Kd.R_lit (Kd.int .i64) _ 3 ?hg (N := 49) ?hd (xs := ([0, 2, 4, 999] : List Int)) (inner := [.int .i64 0, .int .i64 2, .int .i64 4, .int .i64 999]) (ok := fun _ => True) (okp := fun _ => True) ?hr ?hp (fun _ hk => hk) trivial (Below.refl _ _) (Nat.le_refl _) (by simp) ?_; (case hd => rfl); (case hg => rfl); (case hr => first | (go_simp; done) | (go_simp; rfl)); (case hp => exact (Reps.one (show Kd.M (Kd.int .i64) _ _ _ 0 [.int .i64 0] from rfl) (Reps.one (show Kd.M (Kd.int .i64) _ _ _ 2 [.int .i64 2] from rfl) (Reps.one (show Kd.M (Kd.int .i64) _ _ _ 4 [.int .i64 4] from rfl) (Reps.one (show Kd.M (Kd.int .i64) _ _ _ 999 [.int .i64 999] from rfl) (Reps.none _ _)))))); intro v317 w45 ho46 hb hg_ hnew_; clear hg_ hnew_; (first | rw [← Ny316.out] at ho46 | (simp only [Int.reduceToNat] at ho46; rw [← Ny316.out] at ho46)); have n0_ := zK (Kd.R_elder' (by (with_reducible repeat (first | apply Kd.RA | apply Kd.RN | apply Kd.RD)); exact HO_303002.out) (Kd.R_base ho46) hb); have n1_ := zK (Kd.R_lower (Kd.R_new' ho46 (Kd.R_lt (by (with_reducible repeat (first | apply Kd.RA | apply Kd.RN | apply Kd.RD)); exact HO_303002.out))) (keep_size (w := w) (g := g) (row := none) (by repeat (first | (with_reducible first | exact HK.out | apply KeepBut.set_ | apply keep_drewN | apply keep_drew | apply keep_alloc | refine keep_far ?_ GW292.out _ | refine keep_far ?_ GW302.out _) | exact HK.out)))); have n2_ := zK (bB (g := gb292) (o := .cells #[.int .i64 0, .int .i64 0, .slice none 0 0, .int .i64 0] 53 (0, 0)) (by (with_reducible repeat (first | refine kN ?_ _ | refine kD ?_ | refine kA ?_ _)); exact BK292.out) hb); have n3_ := zK (bB (g := gb302) (o := .cells #[.int .i64 (wrap64 (1 + t293)), .int .i64 (wrap64 (1 + t296)), u303002, .int .i64 (wrap64 (60 + t299))] 53 (0, 0)) (by (with_reducible repeat (first | refine kN ?_ _ | refine kD ?_ | refine kA ?_ _)); exact BK302.out) hb); have n4_ := zK (IsS173.below (by repeat (first | (with_reducible first | exact HI0.out | apply IsS173.alloc | apply IsS173.drewN | apply IsS173.drew | apply IsS173.set_1 | apply IsS173.set_2 | refine IsS173.far ?_ NB0_292.out _ | refine IsS173.far ?_ NB0_302.out _) | exact HI0.out)) hb); have n5_ := zK (KeepBut.trans (by repeat (first | (with_reducible first | exact HK.out | apply KeepBut.set_ | apply keep_drewN | apply keep_drew | apply keep_alloc | refine keep_far ?_ GW292.out _ | refine keep_far ?_ GW302.out _) | exact HK.out)) (KeepBut.of_below hb g none) (.inl rfl)); have n6_ := zK (bT (by repeat (first | (with_reducible first | exact HB.out | apply bA | apply bN | apply b1 | refine bS ?_ (IsS173.ge HI0.out) | refine bS ?_ GE292.out | refine bS ?_ GE302.out) | exact HB.out)) hb); clear HO_303002; clear BK292; clear BK302; clear HI0; clear HK; clear HB; have HO_303002 := n0_; have HO318 := n1_; have BK292 := n2_; have BK302 := n3_; have HI0 := n4_; have HK := n5_; have HB := n6_; clear n0_ n1_ n2_ n3_ n4_ n5_ n6_; clear hb ho46; obtain ⟨Ao47, co47, eo47⟩ := Kd.R_slice HO318.out; subst eo47) | ((with_reducible refine gate_callee (f := 145) rfl ?_); refine goesL_ (some 50) rfl rfl Try.func145 (by kernel_rfl) rfl #[.pointer (some ⟨g, 0, none⟩), .slice Ao47 y316.length co47] rfl (by (try simp only [List.map_toArray, List.map_cons, List.map_nil]); first | done | rfl | (simp only [List.length_drop, List.length_take]; rfl)) ?_; (with_reducible refine (spec_l1Int.calls g s0_0 x1001_28 x1002_28 _ _ y316 t319 t320 t321 w0 _ ?side1 ?side2 ?side3 ?side4 ?side5 A44.out).mono ?_); (case side1 => repeat (first | (with_reducible first | exact HI0.out | apply IsS173.alloc | apply IsS173.drewN | apply IsS173.drew | apply IsS173.set_1 | apply IsS173.set_2 | refine IsS173.far ?_ NB0_292.out _ | refine IsS173.far ?_ NB0_302.out _) | exact HI0.out)); (case side2 => repeat (first | (with_reducible first | exact HB.out | apply bA | apply bN | apply b1 | refine bS ?_ (IsS173.ge HI0.out) | refine bS ?_ GE292.out | refine bS ?_ GE302.out) | exact HB.out)); (case side3 => repeat (first | exact (Kd.R_reads' HO318.out).2.2 | (with_reducible refine Kd.CA ?_ _) | (with_reducible refine Kd.CN ?_ _) | (with_reducible refine Kd.CD ?_))); (case side4 => exact (Kd.R_reads' HO318.out).2.1); (case side5 => exact far_slice (IsS173.own_ne HI0.out HO318.out (by decide))); rintro e w48 ⟨rfl, hi, hb, hk⟩; refine ⟨_, rfl, ?_⟩; have n0_ := zK (Kd.R_mono (Kd.R_keep (IsS173.apart (show IsS173 w0 _ g s0_0 x1001_28 x1002_28 from by repeat (first | (with_reducible first | exact HI0.out | apply IsS173.alloc | apply IsS173.drewN | apply IsS173.drew | apply IsS173.set_1 | apply IsS173.set_2 | refine IsS173.far ?_ NB0_292.out _ | refine IsS173.far ?_ NB0_302.out _) | exact HI0.out)) (by (with_reducible repeat (first | apply Kd.RA | apply Kd.RN | apply Kd.RD)); exact HO_303002.out) (by decide)) hk (fun _ h => h.2)) (fun _ h => h.1)); have n1_ := zK (KeepBut.blk hk (g' := gb292) (o := .cells #[.int .i64 0, .int .i64 0, .slice none 0 0, .int .i64 0] 53 (0, 0)) (by (with_reducible repeat (first | refine kN ?_ _ | refine kD ?_ | refine kA ?_ _)); exact BK292.out) NB292_0.out (by simp)); have n2_ := zK (KeepBut.blk hk (g' := gb302) (o := .cells #[.int .i64 (wrap64 (1 + t293)), .int .i64 (wrap64 (1 + t296)), u303002, .int .i64 (wrap64 (60 + t299))] 53 (0, 0)) (by (with_reducible repeat (first | refine kN ?_ _ | refine kD ?_ | refine kA ?_ _)); exact BK302.out) NB302_0.out (by simp)); have n3_ := zK (Kd.R_mono (Kd.R_keep (IsS173.apart (show IsS173 w0 _ g s0_0 x1001_28 x1002_28 from by repeat (first | (with_reducible first | exact HI0.out | apply IsS173.alloc | apply IsS173.drewN | apply IsS173.drew | apply IsS173.set_1 | apply IsS173.set_2 | refine IsS173.far ?_ NB0_292.out _ | refine IsS173.far ?_ NB0_302.out _) | exact HI0.out)) (by (with_reducible repeat (first | apply Kd.RA | apply Kd.RN | apply Kd.RD)); exact HO318.out) (by decide)) hk (fun _ h => h.2)) (fun _ h => h.1)); have n4_ := zK (KeepBut.trans (by repeat (first | (with_reducible first | exact HK.out | apply KeepBut.set_ | apply keep_drewN | apply keep_drew | apply keep_alloc | refine keep_far ?_ GW292.out _ | refine keep_far ?_ GW302.out _) | exact HK.out)) hk (.inl rfl)); have n5_ := zK (hb); have n6_ := zK (hi); clear HO_303002; clear BK292; clear BK302; clear HO318; clear HK; clear HB; clear HI0; have HO_303002 := n0_; have BK292 := n1_; have BK302 := n2_; have HO318 := n3_; have HK := n4_; have HB := n5_; have HI0 := n6_; clear n0_ n1_ n2_ n3_ n4_ n5_ n6_; (try clear hb); (try clear hb2); (try clear hk); (try clear hi)) | ((with_reducible refine gate_dst (N := 51) rfl ?_); refine Kd.R_lit (Kd.int .i64) _ 3 ?hg (N := 51) ?hd (xs := ([t319] : List Int)) (inner := [.int .i64 t319]) (ok := fun _ => True) (okp := fun _ => True) ?hr ?hp (fun _ hk => hk) trivial (Below.refl _ _) (Nat.le_refl _) (by simp) ?_; (case hd => rfl); (case hg => rfl); (case hr => first | (go_simp; done) | (go_simp; rfl)); (case hp => exact (Reps.one (show Kd.M (Kd.int .i64) _ _ _ t319 [.int .i64 t319] from rfl) (Reps.none _ _))); intro v323 w49 ho50 hb hg_ hnew_; clear hg_ hnew_; (first | rw [← Ny322.out] at ho50 | (simp only [Int.reduceToNat] at ho50; rw [← Ny322.out] at ho50)); have n0_ := zK (Kd.R_elder' (by (with_reducible repeat (first | apply Kd.RA | apply Kd.RN | apply Kd.RD)); exact HO_303002.out) (Kd.R_base ho50) hb); have n1_ := zK (Kd.R_elder' (by (with_reducible repeat (first | apply Kd.RA | apply Kd.RN | apply Kd.RD)); exact HO318.out) (Kd.R_base ho50) hb); have n2_ := zK (Kd.R_lower (Kd.R_new' (Kd.R_new' ho50 (Kd.R_lt (by (with_reducible repeat (first | apply Kd.RA | apply Kd.RN | apply Kd.RD)); exact HO_303002.out))) (Kd.R_lt (by (with_reducible repeat (first | apply Kd.RA | apply Kd.RN | apply Kd.RD)); exact HO318.out))) (keep_size (w := w) (g := g) (row := none) (by repeat (first | (with_reducible first | exact HK.out | apply KeepBut.set_ | apply keep_drewN | apply keep_drew | apply keep_alloc | refine keep_far ?_ GW292.out _ | refine keep_far ?_ GW302.out _) | exact HK.out)))); have n3_ := zK (bB (g := gb292) (o := .cells #[.int .i64 0, .int .i64 0, .slice none 0 0, .int .i64 0] 53 (0, 0)) (by (with_reducible repeat (first | refine kN ?_ _ | refine kD ?_ | refine kA ?_ _)); exact BK292.out) hb); have n4_ := zK (bB (g := gb302) (o := .cells #[.int .i64 (wrap64 (1 + t293)), .int .i64 (wrap64 (1 + t296)), u303002, .int .i64 (wrap64 (60 + t299))] 53 (0, 0)) (by (with_reducible repeat (first | refine kN ?_ _ | refine kD ?_ | refine kA ?_ _)); exact BK302.out) hb); have n5_ := zK (IsS173.below (by repeat (first | (with_reducible first | exact HI0.out | apply IsS173.alloc | apply IsS173.drewN | apply IsS173.drew | apply IsS173.set_1 | apply IsS173.set_2 | refine IsS173.far ?_ NB0_292.out _ | refine IsS173.far ?_ NB0_302.out _) | exact HI0.out)) hb); have n6_ := zK (KeepBut.trans (by repeat (first | (with_reducible first | exact HK.out | apply KeepBut.set_ | apply keep_drewN | apply keep_drew | apply keep_alloc | refine keep_far ?_ GW292.out _ | refine keep_far ?_ GW302.out _) | exact HK.out)) (KeepBut.of_below hb g none) (.inl rfl)); have n7_ := zK (bT (by repeat (first | (with_reducible first | exact HB.out | apply bA | apply bN | apply b1 | refine bS ?_ (IsS173.ge HI0.out) | refine bS ?_ GE292.out | refine bS ?_ GE302.out) | exact HB.out)) hb); clear HO_303002; clear HO318; clear BK292; clear BK302; clear HI0; clear HK; clear HB; have HO_303002 := n0_; have HO318 := n1_; have HO324 := n2_; have BK292 := n3_; have BK302 := n4_; have HI0 := n5_; have HK := n6_; have HB := n7_; clear n0_ n1_ n2_ n3_ n4_ n5_ n6_ n7_; clear hb ho50; obtain ⟨Ao51, co51, eo51⟩ := Kd.R_slice HO324.out; subst eo51; have hnb52 := NB302_292.out; have hnc52 := NB292_302.out; have hnb53 := NB302_0.out; have hnc53 := NB0_302.out; have hcz54_0 : w49.cell? ⟨gb302, 0, none⟩ = some (.int .i64 (wrap64 (1 + t293))) := (bc BK302.out 0).trans rfl; have hcz54_1 : w49.cell? ⟨gb302, 1, none⟩ = some (.int .i64 (wrap64 (1 + t296))) := (bc BK302.out 1).trans rfl; have hcz54_2 : w49.cell? ⟨gb302, 2, none⟩ = some (u303002) := (bc BK302.out 2).trans rfl; have hcz54_3 : w49.cell? ⟨gb302, 3, none⟩ = some (.int .i64 (wrap64 (60 + t299))) := (bc BK302.out 3).trans rfl; have hfz54_0 := bf BK302.out 0; have hfz54_1 := bf BK302.out 1; have hfz54_2 := bf BK302.out 2; have hfz54_3 := bf BK302.out 3))
      go_meet
      case rel => exact ⟨_, (t320), (t321), (y322), (.slice Ao51 y322.length co51), H', ⟨by have := HK1.out; have := HJ28.out; first | omega | exact Nat.le_refl _⟩, ⟨by (with_reducible repeat (first | apply Kd.RA | apply Kd.RN | apply Kd.RD)); exact Kd.R_mono (Kd.R_far (p := ⟨gb302, 2, none⟩) (Kd.R_types HO324.out BK302.out (by decide)) (fun _ hk => hk.2) (.slice Ao51 y322.length co51)) (fun _ hk => trivial)⟩, ⟨by (with_reducible repeat (first | refine kN ?_ _ | refine kD ?_ | refine kA ?_ _)); refine blk_far ?_ NB292_302.out _; (with_reducible repeat (first | refine kN ?_ _ | refine kD ?_ | refine kA ?_ _)); exact BK292.out⟩, ⟨by (with_reducible repeat (first | refine kN ?_ _ | refine kD ?_ | refine kA ?_ _)); refine blk_put (cs := #[.int .i64 (wrap64 (1 + t293)), .int .i64 (wrap64 (1 + t296)), u303002, .int .i64 (wrap64 (60 + t299))]) ?_ 2 _ rfl; (with_reducible repeat (first | refine kN ?_ _ | refine kD ?_ | refine kA ?_ _)); exact BK302.out⟩, ⟨by repeat (first | (with_reducible first | exact HI0.out | apply IsS173.alloc | apply IsS173.drewN | apply IsS173.drew | apply IsS173.set_1 | apply IsS173.set_2 | refine IsS173.far ?_ NB0_292.out _ | refine IsS173.far ?_ NB0_302.out _) | exact HI0.out)⟩, ⟨by repeat (first | (with_reducible first | exact HK.out | apply KeepBut.set_ | apply keep_drewN | apply keep_drew | apply keep_alloc | refine keep_far ?_ GW292.out _ | refine keep_far ?_ GW302.out _) | exact HK.out)⟩, ⟨by repeat (first | (with_reducible first | exact HB.out | apply bA | apply bN | apply b1 | refine bS ?_ (IsS173.ge HI0.out) | refine bS ?_ GE292.out | refine bS ?_ GE302.out) | exact HB.out)⟩⟩
     case rest =>
      clear HC42
      try clear c1
      try clear c2
      try clear p2
      try clear c3
      try clear p3
      try clear q3
      try clear hx3
      try clear c4
      try clear c5
      try clear p6
      try clear c9
      try clear c10
      try clear c11
      try clear c12
      try clear c13
      try clear c14
      try clear c16
      try clear c16b0
      try clear c18
      try clear c21
      try clear c21b0
      try clear c22
      try clear p30
      try clear q30
      try clear hx30
      try clear c31
      try clear c31b0
      try clear c31b1
      try clear c31b2
      try clear c32
      try clear c33
      try clear c37
      try clear c38
      try clear c43
      try clear c52
      try clear c53
      try clear hcz14_0
      try clear hcz14_1
      try clear hcz14_2
      try clear hcz14_3
      try clear hcz34_0
      try clear hcz34_1
      try clear hcz34_2
      try clear hcz34_3
      try clear hcz39_0
      try clear hcz39_1
      try clear hcz39_2
      try clear hcz39_3
      try clear hcz54_0
      try clear hcz54_1
      try clear hcz54_2
      try clear hcz54_3
      try clear hfz14_0
      try clear hfz14_1
      try clear hfz14_2
      try clear hfz14_3
      try clear hfz34_0
      try clear hfz34_1
      try clear hfz34_2
      try clear hfz34_3
      try clear hfz39_0
      try clear hfz39_1
      try clear hfz39_2
      try clear hfz39_3
      try clear hfz54_0
      try clear hfz54_1
      try clear hfz54_2
      try clear hfz54_3
      try clear hx309_0
      try clear p2
      try clear p3
      try clear p30
      try clear p309
      try clear p6
      try clear q3
      try clear q30
      try clear q309
      obtain ⟨kq, x1001_41, x1002_41, x303002_41, u303002, HA, HJ41, HO_303002, BK292, BK302, HI0, HK, HB⟩ := hcut
      cases kq with
      | zero => exact absurd HA.out (by simp [spec_l22One.j2])
      | succ kj41 =>
       have H := HA.out
       clear HA
       simp only [spec_l22One.j2] at H
       replace H := Option.bind_eq_some_iff.mp H
       obtain ⟨⟨t325, t326, t327⟩, A550, H⟩ := H
       replace H : (if t325 = true then ((spec_l4Raw.f s0_0 t326 t327).bind fun bt328 => (some ((wrap64 (1 + t293)), (wrap64 (1 + t296)), x303002_41, bt328.1, bt328.2.1, bt328.2.2))) else (some ((wrap64 (1 + t293)), (wrap64 (1 + t296)), x303002_41, (wrap64 (60 + t299)), t326, t327))) = some (r1, r2, r3, r4, r5, r6) := H
       have A55 := zK A550
       clear A550
       by_cases c56 : t325 = true
       rotate_left
       ·replace c56 := Bool.eq_false_iff.mpr c56
        subst c56
        have H1 : (some ((wrap64 (1 + t293)), (wrap64 (1 + t296)), x303002_41, (wrap64 (60 + t299)), t326, t327)) = some (r1, r2, r3, r4, r5, r6) := by rw [if_neg (show ¬ (false = true) by decide)] at H; exact H
        clear H
        have H := H1
        clear H1
        simp only [Option.some.injEq, Prod.mk.injEq] at H
        obtain ⟨rfl, rfl, rfl, rfl, rfl, rfl⟩ := H
        go_wp2_with (first | ((with_reducible refine gate_callee (f := 147) rfl ?_); refine goesL_ (some 54) rfl rfl Try.func147 (by kernel_rfl) rfl #[.pointer (some ⟨g, 0, none⟩), .int .i64 12] rfl (by (try simp only [List.map_toArray, List.map_cons, List.map_nil]); first | done | rfl | (simp only [List.length_drop, List.length_take]; rfl)) ?_; (with_reducible refine (spec_l1Once.calls g s0_0 x1001_41 x1002_41 12 false t326 t327 w0 _ ?side1 ?side2 A55.out).mono ?_); (case side1 => repeat (first | (with_reducible first | exact HI0.out | apply IsS173.alloc | apply IsS173.drewN | apply IsS173.drew | apply IsS173.set_1 | apply IsS173.set_2 | refine IsS173.far ?_ NB0_292.out _ | refine IsS173.far ?_ NB0_302.out _) | exact HI0.out)); (case side2 => repeat (first | (with_reducible first | exact HB.out | apply bA | apply bN | apply b1 | refine bS ?_ (IsS173.ge HI0.out) | refine bS ?_ GE292.out | refine bS ?_ GE302.out) | exact HB.out)); rintro e w66 ⟨rfl, hi, hb, hk⟩; refine ⟨_, rfl, ?_⟩; have n0_ := zK (Kd.R_mono (Kd.R_keep (IsS173.apart (show IsS173 w0 _ g s0_0 x1001_41 x1002_41 from by repeat (first | (with_reducible first | exact HI0.out | apply IsS173.alloc | apply IsS173.drewN | apply IsS173.drew | apply IsS173.set_1 | apply IsS173.set_2 | refine IsS173.far ?_ NB0_292.out _ | refine IsS173.far ?_ NB0_302.out _) | exact HI0.out)) (by (with_reducible repeat (first | apply Kd.RA | apply Kd.RN | apply Kd.RD)); exact HO_303002.out) (by decide)) hk (fun _ h => h.2)) (fun _ h => h.1)); have n1_ := zK (KeepBut.blk hk (g' := gb292) (o := .cells #[.int .i64 0, .int .i64 0, .slice none 0 0, .int .i64 0] 53 (0, 0)) (by (with_reducible repeat (first | refine kN ?_ _ | refine kD ?_ | refine kA ?_ _)); exact BK292.out) NB292_0.out (by simp)); have n2_ := zK (KeepBut.blk hk (g' := gb302) (o := .cells #[.int .i64 (wrap64 (1 + t293)), .int .i64 (wrap64 (1 + t296)), u303002, .int .i64 (wrap64 (60 + t299))] 53 (0, 0)) (by (with_reducible repeat (first | refine kN ?_ _ | refine kD ?_ | refine kA ?_ _)); exact BK302.out) NB302_0.out (by simp)); have n3_ := zK (KeepBut.trans (by repeat (first | (with_reducible first | exact HK.out | apply KeepBut.set_ | apply keep_drewN | apply keep_drew | apply keep_alloc | refine keep_far ?_ GW292.out _ | refine keep_far ?_ GW302.out _) | exact HK.out)) hk (.inl rfl)); have n4_ := zK (hb); have n5_ := zK (hi); clear HO_303002; clear BK292; clear BK302; clear HK; clear HB; clear HI0; have HO_303002 := n0_; have BK292 := n1_; have BK302 := n2_; have HK := n3_; have HB := n4_; have HI0 := n5_; clear n0_ n1_ n2_ n3_ n4_ n5_; (try clear hb); (try clear hb2); (try clear hk); (try clear hi); have hnb67 := NB302_292.out; have hnc67 := NB292_302.out; have hnb68 := NB302_0.out; have hnc68 := NB0_302.out; have hcz69_0 : w66.cell? ⟨gb302, 0, none⟩ = some (.int .i64 (wrap64 (1 + t293))) := (bc BK302.out 0).trans rfl; have hcz69_1 : w66.cell? ⟨gb302, 1, none⟩ = some (.int .i64 (wrap64 (1 + t296))) := (bc BK302.out 1).trans rfl; have hcz69_2 : w66.cell? ⟨gb302, 2, none⟩ = some (u303002) := (bc BK302.out 2).trans rfl; have hcz69_3 : w66.cell? ⟨gb302, 3, none⟩ = some (.int .i64 (wrap64 (60 + t299))) := (bc BK302.out 3).trans rfl; have hfz69_0 := bf BK302.out 0; have hfz69_1 := bf BK302.out 1; have hfz69_2 := bf BK302.out 2; have hfz69_3 := bf BK302.out 3; have hnb70 := NB292_0.out; have hnc70 := NB0_292.out; have hcz71_0 : w66.cell? ⟨gb292, 0, none⟩ = some (.int .i64 0) := (bc BK292.out 0).trans rfl; have hcz71_1 : w66.cell? ⟨gb292, 1, none⟩ = some (.int .i64 0) := (bc BK292.out 1).trans rfl; have hcz71_2 : w66.cell? ⟨gb292, 2, none⟩ = some (.slice none 0 0) := (bc BK292.out 2).trans rfl; have hcz71_3 : w66.cell? ⟨gb292, 3, none⟩ = some (.int .i64 0) := (bc BK292.out 3).trans rfl; have hfz71_0 := bf BK292.out 0; have hfz71_1 := bf BK292.out 1; have hfz71_2 := bf BK292.out 2; have hfz71_3 := bf BK292.out 3; obtain ⟨Ao72, co72, eo72⟩ := Kd.R_slice HO_303002.out; subst eo72))
        refine bodyPost_ret (results_cell_row rfl _ _ gb292 53 #[.int .i64 (wrap64 (1 + t293)), .int .i64 (wrap64 (1 + t296)), .slice Ao72 x303002_41.length co72, .int .i64 (wrap64 (60 + t299))] (0, 0) _ rfl (by (with_reducible repeat (first | refine kN ?_ _ | refine kD ?_ | refine kA ?_ _)); refine blk_put (cs := #[.int .i64 (wrap64 (1 + t293)), .int .i64 (wrap64 (1 + t296)), .slice Ao72 x303002_41.length co72, .int .i64 0]) ?_ 3 _ rfl; (with_reducible repeat (first | refine kN ?_ _ | refine kD ?_ | refine kA ?_ _)); refine blk_put (cs := #[.int .i64 (wrap64 (1 + t293)), .int .i64 (wrap64 (1 + t296)), .slice none 0 0, .int .i64 0]) ?_ 2 _ rfl; (with_reducible repeat (first | refine kN ?_ _ | refine kD ?_ | refine kA ?_ _)); refine blk_put (cs := #[.int .i64 (wrap64 (1 + t293)), .int .i64 0, .slice none 0 0, .int .i64 0]) ?_ 1 _ rfl; (with_reducible repeat (first | refine kN ?_ _ | refine kD ?_ | refine kA ?_ _)); refine blk_put (cs := #[.int .i64 0, .int .i64 0, .slice none 0 0, .int .i64 0]) ?_ 0 _ rfl; (with_reducible repeat (first | refine kN ?_ _ | refine kD ?_ | refine kA ?_ _)); exact BK292.out) Try.underlying53 rfl (by kernel_rfl)) rfl ?_
        exact ⟨_, by first | rfl | (simp [errW_none, errW_some] <;> rfl) | (simp [*, errW_none, errW_some] <;> rfl), by (with_reducible repeat (first | apply Kd.RA | apply Kd.RN | apply Kd.RD)); exact Kd.R_mono (Kd.R_far (p := ⟨gb292, 3, none⟩) (Kd.R_far (p := ⟨gb292, 2, none⟩) (Kd.R_far (p := ⟨gb292, 1, none⟩) (Kd.R_far (p := ⟨gb292, 0, none⟩) (Kd.R_types HO_303002.out BK292.out (by decide)) (fun _ hk => hk.2) (.int .i64 (wrap64 (1 + t293)))) (fun _ hk => hk.2) (.int .i64 (wrap64 (1 + t296)))) (fun _ hk => hk.2) (.slice Ao72 x303002_41.length co72)) (fun _ hk => hk.2) (.int .i64 (wrap64 (60 + t299)))) (fun _ hk => trivial), by repeat (first | (with_reducible first | exact HI0.out | apply IsS173.alloc | apply IsS173.drewN | apply IsS173.drew | apply IsS173.set_1 | apply IsS173.set_2 | refine IsS173.far ?_ NB0_292.out _ | refine IsS173.far ?_ NB0_302.out _) | exact HI0.out), by repeat (first | (with_reducible first | exact HB.out | apply bA | apply bN | apply b1 | refine bS ?_ (IsS173.ge HI0.out) | refine bS ?_ GE292.out | refine bS ?_ GE302.out) | exact HB.out), by repeat (first | (with_reducible first | exact HK.out | apply KeepBut.set_ | apply keep_drewN | apply keep_drew | apply keep_alloc | refine keep_far ?_ GW292.out _ | refine keep_far ?_ GW302.out _) | exact HK.out)⟩
       subst c56
       have H1 : ((spec_l4Raw.f s0_0 t326 t327).bind fun bt328 => (some ((wrap64 (1 + t293)), (wrap64 (1 + t296)), x303002_41, bt328.1, bt328.2.1, bt328.2.2))) = some (r1, r2, r3, r4, r5, r6) := by rw [if_pos rfl] at H; exact H
       clear H
       have H := H1
       clear H1
       replace H := Option.bind_eq_some_iff.mp H
       obtain ⟨⟨t328, t329, t330⟩, A570, H⟩ := H
       replace H : (some ((wrap64 (1 + t293)), (wrap64 (1 + t296)), x303002_41, t328, t329, t330)) = some (r1, r2, r3, r4, r5, r6) := H
       have A57 := zK A570
       clear A570
       simp only [Option.some.injEq, Prod.mk.injEq] at H
       obtain ⟨rfl, rfl, rfl, rfl, rfl, rfl⟩ := H
       go_wp2_with (first | ((with_reducible refine gate_callee (f := 147) rfl ?_); refine goesL_ (some 54) rfl rfl Try.func147 (by kernel_rfl) rfl #[.pointer (some ⟨g, 0, none⟩), .int .i64 12] rfl (by (try simp only [List.map_toArray, List.map_cons, List.map_nil]); first | done | rfl | (simp only [List.length_drop, List.length_take]; rfl)) ?_; (with_reducible refine (spec_l1Once.calls g s0_0 x1001_41 x1002_41 12 true t326 t327 w0 _ ?side1 ?side2 A55.out).mono ?_); (case side1 => repeat (first | (with_reducible first | exact HI0.out | apply IsS173.alloc | apply IsS173.drewN | apply IsS173.drew | apply IsS173.set_1 | apply IsS173.set_2 | refine IsS173.far ?_ NB0_292.out _ | refine IsS173.far ?_ NB0_302.out _) | exact HI0.out)); (case side2 => repeat (first | (with_reducible first | exact HB.out | apply bA | apply bN | apply b1 | refine bS ?_ (IsS173.ge HI0.out) | refine bS ?_ GE292.out | refine bS ?_ GE302.out) | exact HB.out)); rintro e w58 ⟨rfl, hi, hb, hk⟩; refine ⟨_, rfl, ?_⟩; have n0_ := zK (Kd.R_mono (Kd.R_keep (IsS173.apart (show IsS173 w0 _ g s0_0 x1001_41 x1002_41 from by repeat (first | (with_reducible first | exact HI0.out | apply IsS173.alloc | apply IsS173.drewN | apply IsS173.drew | apply IsS173.set_1 | apply IsS173.set_2 | refine IsS173.far ?_ NB0_292.out _ | refine IsS173.far ?_ NB0_302.out _) | exact HI0.out)) (by (with_reducible repeat (first | apply Kd.RA | apply Kd.RN | apply Kd.RD)); exact HO_303002.out) (by decide)) hk (fun _ h => h.2)) (fun _ h => h.1)); have n1_ := zK (KeepBut.blk hk (g' := gb292) (o := .cells #[.int .i64 0, .int .i64 0, .slice none 0 0, .int .i64 0] 53 (0, 0)) (by (with_reducible repeat (first | refine kN ?_ _ | refine kD ?_ | refine kA ?_ _)); exact BK292.out) NB292_0.out (by simp)); have n2_ := zK (KeepBut.blk hk (g' := gb302) (o := .cells #[.int .i64 (wrap64 (1 + t293)), .int .i64 (wrap64 (1 + t296)), u303002, .int .i64 (wrap64 (60 + t299))] 53 (0, 0)) (by (with_reducible repeat (first | refine kN ?_ _ | refine kD ?_ | refine kA ?_ _)); exact BK302.out) NB302_0.out (by simp)); have n3_ := zK (KeepBut.trans (by repeat (first | (with_reducible first | exact HK.out | apply KeepBut.set_ | apply keep_drewN | apply keep_drew | apply keep_alloc | refine keep_far ?_ GW292.out _ | refine keep_far ?_ GW302.out _) | exact HK.out)) hk (.inl rfl)); have n4_ := zK (hb); have n5_ := zK (hi); clear HO_303002; clear BK292; clear BK302; clear HK; clear HB; clear HI0; have HO_303002 := n0_; have BK292 := n1_; have BK302 := n2_; have HK := n3_; have HB := n4_; have HI0 := n5_; clear n0_ n1_ n2_ n3_ n4_ n5_; (try clear hb); (try clear hb2); (try clear hk); (try clear hi)) | ((with_reducible refine gate_callee (f := 146) rfl ?_); refine goesL_ (some 56) rfl rfl Try.func146 (by kernel_rfl) rfl #[.pointer (some ⟨g, 0, none⟩)] rfl (by (try simp only [List.map_toArray, List.map_cons, List.map_nil]); first | done | rfl | (simp only [List.length_drop, List.length_take]; rfl)) ?_; (with_reducible refine (spec_l4Raw.calls g s0_0 t326 t327 t328 t329 t330 w0 _ ?side1 ?side2 A57.out).mono ?_); (case side1 => repeat (first | (with_reducible first | exact HI0.out | apply IsS173.alloc | apply IsS173.drewN | apply IsS173.drew | apply IsS173.set_1 | apply IsS173.set_2 | refine IsS173.far ?_ NB0_292.out _ | refine IsS173.far ?_ NB0_302.out _) | exact HI0.out)); (case side2 => repeat (first | (with_reducible first | exact HB.out | apply bA | apply bN | apply b1 | refine bS ?_ (IsS173.ge HI0.out) | refine bS ?_ GE292.out | refine bS ?_ GE302.out) | exact HB.out)); rintro e w59 ⟨rfl, hi, hb, hk⟩; refine ⟨_, rfl, ?_⟩; have n0_ := zK (Kd.R_mono (Kd.R_keep (IsS173.apart (show IsS173 w0 _ g s0_0 t326 t327 from by repeat (first | (with_reducible first | exact HI0.out | apply IsS173.alloc | apply IsS173.drewN | apply IsS173.drew | apply IsS173.set_1 | apply IsS173.set_2 | refine IsS173.far ?_ NB0_292.out _ | refine IsS173.far ?_ NB0_302.out _) | exact HI0.out)) (by (with_reducible repeat (first | apply Kd.RA | apply Kd.RN | apply Kd.RD)); exact HO_303002.out) (by decide)) hk (fun _ h => h.2)) (fun _ h => h.1)); have n1_ := zK (KeepBut.blk hk (g' := gb292) (o := .cells #[.int .i64 0, .int .i64 0, .slice none 0 0, .int .i64 0] 53 (0, 0)) (by (with_reducible repeat (first | refine kN ?_ _ | refine kD ?_ | refine kA ?_ _)); exact BK292.out) NB292_0.out (by simp)); have n2_ := zK (KeepBut.blk hk (g' := gb302) (o := .cells #[.int .i64 (wrap64 (1 + t293)), .int .i64 (wrap64 (1 + t296)), u303002, .int .i64 (wrap64 (60 + t299))] 53 (0, 0)) (by (with_reducible repeat (first | refine kN ?_ _ | refine kD ?_ | refine kA ?_ _)); exact BK302.out) NB302_0.out (by simp)); have n3_ := zK (KeepBut.trans (by repeat (first | (with_reducible first | exact HK.out | apply KeepBut.set_ | apply keep_drewN | apply keep_drew | apply keep_alloc | refine keep_far ?_ GW292.out _ | refine keep_far ?_ GW302.out _) | exact HK.out)) hk (.inl rfl)); have n4_ := zK (hb); have n5_ := zK (hi); clear HO_303002; clear BK292; clear BK302; clear HK; clear HB; clear HI0; have HO_303002 := n0_; have BK292 := n1_; have BK302 := n2_; have HK := n3_; have HB := n4_; have HI0 := n5_; clear n0_ n1_ n2_ n3_ n4_ n5_; (try clear hb); (try clear hb2); (try clear hk); (try clear hi); have hnb60 := NB302_292.out; have hnc60 := NB292_302.out; have hnb61 := NB302_0.out; have hnc61 := NB0_302.out; have hcz62_0 : w59.cell? ⟨gb302, 0, none⟩ = some (.int .i64 (wrap64 (1 + t293))) := (bc BK302.out 0).trans rfl; have hcz62_1 : w59.cell? ⟨gb302, 1, none⟩ = some (.int .i64 (wrap64 (1 + t296))) := (bc BK302.out 1).trans rfl; have hcz62_2 : w59.cell? ⟨gb302, 2, none⟩ = some (u303002) := (bc BK302.out 2).trans rfl; have hcz62_3 : w59.cell? ⟨gb302, 3, none⟩ = some (.int .i64 (wrap64 (60 + t299))) := (bc BK302.out 3).trans rfl; have hfz62_0 := bf BK302.out 0; have hfz62_1 := bf BK302.out 1; have hfz62_2 := bf BK302.out 2; have hfz62_3 := bf BK302.out 3; have hnb63 := NB292_0.out; have hnc63 := NB0_292.out; have hcz64_0 : w59.cell? ⟨gb292, 0, none⟩ = some (.int .i64 0) := (bc BK292.out 0).trans rfl; have hcz64_1 : w59.cell? ⟨gb292, 1, none⟩ = some (.int .i64 0) := (bc BK292.out 1).trans rfl; have hcz64_2 : w59.cell? ⟨gb292, 2, none⟩ = some (.slice none 0 0) := (bc BK292.out 2).trans rfl; have hcz64_3 : w59.cell? ⟨gb292, 3, none⟩ = some (.int .i64 0) := (bc BK292.out 3).trans rfl; have hfz64_0 := bf BK292.out 0; have hfz64_1 := bf BK292.out 1; have hfz64_2 := bf BK292.out 2; have hfz64_3 := bf BK292.out 3; obtain ⟨Ao65, co65, eo65⟩ := Kd.R_slice HO_303002.out; subst eo65))
       refine bodyPost_ret (results_cell_row rfl _ _ gb292 53 #[.int .i64 (wrap64 (1 + t293)), .int .i64 (wrap64 (1 + t296)), .slice Ao65 x303002_41.length co65, .int .i64 t328] (0, 0) _ rfl (by (with_reducible repeat (first | refine kN ?_ _ | refine kD ?_ | refine kA ?_ _)); refine blk_put (cs := #[.int .i64 (wrap64 (1 + t293)), .int .i64 (wrap64 (1 + t296)), .slice Ao65 x303002_41.length co65, .int .i64 0]) ?_ 3 _ rfl; (with_reducible repeat (first | refine kN ?_ _ | refine kD ?_ | refine kA ?_ _)); refine blk_put (cs := #[.int .i64 (wrap64 (1 + t293)), .int .i64 (wrap64 (1 + t296)), .slice none 0 0, .int .i64 0]) ?_ 2 _ rfl; (with_reducible repeat (first | refine kN ?_ _ | refine kD ?_ | refine kA ?_ _)); refine blk_put (cs := #[.int .i64 (wrap64 (1 + t293)), .int .i64 0, .slice none 0 0, .int .i64 0]) ?_ 1 _ rfl; (with_reducible repeat (first | refine kN ?_ _ | refine kD ?_ | refine kA ?_ _)); refine blk_put (cs := #[.int .i64 0, .int .i64 0, .slice none 0 0, .int .i64 0]) ?_ 0 _ rfl; (with_reducible repeat (first | refine kN ?_ _ | refine kD ?_ | refine kA ?_ _)); refine blk_far ?_ NB292_302.out _; (with_reducible repeat (first | refine kN ?_ _ | refine kD ?_ | refine kA ?_ _)); exact BK292.out) Try.underlying53 rfl (by kernel_rfl)) rfl ?_
       exact ⟨_, by first | rfl | (simp [errW_none, errW_some] <;> rfl) | (simp [*, errW_none, errW_some] <;> rfl), by (with_reducible repeat (first | apply Kd.RA | apply Kd.RN | apply Kd.RD)); exact Kd.R_mono (Kd.R_far (p := ⟨gb292, 3, none⟩) (Kd.R_far (p := ⟨gb292, 2, none⟩) (Kd.R_far (p := ⟨gb292, 1, none⟩) (Kd.R_far (p := ⟨gb292, 0, none⟩) (Kd.R_far (p := ⟨gb302, 3, none⟩) (Kd.R_types (Kd.R_types HO_303002.out BK302.out (by decide)) BK292.out (by decide)) (fun _ hk => hk.1.2) (.int .i64 t328)) (fun _ hk => hk.2) (.int .i64 (wrap64 (1 + t293)))) (fun _ hk => hk.2) (.int .i64 (wrap64 (1 + t296)))) (fun _ hk => hk.2) (.slice Ao65 x303002_41.length co65)) (fun _ hk => hk.2) (.int .i64 t328)) (fun _ hk => trivial), by repeat (first | (with_reducible first | exact HI0.out | apply IsS173.alloc | apply IsS173.drewN | apply IsS173.drew | apply IsS173.set_1 | apply IsS173.set_2 | refine IsS173.far ?_ NB0_292.out _ | refine IsS173.far ?_ NB0_302.out _) | exact HI0.out), by repeat (first | (with_reducible first | exact HB.out | apply bA | apply bN | apply b1 | refine bS ?_ (IsS173.ge HI0.out) | refine bS ?_ GE292.out | refine bS ?_ GE302.out) | exact HB.out), by repeat (first | (with_reducible first | exact HK.out | apply KeepBut.set_ | apply keep_drewN | apply keep_drew | apply keep_alloc | refine keep_far ?_ GW292.out _ | refine keep_far ?_ GW302.out _) | exact HK.out)⟩
/-! ### spec_DrawSendParcel: function 31 -/
def spec_DrawSendParcel.f (k : Nat) (l0 : List Int) : Option ((List (S138)) × Int × Int × List Int × Int) := (spec_l1New.f k l0).bind fun bt332 => ((spec_l16Any.f k bt332.1 bt332.2.1 bt332.2.2).bind fun bt336 => ((spec_l22One.f k bt332.1 bt336.2.1 bt336.2.2 bt336.1).bind fun bt341 => (some (bt336.1, bt341.1, bt341.2.1, bt341.2.2.1, bt341.2.2.2.1))))
set_option maxHeartbeats 8000000 in
set_option maxRecDepth 100000 in
theorem spec_DrawSendParcel.calls (k : Nat) (A0 : Option Addr) (c0 : Nat) (l0 : List Int) (r1 : List (S138)) (r2 : Int) (r3 : Int) (r4 : List Int) (r5 : Int) (w : World) (hr0 : Kd.C (Kd.int .u8) w A0 l0.length l0) (hc0 : l0.length ≤ c0) (h : spec_DrawSendParcel.f k l0 = some (r1, r2, r3, r4, r5)) :
  Calls Try.prog 31 #[.slice A0 l0.length c0] w fun e w' => ∃ v0_ v3_ : Value, e = .returned (.tuple #[v0_, .agg #[.int .i64 r2, .int .i64 r3, v3_, .int .i64 r5]]) ∧ Kd.R k138 138 w' w.heap.size (fun _ => True) v0_ r1 ∧ Kd.R (Kd.int .i64) 3 w' w.heap.size (fun _ => True) v3_ r4 ∧ Below w.heap.size w w' := by
 have hu53 := Try.underlying53
 have HR0 := zK hr0
 have HC0 := zK hc0
 clear hr0 hc0
 have HB := zK (Below.refl w.heap.size w)
 have H : ((spec_l1New.f k l0).bind fun bt332 => ((spec_l16Any.f k bt332.1 bt332.2.1 bt332.2.2).bind fun bt336 => ((spec_l22One.f k bt332.1 bt336.2.1 bt336.2.2 bt336.1).bind fun bt341 => (some (bt336.1, bt341.1, bt341.2.1, bt341.2.2.1, bt341.2.2.2.1))))) = some (r1, r2, r3, r4, r5) := h
 clear h
 replace H := Option.bind_eq_some_iff.mp H
 obtain ⟨⟨t332, t333, t334⟩, A20, H⟩ := H
 replace H : ((spec_l16Any.f k t332 t333 t334).bind fun bt336 => ((spec_l22One.f k t332 bt336.2.1 bt336.2.2 bt336.1).bind fun bt341 => (some (bt336.1, bt341.1, bt341.2.1, bt341.2.2.1, bt341.2.2.2.1)))) = some (r1, r2, r3, r4, r5) := H
 have A2 := zK A20
 clear A20
 replace H := Option.bind_eq_some_iff.mp H
 obtain ⟨⟨t336, t339, t340⟩, A30, H⟩ := H
 replace H : ((spec_l22One.f k t332 t339 t340 t336).bind fun bt341 => (some (t336, bt341.1, bt341.2.1, bt341.2.2.1, bt341.2.2.2.1))) = some (r1, r2, r3, r4, r5) := H
 have A3 := zK A30
 clear A30
 replace H := Option.bind_eq_some_iff.mp H
 obtain ⟨⟨t341, t342, t343, t346, t347, t348⟩, A40, H⟩ := H
 replace H : (some (t336, t341, t342, t343, t346)) = some (r1, r2, r3, r4, r5) := H
 have A4 := zK A40
 clear A40
 simp only [Option.some.injEq, Prod.mk.injEq] at H
 obtain ⟨rfl, rfl, rfl, rfl, rfl⟩ := H
 go_enter Try.func31, Try.ntmps31
 go_wp2_with (first | ((with_reducible refine gate_dst (N := 3) rfl ?_); refine box_event ?hg (N := 3) ?hd (cs := #[.int .i64 0, .int .i64 0, .slice none 0 0, .int .i64 0]) (t := 53) ?hr ?_; (case hd => rfl); (case hg => rfl); (case hr => first | (go_simp; done) | (go_simp; rfl)); intro gb331 hg w5 hbox hb; have n0_ := zK (bT (by repeat (first | (with_reducible first | exact HB.out | apply bA | apply bN | apply b1) | exact HB.out)) hb); have n1_ := zK (hbox); have n2_ := zK ((by rw [hg]; exact (bZ (by repeat (first | (with_reducible first | exact HB.out | apply bA | apply bN | apply b1) | exact HB.out))) : w.heap.size ≤ gb331)); have n3_ := zK ((by rw [hg]; exact (bZ (by repeat (first | (with_reducible first | exact HB.out | apply bA | apply bN | apply b1) | exact HB.out))) : w.heap.size ≤ gb331)); clear HB; have HB := n0_; have BK331 := n1_; have GW331 := n2_; have GE331 := n3_; clear n0_ n1_ n2_ n3_; clear hb hbox hg) | ((with_reducible refine gate_callee (f := 97) rfl ?_); refine goesL_ (some 7) rfl rfl Try.func97 (by kernel_rfl) rfl #[.slice A0 l0.length c0] rfl (by (try simp only [List.map_toArray, List.map_cons, List.map_nil]); first | done | rfl | (simp only [List.length_drop, List.length_take]; rfl)) ?_; (with_reducible refine (spec_l1New.calls k _ _ l0 t332 t333 t334 w _ ?side1 ?side2 ?side3 A2.out).mono ?_); (case side1 => repeat (first | (with_reducible first | exact HB.out | apply bA | apply bN | apply b1 | refine bS ?_ GE331.out) | exact HB.out)); (case side2 => exact HR0.out); (case side3 => exact HC0.out); rintro e w6 ⟨g335, rfl, hi, hb, hb2⟩; refine ⟨_, rfl, ?_⟩; have n0_ := zK (bB (g := gb331) (o := .cells #[.int .i64 0, .int .i64 0, .slice none 0 0, .int .i64 0] 53 (0, 0)) (by (with_reducible repeat (first | refine kN ?_ _ | refine kD ?_ | refine kA ?_ _)); exact BK331.out) hb2); have n1_ := zK (hb); have n2_ := zK (hi); have n3_ := zK (IsS173.ne_blk hi (bB (g := gb331) (o := .cells #[.int .i64 0, .int .i64 0, .slice none 0 0, .int .i64 0] 53 (0, 0)) (by (with_reducible repeat (first | refine kN ?_ _ | refine kD ?_ | refine kA ?_ _)); exact BK331.out) hb2) (by decide)); have n4_ := zK (Ne.symm (IsS173.ne_blk hi (bB (g := gb331) (o := .cells #[.int .i64 0, .int .i64 0, .slice none 0 0, .int .i64 0] 53 (0, 0)) (by (with_reducible repeat (first | refine kN ?_ _ | refine kD ?_ | refine kA ?_ _)); exact BK331.out) hb2) (by decide))); clear BK331; clear HB; have BK331 := n0_; have HB := n1_; have HI335 := n2_; have NB335_331 := n3_; have NB331_335 := n4_; clear n0_ n1_ n2_ n3_ n4_; (try clear hb); (try clear hb2); (try clear hk); (try clear hi)) | ((with_reducible refine gate_callee (f := 98) rfl ?_); refine goesL_ (some 9) rfl rfl Try.func98 (by kernel_rfl) rfl #[.pointer (some ⟨g335, 0, none⟩)] rfl (by (try simp only [List.map_toArray, List.map_cons, List.map_nil]); first | done | rfl | (simp only [List.length_drop, List.length_take]; rfl)) ?_; (with_reducible refine (spec_l16Any.calls k g335 t332 t333 t334 t336 t339 t340 w _ ?side1 ?side2 A3.out).mono ?_); (case side1 => repeat (first | (with_reducible first | exact HI335.out | apply IsS173.alloc | apply IsS173.drewN | apply IsS173.drew | apply IsS173.set_1 | apply IsS173.set_2 | refine IsS173.far ?_ NB335_331.out _) | exact HI335.out)); (case side2 => repeat (first | (with_reducible first | exact HB.out | apply bA | apply bN | apply b1 | refine bS ?_ (IsS173.ge HI335.out) | refine bS ?_ GE331.out) | exact HB.out)); rintro e w7 ⟨v337, rfl, ho0, hi, hb, hk⟩; refine ⟨_, rfl, ?_⟩; have n0_ := zK (KeepBut.blk hk (g' := gb331) (o := .cells #[.int .i64 0, .int .i64 0, .slice none 0 0, .int .i64 0] 53 (0, 0)) (by (with_reducible repeat (first | refine kN ?_ _ | refine kD ?_ | refine kA ?_ _)); exact BK331.out) NB331_335.out (by simp)); have n1_ := zK (Kd.R_lower ho0 (bZ (by repeat (first | (with_reducible first | exact HB.out | apply bA | apply bN | apply b1 | refine bS ?_ (IsS173.ge HI335.out) | refine bS ?_ GE331.out) | exact HB.out)))); have n2_ := zK (hb); have n3_ := zK (hi); clear BK331; clear HB; clear HI335; have BK331 := n0_; have HO338 := n1_; have HB := n2_; have HI335 := n3_; clear n0_ n1_ n2_ n3_; (try clear hb); (try clear hb2); (try clear hk); (try clear hi); (try clear ho0); obtain ⟨Ao8, co8, eo8⟩ := Kd.R_slice HO338.out; subst eo8) | ((with_reducible refine gate_callee (f := 99) rfl ?_); refine goesL_ (some 13) rfl rfl Try.func99 (by kernel_rfl) rfl #[.pointer (some ⟨g335, 0, none⟩), .slice Ao8 t336.length co8] rfl (by (try simp only [List.map_toArray, List.map_cons, List.map_nil]); first | done | rfl | (simp only [List.length_drop, List.length_take]; rfl)) ?_; (with_reducible refine (spec_l22One.calls k g335 t332 t339 t340 _ _ t336 t341 t342 t343 t346 t347 t348 w _ ?side1 ?side2 ?side3 ?side4 A4.out).mono ?_); (case side1 => repeat (first | (with_reducible first | exact HI335.out | apply IsS173.alloc | apply IsS173.drewN | apply IsS173.drew | apply IsS173.set_1 | apply IsS173.set_2 | refine IsS173.far ?_ NB335_331.out _) | exact HI335.out)); (case side2 => repeat (first | (with_reducible first | exact HB.out | apply bA | apply bN | apply b1 | refine bS ?_ (IsS173.ge HI335.out) | refine bS ?_ GE331.out) | exact HB.out)); (case side3 => exact Kd.C_foot_own (IsS173.apart (show IsS173 w _ g335 t332 t339 t340 from by repeat (first | (with_reducible first | exact HI335.out | apply IsS173.alloc | apply IsS173.drewN | apply IsS173.drew | apply IsS173.set_1 | apply IsS173.set_2 | refine IsS173.far ?_ NB335_331.out _) | exact HI335.out)) (by (with_reducible repeat (first | apply Kd.RA | apply Kd.RN | apply Kd.RD)); exact HO338.out) (by decide)) (fun _ h_ => h_.2)); (case side4 => exact (Kd.R_reads' HO338.out).2.1); rintro e w9 ⟨v344, rfl, ho0, hi, hb, hk⟩; refine ⟨_, rfl, ?_⟩; have n0_ := zK (KeepBut.blk hk (g' := gb331) (o := .cells #[.int .i64 0, .int .i64 0, .slice none 0 0, .int .i64 0] 53 (0, 0)) (by (with_reducible repeat (first | refine kN ?_ _ | refine kD ?_ | refine kA ?_ _)); exact BK331.out) NB331_335.out (by simp)); have n1_ := zK (Kd.R_mono (Kd.R_keep (IsS173.apart (show IsS173 w _ g335 t332 t339 t340 from by repeat (first | (with_reducible first | exact HI335.out | apply IsS173.alloc | apply IsS173.drewN | apply IsS173.drew | apply IsS173.set_1 | apply IsS173.set_2 | refine IsS173.far ?_ NB335_331.out _) | exact HI335.out)) (by (with_reducible repeat (first | apply Kd.RA | apply Kd.RN | apply Kd.RD)); exact HO338.out) (by decide)) hk (fun _ h => h.2)) (fun _ h => h.1)); have n2_ := zK (Kd.R_lower ho0 (bZ (by repeat (first | (with_reducible first | exact HB.out | apply bA | apply bN | apply b1 | refine bS ?_ (IsS173.ge HI335.out) | refine bS ?_ GE331.out) | exact HB.out)))); have n3_ := zK (hb); have n4_ := zK (hi); clear BK331; clear HO338; clear HB; clear HI335; have BK331 := n0_; have HO338 := n1_; have HO345 := n2_; have HB := n3_; have HI335 := n4_; clear n0_ n1_ n2_ n3_ n4_; (try clear hb); (try clear hb2); (try clear hk); (try clear hi); (try clear ho0); have hnb10 := NB331_335.out; have hnc10 := NB335_331.out; have hcz11_0 : w9.cell? ⟨gb331, 0, none⟩ = some (.int .i64 0) := (bc BK331.out 0).trans rfl; have hcz11_1 : w9.cell? ⟨gb331, 1, none⟩ = some (.int .i64 0) := (bc BK331.out 1).trans rfl; have hcz11_2 : w9.cell? ⟨gb331, 2, none⟩ = some (.slice none 0 0) := (bc BK331.out 2).trans rfl; have hcz11_3 : w9.cell? ⟨gb331, 3, none⟩ = some (.int .i64 0) := (bc BK331.out 3).trans rfl; have hfz11_0 := bf BK331.out 0; have hfz11_1 := bf BK331.out 1; have hfz11_2 := bf BK331.out 2; have hfz11_3 := bf BK331.out 3; obtain ⟨Ao12, co12, eo12⟩ := Kd.R_slice HO345.out; subst eo12))
 refine bodyPost_ret (results_tc rfl _ _ gb331 53 #[.int .i64 t341, .int .i64 t342, .slice Ao12 t343.length co12, .int .i64 t346] (0, 0) _ rfl (by (with_reducible repeat (first | refine kN ?_ _ | refine kD ?_ | refine kA ?_ _)); refine blk_put (cs := #[.int .i64 t341, .int .i64 t342, .slice Ao12 t343.length co12, .int .i64 0]) ?_ 3 _ rfl; (with_reducible repeat (first | refine kN ?_ _ | refine kD ?_ | refine kA ?_ _)); refine blk_put (cs := #[.int .i64 t341, .int .i64 t342, .slice none 0 0, .int .i64 0]) ?_ 2 _ rfl; (with_reducible repeat (first | refine kN ?_ _ | refine kD ?_ | refine kA ?_ _)); refine blk_put (cs := #[.int .i64 t341, .int .i64 0, .slice none 0 0, .int .i64 0]) ?_ 1 _ rfl; (with_reducible repeat (first | refine kN ?_ _ | refine kD ?_ | refine kA ?_ _)); refine blk_put (cs := #[.int .i64 0, .int .i64 0, .slice none 0 0, .int .i64 0]) ?_ 0 _ rfl; (with_reducible repeat (first | refine kN ?_ _ | refine kD ?_ | refine kA ?_ _)); exact BK331.out) Try.underlying53 rfl (by kernel_rfl)) rfl ?_
 exact ⟨_, _, by first | rfl | (simp [errW_none, errW_some] <;> rfl) | (simp [*, errW_none, errW_some] <;> rfl), by (with_reducible repeat (first | apply Kd.RA | apply Kd.RN | apply Kd.RD)); exact Kd.R_mono (Kd.R_far (p := ⟨gb331, 3, none⟩) (Kd.R_far (p := ⟨gb331, 2, none⟩) (Kd.R_far (p := ⟨gb331, 1, none⟩) (Kd.R_far (p := ⟨gb331, 0, none⟩) (Kd.R_types HO338.out BK331.out (by decide)) (fun _ hk => hk.2) (.int .i64 t341)) (fun _ hk => hk.2) (.int .i64 t342)) (fun _ hk => hk.2) (.slice Ao12 t343.length co12)) (fun _ hk => hk.2) (.int .i64 t346)) (fun _ hk => trivial), by (with_reducible repeat (first | apply Kd.RA | apply Kd.RN | apply Kd.RD)); exact Kd.R_mono (Kd.R_far (p := ⟨gb331, 3, none⟩) (Kd.R_far (p := ⟨gb331, 2, none⟩) (Kd.R_far (p := ⟨gb331, 1, none⟩) (Kd.R_far (p := ⟨gb331, 0, none⟩) (Kd.R_types HO345.out BK331.out (by decide)) (fun _ hk => hk.2) (.int .i64 t341)) (fun _ hk => hk.2) (.int .i64 t342)) (fun _ hk => hk.2) (.slice Ao12 t343.length co12)) (fun _ hk => hk.2) (.int .i64 t346)) (fun _ hk => trivial), by repeat (first | (with_reducible first | exact HB.out | apply bA | apply bN | apply b1 | refine bS ?_ (IsS173.ge HI335.out) | refine bS ?_ GE331.out) | exact HB.out)⟩
/-! ### impl_lastHand: function 104 -/
def impl_lastHand.l0 : Nat → List (S138) → Int → Int → Option (Int)
 | 0, _, _, _ => none
 | k + 1, x0, x1, x5 => if x5 ≥ 0 then (if 0 ≤ x5 then (if x5 < (x0.length : Int) then (if ((rd_T138 x0 x5).f0) = x1 then (some x5) else (impl_lastHand.l0 k x0 x1 (wrap64 (x5 - 1)))) else (none)) else (none)) else (some (-1))
def impl_lastHand.f (k : Nat) (l0 : List (S138)) (a1 : Int) : Option (Int) := impl_lastHand.l0 k l0 a1 (wrap64 ((l0.length : Int) - 1))
set_option maxHeartbeats 8000000 in
set_option maxRecDepth 100000 in
theorem impl_lastHand.calls (k : Nat) (A0 : Option Addr) (c0 : Nat) (l0 : List (S138)) (a1 : Int) (r : Int) (w : World) (hr0 : Kd.C k138 w A0 l0.length l0) (hc0 : l0.length ≤ c0) (h : impl_lastHand.f k l0 a1 = some r) :
  Calls Try.prog 104 #[.slice A0 l0.length c0, .int .i64 a1] w fun e w' => e = .returned (.int .i64 r) ∧ Drawn0 w w' := by
 have HR0 := zK hr0
 have HC0 := zK hc0
 clear hr0 hc0
 have H : (impl_lastHand.l0 k l0 a1 (wrap64 ((l0.length : Int) - 1))) = some r := h
 clear h
 have H' := zK H
 clear H
 go_enter Try.func104, Try.ntmps104
 go_wp2
 go_loopg [5] k (fun kq v5 w' => ∃ (x5_1 : Int), v5 = .int .i64 x5_1 ∧ Aside0 (impl_lastHand.l0 kq l0 a1 x5_1 = some r) ∧ Aside0 (kq ≤ k) ∧ Drawn0 w w')
 case atStart => exact ⟨(wrap64 ((l0.length : Int) - 1)), (by first | rfl | (simp; done) | (simp [*]; done)), H', ⟨Nat.le_refl _⟩, by repeat (first | exact Drawn0.refl _ | apply Drawn0.step)⟩
 case round =>
  clear H'
  try clear c1
  try clear p2
  obtain ⟨x5_1, rfl, HA, HK1, ⟨m1, rfl⟩⟩ := hrel
  cases gk with
  | zero => exact absurd HA.out (by simp [impl_lastHand.l0])
  | succ k1 =>
   have H := HA.out
   clear HA
   simp only [impl_lastHand.l0] at H
   by_cases c3 : x5_1 ≥ 0
   rotate_left
   ·rw [if_neg c3] at H
    have c3b0 : decide (0 ≤ x5_1) = false := decide_eq_false c3
    clear c3
    obtain rfl := Option.some.inj H
    go_wp2
    go_ret
    exact ⟨by first | rfl | (simp; done) | (simp [*]; done), by repeat (first | exact Drawn0.refl _ | apply Drawn0.step)⟩
   rw [if_pos c3] at H
   have c3b0 : decide (0 ≤ x5_1) = true := decide_eq_true c3
   clear c3
   by_cases c4 : 0 ≤ x5_1
   rotate_left
   ·rw [if_neg c4] at H
    exact absurd H (by simp)
   rw [if_pos c4] at H
   have c4b0 : decide (0 ≤ x5_1) = true := decide_eq_true c4
   clear c4
   by_cases c5 : x5_1 < (l0.length : Int)
   rotate_left
   ·rw [if_neg c5] at H
    exact absurd H (by simp)
   rw [if_pos c5] at H
   have c5b0 : decide (x5_1 < (l0.length : Int)) = true := decide_eq_true c5
   clear c5
   by_cases c6 : ((rd_T138 l0 x5_1).f0) = a1
   ·rw [if_pos c6] at H
    have c6b0 : (((rd_T138 l0 x5_1).f0) == a1) = true := beq_iff_eq.mpr c6
    have c6b1 : (((rd_T138 l0 x5_1).f0) != a1) = false := bne_eq_false_iff_eq.mpr c6
    clear c6
    obtain rfl := Option.some.inj H
    have p349 : 0 ≤ (x5_1 : Int) := oD (by first | (with_reducible assumption) | assumption)
    have q349 : x5_1 < (l0.length : Int) := oD (by first | (with_reducible assumption) | assumption)
    obtain ⟨ad349, e349, hx349_0, hx349_1, hx349_2, hx349_3, hx349_4⟩ := at_T138 HR0.out x5_1 p349 q349
    cases e349
    replace p349 := eq_true p349
    replace q349 := eq_true q349
    go_wp2
    go_ret
    exact ⟨by first | rfl | (simp; done) | (simp [*]; done), by repeat (first | exact Drawn0.refl _ | apply Drawn0.step)⟩
   rw [if_neg c6] at H
   have c6b0 : (((rd_T138 l0 x5_1).f0) == a1) = false := beq_eq_false_iff_ne.mpr c6
   have c6b1 : (((rd_T138 l0 x5_1).f0) != a1) = true := bne_iff_ne.mpr c6
   have H' := zK H
   clear H
   have p349 : 0 ≤ (x5_1 : Int) := oD (by first | (with_reducible assumption) | assumption)
   have q349 : x5_1 < (l0.length : Int) := oD (by first | (with_reducible assumption) | assumption)
   obtain ⟨ad349, e349, hx349_0, hx349_1, hx349_2, hx349_3, hx349_4⟩ := at_T138 HR0.out x5_1 p349 q349
   cases e349
   replace p349 := eq_true p349
   replace q349 := eq_true q349
   go_wp2
   go_roundg k1
   case measure => have := HK1.out; omega
   case rel => exact ⟨(wrap64 (x5_1 - 1)), (by first | rfl | (simp; done) | (simp [*]; done)), H', ⟨by have := HK1.out; omega⟩, by repeat (first | exact Drawn0.refl _ | apply Drawn0.step)⟩
/-! ### impl_InRange: function 106 -/
def impl_InRange.f (a0 : Int) (a1 : Int) (a2 : Int) : Option (Bool) := if a1 ≤ a0 then (some (decide (a0 ≤ a2))) else (some false)
set_option maxHeartbeats 8000000 in
set_option maxRecDepth 100000 in
theorem impl_InRange.calls (a0 : Int) (a1 : Int) (a2 : Int) (r : Bool) (w : World) (h : impl_InRange.f a0 a1 a2 = some r) :
  Calls Try.prog 106 #[.int .i64 a0, .int .i64 a1, .int .i64 a2] w fun e w' => e = .returned (.bool r) ∧ Drawn0 w w' := by
 have H : (if a1 ≤ a0 then (some (decide (a0 ≤ a2))) else (some false)) = some r := h
 clear h
 by_cases c4 : a1 ≤ a0
 ·rw [if_pos c4] at H
  have c4b0 : decide (a1 ≤ a0) = true := decide_eq_true c4
  clear c4
  obtain rfl := Option.some.inj H
  go_enter Try.func106, Try.ntmps106
  go_wp2
  go_ret
  exact ⟨by first | rfl | (simp; done) | (simp [*]; done), by repeat (first | exact Drawn0.refl _ | apply Drawn0.step)⟩
 rw [if_neg c4] at H
 have c4b0 : decide (a1 ≤ a0) = false := decide_eq_false c4
 clear c4
 obtain rfl := Option.some.inj H
 go_enter Try.func106, Try.ntmps106
 go_wp2
 go_ret
 exact ⟨by first | rfl | (simp; done) | (simp [*]; done), by repeat (first | exact Drawn0.refl _ | apply Drawn0.step)⟩

end Go.Proofs.Ytejhjenlodclpaa.PFnParcels
