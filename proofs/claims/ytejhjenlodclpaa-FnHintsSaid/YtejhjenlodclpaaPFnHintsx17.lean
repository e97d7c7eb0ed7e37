/- Walks of functions that FnHints reaches, shortened. -/
import Derived.Test.YtejhjenlodclpaaPFnHintsx0
import Derived.Test.YtejhjenlodclpaaPFnHintsx9
import Derived.Test.YtejhjenlodclpaaPFnHintsx10
import Derived.Test.YtejhjenlodclpaaPFnHintsx16
namespace Go.Proofs.Ytejhjenlodclpaa.PFnHints
open Go.RowKit Go.Proofs.YtejhjenlodclpaaW.PrintWords Go.Proofs.YtejhjenlodclpaaW.PrintLast Go.Proofs.YtejhjenlodclpaaW.PrintMore
attribute [local go_sem] max2_int min2_int max_two min_two max_three min_three max_four min_four
set_option linter.unusedVariables false
set_option linter.unusedSimpArgs false

abbrev b17A0 : Array Bool := #[O, O, O, O, O, O, O, O, O, O, O, O, O, O, O, O]
abbrev b17A1 : Array Bool := #[O, I, O, O, O, O, O, O, O, O, O, O, O, O, O, O]
abbrev b17A2 : Array Bool := #[O, I, O, I, O, O, O, O, O, O, O, O, O, O, O, O]
abbrev b17A3 : Array Bool := #[O, I, O, I, O, I, O, O, O, O, O, O, O, O, O, O]
abbrev b17A4 : Array Bool := #[O, I, O, I, O, I, O, I, O, O, O, O, O, O, O, O]
abbrev b17A5 : Array Bool := #[O, I, O, I, O, I, O, I, O, I, O, O, O, O, O, O]
abbrev b17A6 : Array Bool := #[O, I, O, I, O, I, O, I, O, I, O, O, I, O, O, O]
abbrev b17A7 : Array Bool := #[I, I, O, I, O, I, O, I, O, I, O, O, I, O, O, O]
abbrev b17A8 : Array Bool := #[I, I, I, I, I, I, I, I, I, I, I, I, I, I, O, O]
abbrev b17A9 : Array Bool := #[I, I, I, I, I, I, I, I, I, I, I, I, I, O, O, O]
abbrev b17A10 : Array Bool := #[I, I, I, I, I, I, I, I, I, I, I, O, I, I, O, O]
abbrev b17A11 : Array Bool := #[I, I, I, I, I, I, I, I, I, I, I, O, I, O, O, O]
abbrev b17A12 : Array Bool := #[I, I, I, I, I, I, O, I, I, I, I, O, I, I, O, O]
abbrev b17A13 : Array Bool := #[I, I, I, I, I, I, I, I, I, I, O, O, I, O, O, O]
abbrev b17A14 : Array Bool := #[I, I, I, I, I, I, O, I, I, I, I, O, I, O, O, O]
abbrev b17A15 : Array Bool := #[I, I, I, I, I, I, I, I, O, I, O, O, I, O, O, O]
abbrev b17A16 : Array Bool := #[I, I, I, I, I, I, O, I, I, I, O, O, I, O, O, O]
abbrev b17A17 : Array Bool := #[I, I, I, I, I, I, O, I, O, I, O, O, I, O, O, O]
abbrev b17A18 : Array Bool := #[I, I, I, I, O, I, I, I, O, I, O, O, I, O, O, O]
abbrev b17A19 : Array Bool := #[I, I, I, I, O, I, O, I, O, I, O, O, I, O, O, O]
abbrev b17A20 : Array Bool := #[I, I, O, I, O, I, I, I, O, I, O, O, I, O, O, O]
abbrev b17A21 : Array Bool := #[I, I, I, I, I, I, I, I, I, I, I, I, I, I, I, O]
abbrev b17A22 : Array Bool := #[I, I, I, I, I, I, I, I, I, I, I, I, I, I, I, I]
/-! ### spec_DrawAskHouses: function 79 -/
def spec_DrawAskHouses.f (k : Nat) (l0 : List Int) : Option (Int × Int × List Int × Int × Int × List Int × Int × Int × (List (List Int)) × Int) := (spec_DrawMayHave.f k l0).bind fun bt762 => ((spec_l1New.f k l0).bind fun bt779 => ((spec_l6List.f k bt779.1 bt779.2.1 bt779.2.2).bind fun bt783 => ((spec_HintsOf.f k bt783.1 bt762.2.2.2.2.2.2.2.2.2).bind fun t788 => ((spec_l6List.f k bt779.1 bt783.2.1 bt783.2.2).bind fun bt794 => ((spec_HintsOf.f k bt794.1 bt762.2.2.2.2.2.2.2.2.2).bind fun t799 => (some (bt762.1, bt762.2.1, bt762.2.2.1, bt762.2.2.2.1, bt762.2.2.2.2.1, bt762.2.2.2.2.2.1, bt762.2.2.2.2.2.2.1, bt762.2.2.2.2.2.2.2.1, (([t788, bt762.2.2.2.2.2.2.2.2.1, (([] : List Int)), t799] : List (List Int))), bt762.2.2.2.2.2.2.2.2.2)))))))
def spec_DrawAskHouses.T3 : Bool × List (List Nat × List Nat) := (true, [([], []), ([], []), ([1], [1]), ([], []), ([2, 3, 2], [2, 3]), ([], []), ([], []), ([], []), ([7, 4], [7]), ([], []), ([8, 9, 8], [8, 9]), ([4, 5, 6, 10], [4, 5, 6, 10]), ([], []), ([0, 10, 0], [0]), ([11, 13, 0, 1, 2, 3, 4, 5, 6, 7, 8, 9, 10, 11, 13], [11]), ([12, 14, 0, 1, 2, 3, 4, 5, 6, 7, 8, 9, 10, 11, 12, 13, 14], [12])])
def spec_DrawAskHouses.B3 : List Nat := [0, 0, 2, 0, 14, 0, 0, 0, 158, 0, 926, 2046, 0, 1951, 12287, 32767]
theorem spec_DrawAskHouses.tab3 : rtab .any (opsOf Try.f79 3) = spec_DrawAskHouses.T3 := by kernel_rfl
theorem spec_DrawAskHouses.bits3 : waitsOk spec_DrawAskHouses.T3.2 spec_DrawAskHouses.B3 = true := by kernel_rfl
set_option maxHeartbeats 8000000 in
set_option maxRecDepth 100000 in
theorem spec_DrawAskHouses.calls (k : Nat) (A0 : Option Addr) (c0 : Nat) (l0 : List Int) (r1 : Int) (r2 : Int) (r3 : List Int) (r4 : Int) (r5 : Int) (r6 : List Int) (r7 : Int) (r8 : Int) (r9 : List (List Int)) (r10 : Int) (w : World) (hr0 : Kd.C (Kd.int .u8) w A0 l0.length l0) (hc0 : l0.length ≤ c0) (h : spec_DrawAskHouses.f k l0 = some (r1, r2, r3, r4, r5, r6, r7, r8, r9, r10)) :
  Calls Try.prog 79 #[.slice A0 l0.length c0] w fun e w' => ∃ v2_ v5_ v8_ : Value, e = .returned (.tuple #[.agg #[.int .i64 r1, .int .i64 r2, v2_, .int .i64 r4, .int .i64 r5, v5_, .int .i64 r7, .int .i64 r8], v8_, .int .i64 r10]) ∧ Kd.R (Kd.int .i64) 3 w' w.heap.size (fun k_ => (w.heap.size ≤ k_) ∧ some k_ ≠ (v5_ : Value).ownBlock) v2_ r3 ∧ Kd.R (Kd.int .i64) 3 w' w.heap.size (fun k_ => (w.heap.size ≤ k_) ∧ some k_ ≠ (v2_ : Value).ownBlock) v5_ r6 ∧ Kd.N (Kd.slice 3 (Kd.int .i64)) 24 w' w.heap.size (fun k_ => (w.heap.size ≤ k_) ∧ some k_ ≠ (v2_ : Value).ownBlock ∧ some k_ ≠ (v5_ : Value).ownBlock) v8_ r9 ∧ Below w.heap.size w w' := by
 have hu41 := Try.underlying41
 have HR0 := zK hr0
 have HC0 := zK hc0
 clear hr0 hc0
 have HB := zK (Below.refl w.heap.size w)
 have H : ((spec_DrawMayHave.f k l0).bind fun bt762 => ((spec_l1New.f k l0).bind fun bt779 => ((spec_l6List.f k bt779.1 bt779.2.1 bt779.2.2).bind fun bt783 => ((spec_HintsOf.f k bt783.1 bt762.2.2.2.2.2.2.2.2.2).bind fun t788 => ((spec_l6List.f k bt779.1 bt783.2.1 bt783.2.2).bind fun bt794 => ((spec_HintsOf.f k bt794.1 bt762.2.2.2.2.2.2.2.2.2).bind fun t799 => (some (bt762.1, bt762.2.1, bt762.2.2.1, bt762.2.2.2.1, bt762.2.2.2.2.1, bt762.2.2.2.2.2.1, bt762.2.2.2.2.2.2.1, bt762.2.2.2.2.2.2.2.1, (([t788, bt762.2.2.2.2.2.2.2.2.1, (([] : List Int)), t799] : List (List Int))), bt762.2.2.2.2.2.2.2.2.2)))))))) = some (r1, r2, r3, r4, r5, r6, r7, r8, r9, r10) := h
 clear h
 replace H := Option.bind_eq_some_iff.mp H
 obtain ⟨⟨t762, t763, t764, t767, t768, t769, t772, t773, t774, t777⟩, A20, H⟩ := H
 try dsimp only at H
 have A2 := zK A20
 clear A20
 replace H := Option.bind_eq_some_iff.mp H
 obtain ⟨⟨t779, t780, t781⟩, A30, H⟩ := H
 try dsimp only at H
 have A3 := zK A30
 clear A30
 replace H := Option.bind_eq_some_iff.mp H
 obtain ⟨⟨t783, t786, t787⟩, A40, H⟩ := H
 try dsimp only at H
 have A4 := zK A40
 clear A40
 replace H := Option.bind_eq_some_iff.mp H
 obtain ⟨t788, A50, H⟩ := H
 try dsimp only at H
 have A5 := zK A50
 clear A50
 obtain ⟨y791, hy791⟩ : ∃ y_ : List Int, y_ = (([] : List Int)) := ⟨_, rfl⟩
 replace H : ((spec_l6List.f k t779 t786 t787).bind fun bt794 => ((spec_HintsOf.f k bt794.1 t777).bind fun t799 => (some (t762, t763, t764, t767, t768, t769, t772, t773, (([t788, t774, y791, t799] : List (List Int))), t777)))) = some (r1, r2, r3, r4, r5, r6, r7, r8, r9, r10) := have he_ := hy791; rH
 have Ny791 := zK hy791
 clear hy791
 replace H := Option.bind_eq_some_iff.mp H
 obtain ⟨⟨t794, t797, t798⟩, A60, H⟩ := H
 try dsimp only at H
 have A6 := zK A60
 clear A60
 replace H := Option.bind_eq_some_iff.mp H
 obtain ⟨t799, A70, H⟩ := H
 try dsimp only at H
 have A7 := zK A70
 clear A70
 obtain ⟨y802, hy802⟩ : ∃ y_ : List (List Int), y_ = (([t788, t774, y791, t799] : List (List Int))) := ⟨_, rfl⟩
 replace H : (some (t762, t763, t764, t767, t768, t769, t772, t773, y802, t777)) = some (r1, r2, r3, r4, r5, r6, r7, r8, r9, r10) := have he_ := hy802; rH
 have Ny802 := zK hy802
 clear hy802
 simp only [Option.some.injEq, Prod.mk.injEq] at H
 obtain ⟨rfl, rfl, rfl, rfl, rfl, rfl, rfl, rfl, rfl, rfl⟩ := H
 go_enter Try.func79, Try.ntmps79
 try go_wp2_with (first | ((with_reducible refine gd (N := 2) rfl ?_); refine bE (N := 2) (cs := #[.int .i64 0, .int .i64 0, .slice none 0 0, .int .i64 0, .int .i64 0, .slice none 0 0, .int .i64 0, .int .i64 0]) (t := 41) ?_; intro gb761 hg w8 hbox hb; have _ := zK (bT (qB HB.o) hb); have _ := zK (hbox); have _ := zK ((by rw [hg]; exact (bZ (qB HB.o)) : w.heap.size ≤ gb761)); have _ := zK ((by rw [hg]; exact (bZ (qB HB.o)) : w.heap.size ≤ gb761)); clear HB; rename_i HB BK761 GW761 GE761; clear hb hbox hg) | ((with_reducible refine gc (f := 132) rfl ?_); refine gL (some 11) Try.func132 #[.slice A0 l0.length c0] ?_; (with_reducible refine (spec_DrawMayHave.calls k _ _ l0 t762 t763 t764 t767 t768 t769 t772 t773 t774 t777 _ ?side1 ?side2 A2.o).mono ?_); (case side1 => exact Kd.qC (Kd.C_below HR0.o HB.o)); (case side2 => exact HC0.o); rintro e w9 ⟨v765, v770, v775, rfl, ho0, ho1, ho2, hb⟩; refine ⟨_, rfl, ?_⟩; have _ := zK (Kd.R_lower (Kd.R_newM (M := fun k_ => (w.heap.size ≤ k_)) ho0 (bZ M11) (fun k_ h_ => h_)) (bZ M11)); have _ := zK (Kd.R_lower (Kd.R_newM (M := fun k_ => (w.heap.size ≤ k_)) ho1 (bZ M11) (fun k_ h_ => h_)) (bZ M11)); have _ := zK (Kd.R_lower (Kd.R_newM (M := fun k_ => (w.heap.size ≤ k_)) ho2 (bZ M11) (fun k_ h_ => h_)) (bZ M11)); have _ := zK (bB (qK BK761.o) hb); have _ := zK (bT M11 hb); clear BK761 HB; rename_i HO766 HO771 HO776 BK761 HB; clear hb ho0 ho1 ho2) | ((with_reducible refine gd (N := 5) rfl ?_); refine bE (N := 5) (cs := #[.int .i64 0, .int .i64 0, .slice none 0 0, .int .i64 0, .int .i64 0, .slice none 0 0, .int .i64 0, .int .i64 0]) (t := 41) ?_; intro gb778 hg w10 hbox hb; have _ := zK (Kd.R_below (Kd.qR HO766.o) hb); have _ := zK (Kd.R_below (Kd.qR HO771.o) hb); have _ := zK (Kd.R_below (Kd.qR HO776.o) hb); have _ := zK (bB (qK BK761.o) hb); have _ := zK (bT M11 hb); have _ := zK (hbox); have _ := zK ((by rw [hg]; exact (bZ M11) : w.heap.size ≤ gb778)); have _ := zK ((by rw [hg]; exact (bZ M11) : w.heap.size ≤ gb778)); have _ := zK ((by rw [hg]; exact Nat.ne_of_lt (blk_lt (qK BK761.o)) : gb761 ≠ gb778)); have _ := zK ((by rw [hg]; exact Nat.ne_of_gt (blk_lt (qK BK761.o)) : gb778 ≠ gb761)); clear HO766 HO771 HO776 BK761 HB; rename_i HO766 HO771 HO776 BK761 HB BK778 GW778 GE778 NB761_778 NB778_761; clear hb hbox hg; have hnb11 := NB778_761.o; have hnc11 := NB761_778.o; obtain ⟨hcz12_0, hcz12_1, hcz12_2, hcz12_3, hcz12_4, hcz12_5, hcz12_6, hcz12_7, hfz12_0, hfz12_1, hfz12_2, hfz12_3, hfz12_4, hfz12_5, hfz12_6, hfz12_7⟩ := bx8 BK778.o; obtain ⟨Ao13, co13, eo13⟩ := Kd.R_slice HO766.o; subst eo13; obtain ⟨Ao14, co14, eo14⟩ := Kd.R_slice HO771.o; subst eo14) | ((with_reducible refine gc (f := 97) rfl ?_); refine gL (some 16) Try.func97 #[.slice A0 l0.length c0] ?_; (with_reducible refine (spec_l1New.calls k _ _ l0 t779 t780 t781 w _ ?side1 ?side2 ?side3 A3.o).mono ?_); (case side1 => exact qX HB.o); (case side2 => exact HR0.o); (case side3 => exact HC0.o); rintro e w15 ⟨g782, rfl, hi, hb, hb2⟩; refine ⟨_, rfl, ?_⟩; have _ := zK (Kd.R_below (Kd.qF HO766.o BK778.o) hb2); have _ := zK (Kd.R_below (Kd.qF HO771.o BK778.o) hb2); have _ := zK (Kd.R_below (Kd.qF HO776.o BK778.o) hb2); have _ := zK (bB (g := gb761) (o := .cells #[.int .i64 0, .int .i64 0, .slice none 0 0, .int .i64 0, .int .i64 0, .slice none 0 0, .int .i64 0, .int .i64 0] 41 (0, 0)) (qP BK761.o) hb2); have _ := zK (bB (g := gb778) (o := .cells #[.int .i64 t762, .int .i64 t763, .slice Ao13 t764.length co13, .int .i64 t767, .int .i64 t768, .slice Ao14 t769.length co14, .int .i64 t772, .int .i64 t773] 41 (0, 0)) (qP BK778.o) hb2); have _ := zK (hb); have _ := zK (hi); have _ := zK (IsS173.ne_blk hi (bB (g := gb761) (o := .cells #[.int .i64 0, .int .i64 0, .slice none 0 0, .int .i64 0, .int .i64 0, .slice none 0 0, .int .i64 0, .int .i64 0] 41 (0, 0)) (qP BK761.o) hb2) (by decide)); have _ := zK (Ne.symm (IsS173.ne_blk hi (bB (g := gb761) (o := .cells #[.int .i64 0, .int .i64 0, .slice none 0 0, .int .i64 0, .int .i64 0, .slice none 0 0, .int .i64 0, .int .i64 0] 41 (0, 0)) (qP BK761.o) hb2) (by decide))); have _ := zK (IsS173.ne_blk hi (bB (g := gb778) (o := .cells #[.int .i64 t762, .int .i64 t763, .slice Ao13 t764.length co13, .int .i64 t767, .int .i64 t768, .slice Ao14 t769.length co14, .int .i64 t772, .int .i64 t773] 41 (0, 0)) (qP BK778.o) hb2) (by decide)); have _ := zK (Ne.symm (IsS173.ne_blk hi (bB (g := gb778) (o := .cells #[.int .i64 t762, .int .i64 t763, .slice Ao13 t764.length co13, .int .i64 t767, .int .i64 t768, .slice Ao14 t769.length co14, .int .i64 t772, .int .i64 t773] 41 (0, 0)) (qP BK778.o) hb2) (by decide))); clear HO766 HO771 HO776 BK761 BK778 HB; rename_i HO766 HO771 HO776 BK761 BK778 HB HI782 NB782_761 NB761_782 NB782_778 NB778_782; clear hb hb2 hi))
 have _ := zK (Kd.RD HO766.o)
 have _ := zK (Kd.RD HO771.o)
 have _ := zK (Kd.RD HO776.o)
 have _ := zK (kD BK761.o)
 have _ := zK (kD BK778.o)
 have _ := zK (IsS173.drew HI782.o)
 have _ := zK (b1 HB.o)
 clear HO766 HO771 HO776 BK761 BK778 HI782 HB
 rename_i HO766 HO771 HO776 BK761 BK778 HI782 HB
 refine start_ (n := 16) (S := fun w' => w'.cell? ⟨gb778, 0, none⟩ = some (.int .i64 t762) ∧ w'.cell? ⟨gb778, 1, none⟩ = some (.int .i64 t763) ∧ w'.cell? ⟨gb778, 2, none⟩ = some (.slice Ao13 t764.length co13) ∧ w'.cell? ⟨gb778, 3, none⟩ = some (.int .i64 t767) ∧ w'.cell? ⟨gb778, 4, none⟩ = some (.int .i64 t768) ∧ w'.cell? ⟨gb778, 5, none⟩ = some (.slice Ao14 t769.length co14) ∧ w'.cell? ⟨gb778, 6, none⟩ = some (.int .i64 t772) ∧ w'.cell? ⟨gb778, 7, none⟩ = some (.int .i64 t773)) (ds := []) b17A0 (by kernel_rfl) rfl rfl (b8 BK778.o) (fun hHeld => ?_); refine with_tabW spec_DrawAskHouses.tab3 spec_DrawAskHouses.bits3 (fun HT_ HW_ => ?_)
 generalize w15.drew = w16 at HO766 HO771 HO776 BK761 BK778 HI782 HB hHeld ⊢
 refine pI 1 (some 18) b17A1 HT_ ?_
 refine pI 3 (some 20) b17A2 HT_ ?_
 refine pI 5 (some 22) b17A3 HT_ ?_
 refine pI 7 (some 24) b17A4 HT_ ?_
 refine pI 9 (some 26) b17A5 HT_ ?_
 refine pI 12 (some 29) b17A6 HT_ ?_
 refine tI 0 (some 17) b17A7 HT_ HW_ hHeld rfl rfl (Or.inl ⟨by rfl, o5⟩) ?_
 refine join_ (σ := Value × Value × Value × Value × Value × Value) 2 b17A8 (fun s_ => [(19, s_.1), (21, s_.2.1), (23, s_.2.2.1), (25, s_.2.2.2.1), (27, s_.2.2.2.2.1), (28, s_.2.2.2.2.2)]) (fun s_ w' => (w'.cell? ⟨gb778, 0, none⟩ = some (.int .i64 t762) ∧ w'.cell? ⟨gb778, 1, none⟩ = some (.int .i64 t763) ∧ w'.cell? ⟨gb778, 2, none⟩ = some (.slice Ao13 t764.length co13) ∧ w'.cell? ⟨gb778, 3, none⟩ = some (.int .i64 t767) ∧ w'.cell? ⟨gb778, 4, none⟩ = some (.int .i64 t768) ∧ w'.cell? ⟨gb778, 5, none⟩ = some (.slice Ao14 t769.length co14) ∧ w'.cell? ⟨gb778, 6, none⟩ = some (.int .i64 t772) ∧ w'.cell? ⟨gb778, 7, none⟩ = some (.int .i64 t773)) ∧ (Kd.R (Kd.int .i64) 3 w' w.heap.size (fun k_ => (w.heap.size ≤ k_) ∧ some k_ ≠ (.slice Ao14 t769.length co14 : Value).ownBlock) (.slice Ao13 t764.length co13) t764) ∧ (Kd.R (Kd.int .i64) 3 w' w.heap.size (fun k_ => (w.heap.size ≤ k_) ∧ some k_ ≠ (.slice Ao13 t764.length co13 : Value).ownBlock) (.slice Ao14 t769.length co14) t769) ∧ (Kd.R k113 113 w' w.heap.size (fun k_ => (w.heap.size ≤ k_) ∧ some k_ ≠ (s_.2.2.2.1 : Value).ownBlock) s_.1 t783) ∧ (Kd.R k113 113 w' w.heap.size (fun k_ => (w.heap.size ≤ k_) ∧ some k_ ≠ (s_.1 : Value).ownBlock) s_.2.2.2.1 t794) ∧ (Kd.N (Kd.slice 3 (Kd.int .i64)) 24 w' w.heap.size (fun k_ => (w.heap.size ≤ k_) ∧ some k_ ≠ (.slice Ao13 t764.length co13 : Value).ownBlock ∧ some k_ ≠ (.slice Ao14 t769.length co14 : Value).ownBlock ∧ some k_ ≠ (s_.1 : Value).ownBlock ∧ some k_ ≠ (s_.2.2.2.1 : Value).ownBlock ∧ k_ ≠ gb761 ∧ k_ ≠ gb778 ∧ k_ ≠ g782) s_.2.2.2.2.2 y802) ∧ (w'.heap[gb761]? = some (.cells #[.int .i64 t762, .int .i64 t763, .slice Ao13 t764.length co13, .int .i64 t767, .int .i64 t768, .slice Ao14 t769.length co14, .int .i64 t772, .int .i64 t773] 41 (0, 0))) ∧ (w'.heap[gb778]? = some (.cells #[.int .i64 t762, .int .i64 t763, .slice Ao13 t764.length co13, .int .i64 t767, .int .i64 t768, .slice Ao14 t769.length co14, .int .i64 t772, .int .i64 t773] 41 (0, 0))) ∧ (IsS173 w w' g782 t779 t797 t798) ∧ (Below w.heap.size w w')) ?_ ?_
 rotate_left
 ·intro hJ2_4_6_8_10_11_13
  refine join_ (σ := Value × Value × Value × Value × Value × Value) 3 b17A9 (fun s_ => [(19, s_.1), (21, s_.2.1), (23, s_.2.2.1), (25, s_.2.2.2.1), (27, s_.2.2.2.2.1), (28, s_.2.2.2.2.2)]) (fun s_ w' => (w'.cell? ⟨gb778, 0, none⟩ = some (.int .i64 t762) ∧ w'.cell? ⟨gb778, 1, none⟩ = some (.int .i64 t763) ∧ w'.cell? ⟨gb778, 2, none⟩ = some (.slice Ao13 t764.length co13) ∧ w'.cell? ⟨gb778, 3, none⟩ = some (.int .i64 t767) ∧ w'.cell? ⟨gb778, 4, none⟩ = some (.int .i64 t768) ∧ w'.cell? ⟨gb778, 5, none⟩ = some (.slice Ao14 t769.length co14) ∧ w'.cell? ⟨gb778, 6, none⟩ = some (.int .i64 t772) ∧ w'.cell? ⟨gb778, 7, none⟩ = some (.int .i64 t773)) ∧ (Kd.R (Kd.int .i64) 3 w' w.heap.size (fun k_ => (w.heap.size ≤ k_) ∧ some k_ ≠ (.slice Ao14 t769.length co14 : Value).ownBlock) (.slice Ao13 t764.length co13) t764) ∧ (Kd.R (Kd.int .i64) 3 w' w.heap.size (fun k_ => (w.heap.size ≤ k_) ∧ some k_ ≠ (.slice Ao13 t764.length co13 : Value).ownBlock) (.slice Ao14 t769.length co14) t769) ∧ (Kd.R k113 113 w' w.heap.size (fun k_ => (w.heap.size ≤ k_) ∧ some k_ ≠ (s_.2.2.2.1 : Value).ownBlock) s_.1 t783) ∧ (Kd.R k113 113 w' w.heap.size (fun k_ => (w.heap.size ≤ k_) ∧ some k_ ≠ (s_.1 : Value).ownBlock) s_.2.2.2.1 t794) ∧ (Kd.N (Kd.slice 3 (Kd.int .i64)) 24 w' w.heap.size (fun k_ => (w.heap.size ≤ k_) ∧ some k_ ≠ (.slice Ao13 t764.length co13 : Value).ownBlock ∧ some k_ ≠ (.slice Ao14 t769.length co14 : Value).ownBlock ∧ some k_ ≠ (s_.1 : Value).ownBlock ∧ some k_ ≠ (s_.2.2.2.1 : Value).ownBlock ∧ k_ ≠ gb761 ∧ k_ ≠ gb778 ∧ k_ ≠ g782) s_.2.2.2.2.2 y802) ∧ (w'.heap[gb761]? = some (.cells #[.int .i64 0, .int .i64 0, .slice none 0 0, .int .i64 0, .int .i64 0, .slice none 0 0, .int .i64 0, .int .i64 0] 41 (0, 0))) ∧ (w'.heap[gb778]? = some (.cells #[.int .i64 t762, .int .i64 t763, .slice Ao13 t764.length co13, .int .i64 t767, .int .i64 t768, .slice Ao14 t769.length co14, .int .i64 t772, .int .i64 t773] 41 (0, 0))) ∧ (IsS173 w w' g782 t779 t797 t798) ∧ (Below w.heap.size w w')) ?_ ?_
  rotate_left
  rotate_left
  ·skip
   rintro ⟨v784, v789, v792, v795, v800, v803⟩ w31 ⟨hS_, h0_, h1_, h2_, h3_, h4_, h5_, h6_, h7_, h8_⟩
   have _ : Aside0 (Kd.R (Kd.int .i64) 3 w31 w.heap.size (fun k_ => (w.heap.size ≤ k_) ∧ some k_ ≠ (.slice Ao14 t769.length co14 : Value).ownBlock) (.slice Ao13 t764.length co13) t764) := ⟨h0_⟩
   have _ : Aside0 (Kd.R (Kd.int .i64) 3 w31 w.heap.size (fun k_ => (w.heap.size ≤ k_) ∧ some k_ ≠ (.slice Ao13 t764.length co13 : Value).ownBlock) (.slice Ao14 t769.length co14) t769) := ⟨h1_⟩
   have _ : Aside0 (Kd.R k113 113 w31 w.heap.size (fun k_ => (w.heap.size ≤ k_) ∧ some k_ ≠ (v795 : Value).ownBlock) v784 t783) := ⟨h2_⟩
   have _ : Aside0 (Kd.R k113 113 w31 w.heap.size (fun k_ => (w.heap.size ≤ k_) ∧ some k_ ≠ (v784 : Value).ownBlock) v795 t794) := ⟨h3_⟩
   have _ : Aside0 (Kd.N (Kd.slice 3 (Kd.int .i64)) 24 w31 w.heap.size (fun k_ => (w.heap.size ≤ k_) ∧ some k_ ≠ (.slice Ao13 t764.length co13 : Value).ownBlock ∧ some k_ ≠ (.slice Ao14 t769.length co14 : Value).ownBlock ∧ some k_ ≠ (v784 : Value).ownBlock ∧ some k_ ≠ (v795 : Value).ownBlock ∧ k_ ≠ gb761 ∧ k_ ≠ gb778 ∧ k_ ≠ g782) v803 y802) := ⟨h4_⟩
   have _ : Aside0 (w31.heap[gb761]? = some (.cells #[.int .i64 0, .int .i64 0, .slice none 0 0, .int .i64 0, .int .i64 0, .slice none 0 0, .int .i64 0, .int .i64 0] 41 (0, 0))) := ⟨h5_⟩
   have _ : Aside0 (w31.heap[gb778]? = some (.cells #[.int .i64 t762, .int .i64 t763, .slice Ao13 t764.length co13, .int .i64 t767, .int .i64 t768, .slice Ao14 t769.length co14, .int .i64 t772, .int .i64 t773] 41 (0, 0))) := ⟨h6_⟩
   have _ : Aside0 (IsS173 w w31 g782 t779 t797 t798) := ⟨h7_⟩
   have _ : Aside0 (Below w.heap.size w w31) := ⟨h8_⟩
   clear HO766 HO771 HO776 BK761 BK778 HI782 HB h0_ h1_ h2_ h3_ h4_ h5_ h6_ h7_ h8_
   rename_i HO766 HO771 HO785 HO796 HO804 BK761 BK778 HI782 HB
   have hHeld : w31.cell? ⟨gb778, 0, none⟩ = some (.int .i64 t762) ∧ w31.cell? ⟨gb778, 1, none⟩ = some (.int .i64 t763) ∧ w31.cell? ⟨gb778, 2, none⟩ = some (.slice Ao13 t764.length co13) ∧ w31.cell? ⟨gb778, 3, none⟩ = some (.int .i64 t767) ∧ w31.cell? ⟨gb778, 4, none⟩ = some (.int .i64 t768) ∧ w31.cell? ⟨gb778, 5, none⟩ = some (.slice Ao14 t769.length co14) ∧ w31.cell? ⟨gb778, 6, none⟩ = some (.int .i64 t772) ∧ w31.cell? ⟨gb778, 7, none⟩ = some (.int .i64 t773) := hS_
   refine norm_ (a' := ?_) ?_ ?_
   rotate_left
   ·simp only [putAll, Act.put, sA, sZ, sS]
    rfl
   refine one_ (i := 13) (N := none) b17A8 rfl rfl (one_of HT_.o (by kernel_rfl)) (by decide) (fun K hK => ?_)
   have hs32 : w31.cell? ⟨gb761, 0, none⟩ = some (.int .i64 0) := (bc BK761.o 0).trans rfl
   have hfs32 := bf BK761.o 0
   have hns32_1 := NB778_761.o
   have hms32_1 := NB761_778.o
   have hs33 : w31.cell? ⟨gb761, 1, none⟩ = some (.int .i64 0) := (bc BK761.o 1).trans rfl
   have hfs33 := bf BK761.o 1
   have hns33_1 := NB778_761.o
   have hms33_1 := NB761_778.o
   have hs34 : w31.cell? ⟨gb761, 2, none⟩ = some (.slice none 0 0) := (bc BK761.o 2).trans rfl
   have hfs34 := bf BK761.o 2
   have hns34_1 := NB778_761.o
   have hms34_1 := NB761_778.o
   have hs35 : w31.cell? ⟨gb761, 3, none⟩ = some (.int .i64 0) := (bc BK761.o 3).trans rfl
   have hfs35 := bf BK761.o 3
   have hns35_1 := NB778_761.o
   have hms35_1 := NB761_778.o
   have hs36 : w31.cell? ⟨gb761, 4, none⟩ = some (.int .i64 0) := (bc BK761.o 4).trans rfl
   have hfs36 := bf BK761.o 4
   have hns36_1 := NB778_761.o
   have hms36_1 := NB761_778.o
   have hs37 : w31.cell? ⟨gb761, 5, none⟩ = some (.slice none 0 0) := (bc BK761.o 5).trans rfl
   have hfs37 := bf BK761.o 5
   have hns37_1 := NB778_761.o
   have hms37_1 := NB761_778.o
   have hs38 : w31.cell? ⟨gb761, 6, none⟩ = some (.int .i64 0) := (bc BK761.o 6).trans rfl
   have hfs38 := bf BK761.o 6
   have hns38_1 := NB778_761.o
   have hms38_1 := NB761_778.o
   have hs39 : w31.cell? ⟨gb761, 7, none⟩ = some (.int .i64 0) := (bc BK761.o 7).trans rfl
   have hfs39 := bf BK761.o 7
   have hns39_1 := NB778_761.o
   have hms39_1 := NB761_778.o
   refine skip_ (w1 := ?_) (by rfl) rfl ?_ ?_
   rotate_left
   ·go_simp
    rfl
   refine hK.out _ _ ⟨((cell_far (p := ⟨gb761, _, none⟩) NB778_761.o _).trans (((cell_far (p := ⟨gb761, _, none⟩) NB778_761.o _).trans (((cell_far (p := ⟨gb761, _, none⟩) NB778_761.o _).trans (((cell_far (p := ⟨gb761, _, none⟩) NB778_761.o _).trans (((cell_far (p := ⟨gb761, _, none⟩) NB778_761.o _).trans (((cell_far (p := ⟨gb761, _, none⟩) NB778_761.o _).trans (((cell_far (p := ⟨gb761, _, none⟩) NB778_761.o _).trans (((cell_far (p := ⟨gb761, _, none⟩) NB778_761.o _).trans (hHeld.1)))))))))))))))), ((cell_far (p := ⟨gb761, _, none⟩) NB778_761.o _).trans (((cell_far (p := ⟨gb761, _, none⟩) NB778_761.o _).trans (((cell_far (p := ⟨gb761, _, none⟩) NB778_761.o _).trans (((cell_far (p := ⟨gb761, _, none⟩) NB778_761.o _).trans (((cell_far (p := ⟨gb761, _, none⟩) NB778_761.o _).trans (((cell_far (p := ⟨gb761, _, none⟩) NB778_761.o _).trans (((cell_far (p := ⟨gb761, _, none⟩) NB778_761.o _).trans (((cell_far (p := ⟨gb761, _, none⟩) NB778_761.o _).trans (hHeld.2.1)))))))))))))))), ((cell_far (p := ⟨gb761, _, none⟩) NB778_761.o _).trans (((cell_far (p := ⟨gb761, _, none⟩) NB778_761.o _).trans (((cell_far (p := ⟨gb761, _, none⟩) NB778_761.o _).trans (((cell_far (p := ⟨gb761, _, none⟩) NB778_761.o _).trans (((cell_far (p := ⟨gb761, _, none⟩) NB778_761.o _).trans (((cell_far (p := ⟨gb761, _, none⟩) NB778_761.o _).trans (((cell_far (p := ⟨gb761, _, none⟩) NB778_761.o _).trans (((cell_far (p := ⟨gb761, _, none⟩) NB778_761.o _).trans (hHeld.2.2.1)))))))))))))))), ((cell_far (p := ⟨gb761, _, none⟩) NB778_761.o _).trans (((cell_far (p := ⟨gb761, _, none⟩) NB778_761.o _).trans (((cell_far (p := ⟨gb761, _, none⟩) NB778_761.o _).trans (((cell_far (p := ⟨gb761, _, none⟩) NB778_761.o _).trans (((cell_far (p := ⟨gb761, _, none⟩) NB778_761.o _).trans (((cell_far (p := ⟨gb761, _, none⟩) NB778_761.o _).trans (((cell_far (p := ⟨gb761, _, none⟩) NB778_761.o _).trans (((cell_far (p := ⟨gb761, _, none⟩) NB778_761.o _).trans (hHeld.2.2.2.1)))))))))))))))), ((cell_far (p := ⟨gb761, _, none⟩) NB778_761.o _).trans (((cell_far (p := ⟨gb761, _, none⟩) NB778_761.o _).trans (((cell_far (p := ⟨gb761, _, none⟩) NB778_761.o _).trans (((cell_far (p := ⟨gb761, _, none⟩) NB778_761.o _).trans (((cell_far (p := ⟨gb761, _, none⟩) NB778_761.o _).trans (((cell_far (p := ⟨gb761, _, none⟩) NB778_761.o _).trans (((cell_far (p := ⟨gb761, _, none⟩) NB778_761.o _).trans (((cell_far (p := ⟨gb761, _, none⟩) NB778_761.o _).trans ((d4 hHeld).1)))))))))))))))), ((cell_far (p := ⟨gb761, _, none⟩) NB778_761.o _).trans (((cell_far (p := ⟨gb761, _, none⟩) NB778_761.o _).trans (((cell_far (p := ⟨gb761, _, none⟩) NB778_761.o _).trans (((cell_far (p := ⟨gb761, _, none⟩) NB778_761.o _).trans (((cell_far (p := ⟨gb761, _, none⟩) NB778_761.o _).trans (((cell_far (p := ⟨gb761, _, none⟩) NB778_761.o _).trans (((cell_far (p := ⟨gb761, _, none⟩) NB778_761.o _).trans (((cell_far (p := ⟨gb761, _, none⟩) NB778_761.o _).trans ((d4 hHeld).2.1)))))))))))))))), ((cell_far (p := ⟨gb761, _, none⟩) NB778_761.o _).trans (((cell_far (p := ⟨gb761, _, none⟩) NB778_761.o _).trans (((cell_far (p := ⟨gb761, _, none⟩) NB778_761.o _).trans (((cell_far (p := ⟨gb761, _, none⟩) NB778_761.o _).trans (((cell_far (p := ⟨gb761, _, none⟩) NB778_761.o _).trans (((cell_far (p := ⟨gb761, _, none⟩) NB778_761.o _).trans (((cell_far (p := ⟨gb761, _, none⟩) NB778_761.o _).trans (((cell_far (p := ⟨gb761, _, none⟩) NB778_761.o _).trans ((d4 hHeld).2.2.1)))))))))))))))), ((cell_far (p := ⟨gb761, _, none⟩) NB778_761.o _).trans (((cell_far (p := ⟨gb761, _, none⟩) NB778_761.o _).trans (((cell_far (p := ⟨gb761, _, none⟩) NB778_761.o _).trans (((cell_far (p := ⟨gb761, _, none⟩) NB778_761.o _).trans (((cell_far (p := ⟨gb761, _, none⟩) NB778_761.o _).trans (((cell_far (p := ⟨gb761, _, none⟩) NB778_761.o _).trans (((cell_far (p := ⟨gb761, _, none⟩) NB778_761.o _).trans (((cell_far (p := ⟨gb761, _, none⟩) NB778_761.o _).trans ((d4 hHeld).2.2.2))))))))))))))))⟩ (fun hHeld => ?_)
   clear hK K
   exact norm_ M32 (hJ2_4_6_8_10_11_13 (v784, v789, v792, v795, v800, v803) _ ⟨hHeld, M20, M21, M22, M23, (by (with_reducible repeat (first | apply Kd.N_alloc | apply Kd.N_drewN | apply Kd.N_drew)); exact Kd.N_mono (Kd.N_far (p := ⟨gb761, 7, none⟩) (Kd.N_far (p := ⟨gb761, 6, none⟩) (Kd.N_far (p := ⟨gb761, 5, none⟩) (Kd.N_far (p := ⟨gb761, 4, none⟩) (Kd.N_far (p := ⟨gb761, 3, none⟩) (Kd.N_far (p := ⟨gb761, 2, none⟩) (Kd.N_far (p := ⟨gb761, 1, none⟩) (Kd.N_far (p := ⟨gb761, 0, none⟩) (Kd.N_mono HO804.o (fun k_ hk => (⟨hk, hk.2.2.2.2.2.1⟩ : _ ∧ k_ ≠ gb761))) (fun _ hk => hk.2) (.int .i64 t762)) (fun _ hk => hk.2) (.int .i64 t763)) (fun _ hk => hk.2) (.slice Ao13 t764.length co13)) (fun _ hk => hk.2) (.int .i64 t767)) (fun _ hk => hk.2) (.int .i64 t768)) (fun _ hk => hk.2) (.slice Ao14 t769.length co14)) (fun _ hk => hk.2) (.int .i64 t772)) (fun _ hk => hk.2) (.int .i64 t773)) (fun _ hk => by (try dsimp only at hk); simp only [hk, ne_eq, not_false_eq_true, and_self])), (qP BK761.o), (qP BK778.o), M5, M2⟩)
  intro hJ2_4_6_8_10_11
  refine join_ (σ := Value × Value × Value × Value × Value) 3 b17A10 (fun s_ => [(19, s_.1), (21, s_.2.1), (23, s_.2.2.1), (25, s_.2.2.2.1), (27, s_.2.2.2.2)]) (fun s_ w' => (w'.cell? ⟨gb778, 0, none⟩ = some (.int .i64 t762) ∧ w'.cell? ⟨gb778, 1, none⟩ = some (.int .i64 t763) ∧ w'.cell? ⟨gb778, 2, none⟩ = some (.slice Ao13 t764.length co13) ∧ w'.cell? ⟨gb778, 3, none⟩ = some (.int .i64 t767) ∧ w'.cell? ⟨gb778, 4, none⟩ = some (.int .i64 t768) ∧ w'.cell? ⟨gb778, 5, none⟩ = some (.slice Ao14 t769.length co14) ∧ w'.cell? ⟨gb778, 6, none⟩ = some (.int .i64 t772) ∧ w'.cell? ⟨gb778, 7, none⟩ = some (.int .i64 t773)) ∧ (Kd.R (Kd.int .i64) 3 w' w.heap.size (fun k_ => (w.heap.size ≤ k_) ∧ some k_ ≠ (.slice Ao14 t769.length co14 : Value).ownBlock ∧ some k_ ≠ (v775 : Value).ownBlock ∧ some k_ ≠ (s_.2.1 : Value).ownBlock ∧ some k_ ≠ (s_.2.2.1 : Value).ownBlock ∧ some k_ ≠ (s_.2.2.2.2 : Value).ownBlock) (.slice Ao13 t764.length co13) t764) ∧ (Kd.R (Kd.int .i64) 3 w' w.heap.size (fun k_ => (w.heap.size ≤ k_) ∧ some k_ ≠ (.slice Ao13 t764.length co13 : Value).ownBlock ∧ some k_ ≠ (v775 : Value).ownBlock ∧ some k_ ≠ (s_.2.1 : Value).ownBlock ∧ some k_ ≠ (s_.2.2.1 : Value).ownBlock ∧ some k_ ≠ (s_.2.2.2.2 : Value).ownBlock) (.slice Ao14 t769.length co14) t769) ∧ (Kd.R (Kd.int .i64) 3 w' w.heap.size (fun k_ => (w.heap.size ≤ k_) ∧ some k_ ≠ (.slice Ao13 t764.length co13 : Value).ownBlock ∧ some k_ ≠ (.slice Ao14 t769.length co14 : Value).ownBlock ∧ some k_ ≠ (s_.2.1 : Value).ownBlock ∧ some k_ ≠ (s_.2.2.1 : Value).ownBlock ∧ some k_ ≠ (s_.2.2.2.2 : Value).ownBlock) v775 t774) ∧ (Kd.R k113 113 w' w.heap.size (fun k_ => (w.heap.size ≤ k_) ∧ some k_ ≠ (s_.2.2.2.1 : Value).ownBlock) s_.1 t783) ∧ (Kd.R (Kd.int .i64) 3 w' w.heap.size (fun k_ => (w.heap.size ≤ k_) ∧ some k_ ≠ (.slice Ao13 t764.length co13 : Value).ownBlock ∧ some k_ ≠ (.slice Ao14 t769.length co14 : Value).ownBlock ∧ some k_ ≠ (v775 : Value).ownBlock ∧ some k_ ≠ (s_.2.2.1 : Value).ownBlock ∧ some k_ ≠ (s_.2.2.2.2 : Value).ownBlock) s_.2.1 t788) ∧ (Kd.R (Kd.int .i64) 3 w' w.heap.size (fun k_ => (w.heap.size ≤ k_) ∧ some k_ ≠ (.slice Ao13 t764.length co13 : Value).ownBlock ∧ some k_ ≠ (.slice Ao14 t769.length co14 : Value).ownBlock ∧ some k_ ≠ (v775 : Value).ownBlock ∧ some k_ ≠ (s_.2.1 : Value).ownBlock ∧ some k_ ≠ (s_.2.2.2.2 : Value).ownBlock) s_.2.2.1 y791) ∧ (Kd.R k113 113 w' w.heap.size (fun k_ => (w.heap.size ≤ k_) ∧ some k_ ≠ (s_.1 : Value).ownBlock) s_.2.2.2.1 t794) ∧ (Kd.R (Kd.int .i64) 3 w' w.heap.size (fun k_ => (w.heap.size ≤ k_) ∧ some k_ ≠ (.slice Ao13 t764.length co13 : Value).ownBlock ∧ some k_ ≠ (.slice Ao14 t769.length co14 : Value).ownBlock ∧ some k_ ≠ (v775 : Value).ownBlock ∧ some k_ ≠ (s_.2.1 : Value).ownBlock ∧ some k_ ≠ (s_.2.2.1 : Value).ownBlock) s_.2.2.2.2 t799) ∧ (w'.heap[gb761]? = some (.cells #[.int .i64 t762, .int .i64 t763, .slice Ao13 t764.length co13, .int .i64 t767, .int .i64 t768, .slice Ao14 t769.length co14, .int .i64 t772, .int .i64 t773] 41 (0, 0))) ∧ (w'.heap[gb778]? = some (.cells #[.int .i64 t762, .int .i64 t763, .slice Ao13 t764.length co13, .int .i64 t767, .int .i64 t768, .slice Ao14 t769.length co14, .int .i64 t772, .int .i64 t773] 41 (0, 0))) ∧ (IsS173 w w' g782 t779 t797 t798) ∧ (Below w.heap.size w w')) ?_ ?_
  rotate_left
  rotate_left
  ·skip
   rintro ⟨v784, v789, v792, v795, v800⟩ w33 ⟨hS_, h0_, h1_, h2_, h3_, h4_, h5_, h6_, h7_, h8_, h9_, h10_, h11_⟩
   have _ : Aside0 (Kd.R (Kd.int .i64) 3 w33 w.heap.size (fun k_ => (w.heap.size ≤ k_) ∧ some k_ ≠ (.slice Ao14 t769.length co14 : Value).ownBlock ∧ some k_ ≠ (v775 : Value).ownBlock ∧ some k_ ≠ (v789 : Value).ownBlock ∧ some k_ ≠ (v792 : Value).ownBlock ∧ some k_ ≠ (v800 : Value).ownBlock) (.slice Ao13 t764.length co13) t764) := ⟨h0_⟩
   have _ : Aside0 (Kd.R (Kd.int .i64) 3 w33 w.heap.size (fun k_ => (w.heap.size ≤ k_) ∧ some k_ ≠ (.slice Ao13 t764.length co13 : Value).ownBlock ∧ some k_ ≠ (v775 : Value).ownBlock ∧ some k_ ≠ (v789 : Value).ownBlock ∧ some k_ ≠ (v792 : Value).ownBlock ∧ some k_ ≠ (v800 : Value).ownBlock) (.slice Ao14 t769.length co14) t769) := ⟨h1_⟩
   have _ : Aside0 (Kd.R (Kd.int .i64) 3 w33 w.heap.size (fun k_ => (w.heap.size ≤ k_) ∧ some k_ ≠ (.slice Ao13 t764.length co13 : Value).ownBlock ∧ some k_ ≠ (.slice Ao14 t769.length co14 : Value).ownBlock ∧ some k_ ≠ (v789 : Value).ownBlock ∧ some k_ ≠ (v792 : Value).ownBlock ∧ some k_ ≠ (v800 : Value).ownBlock) v775 t774) := ⟨h2_⟩
   have _ : Aside0 (Kd.R k113 113 w33 w.heap.size (fun k_ => (w.heap.size ≤ k_) ∧ some k_ ≠ (v795 : Value).ownBlock) v784 t783) := ⟨h3_⟩
   have _ : Aside0 (Kd.R (Kd.int .i64) 3 w33 w.heap.size (fun k_ => (w.heap.size ≤ k_) ∧ some k_ ≠ (.slice Ao13 t764.length co13 : Value).ownBlock ∧ some k_ ≠ (.slice Ao14 t769.length co14 : Value).ownBlock ∧ some k_ ≠ (v775 : Value).ownBlock ∧ some k_ ≠ (v792 : Value).ownBlock ∧ some k_ ≠ (v800 : Value).ownBlock) v789 t788) := ⟨h4_⟩
   have _ : Aside0 (Kd.R (Kd.int .i64) 3 w33 w.heap.size (fun k_ => (w.heap.size ≤ k_) ∧ some k_ ≠ (.slice Ao13 t764.length co13 : Value).ownBlock ∧ some k_ ≠ (.slice Ao14 t769.length co14 : Value).ownBlock ∧ some k_ ≠ (v775 : Value).ownBlock ∧ some k_ ≠ (v789 : Value).ownBlock ∧ some k_ ≠ (v800 : Value).ownBlock) v792 y791) := ⟨h5_⟩
   have _ : Aside0 (Kd.R k113 113 w33 w.heap.size (fun k_ => (w.heap.size ≤ k_) ∧ some k_ ≠ (v784 : Value).ownBlock) v795 t794) := ⟨h6_⟩
   have _ : Aside0 (Kd.R (Kd.int .i64) 3 w33 w.heap.size (fun k_ => (w.heap.size ≤ k_) ∧ some k_ ≠ (.slice Ao13 t764.length co13 : Value).ownBlock ∧ some k_ ≠ (.slice Ao14 t769.length co14 : Value).ownBlock ∧ some k_ ≠ (v775 : Value).ownBlock ∧ some k_ ≠ (v789 : Value).ownBlock ∧ some k_ ≠ (v792 : Value).ownBlock) v800 t799) := ⟨h7_⟩
   have _ : Aside0 (w33.heap[gb761]? = some (.cells #[.int .i64 t762, .int .i64 t763, .slice Ao13 t764.length co13, .int .i64 t767, .int .i64 t768, .slice Ao14 t769.length co14, .int .i64 t772, .int .i64 t773] 41 (0, 0))) := ⟨h8_⟩
   have _ : Aside0 (w33.heap[gb778]? = some (.cells #[.int .i64 t762, .int .i64 t763, .slice Ao13 t764.length co13, .int .i64 t767, .int .i64 t768, .slice Ao14 t769.length co14, .int .i64 t772, .int .i64 t773] 41 (0, 0))) := ⟨h9_⟩
   have _ : Aside0 (IsS173 w w33 g782 t779 t797 t798) := ⟨h10_⟩
   have _ : Aside0 (Below w.heap.size w w33) := ⟨h11_⟩
   clear HO766 HO771 HO776 BK761 BK778 HI782 HB h0_ h1_ h2_ h3_ h4_ h5_ h6_ h7_ h8_ h9_ h10_ h11_
   rename_i HO766 HO771 HO776 HO785 HO790 HO793 HO796 HO801 BK761 BK778 HI782 HB
   have hHeld : w33.cell? ⟨gb778, 0, none⟩ = some (.int .i64 t762) ∧ w33.cell? ⟨gb778, 1, none⟩ = some (.int .i64 t763) ∧ w33.cell? ⟨gb778, 2, none⟩ = some (.slice Ao13 t764.length co13) ∧ w33.cell? ⟨gb778, 3, none⟩ = some (.int .i64 t767) ∧ w33.cell? ⟨gb778, 4, none⟩ = some (.int .i64 t768) ∧ w33.cell? ⟨gb778, 5, none⟩ = some (.slice Ao14 t769.length co14) ∧ w33.cell? ⟨gb778, 6, none⟩ = some (.int .i64 t772) ∧ w33.cell? ⟨gb778, 7, none⟩ = some (.int .i64 t773) := hS_
   obtain ⟨Ao34, co34, eo34⟩ := Kd.R_slice HO790.o
   (first | subst eo34 | (injection eo34 with f1_ f2_ f3_; have f4_ := f1_.symm; have f5_ := f3_.symm; clear f1_ f2_ f3_; subst f4_; subst f5_))
   obtain ⟨Ao35, co35, eo35⟩ := Kd.R_slice HO776.o
   (first | subst eo35 | (injection eo35 with f1_ f2_ f3_; have f4_ := f1_.symm; have f5_ := f3_.symm; clear f1_ f2_ f3_; subst f4_; subst f5_))
   obtain ⟨Ao36, co36, eo36⟩ := Kd.R_slice HO793.o
   (first | subst eo36 | (injection eo36 with f1_ f2_ f3_; have f4_ := f1_.symm; have f5_ := f3_.symm; clear f1_ f2_ f3_; subst f4_; subst f5_))
   obtain ⟨Ao37, co37, eo37⟩ := Kd.R_slice HO801.o
   (first | subst eo37 | (injection eo37 with f1_ f2_ f3_; have f4_ := f1_.symm; have f5_ := f3_.symm; clear f1_ f2_ f3_; subst f4_; subst f5_))
   refine norm_ (a' := ?_) ?_ ?_
   rotate_left
   ·simp only [putAll, Act.put, sA, sZ, sS]
    rfl
   refine one_ (i := 11) (N := some 28) b17A8 rfl rfl (one_of HT_.o (by kernel_rfl)) (by decide) (fun K hK => ?_)
   refine Kd.N_lit_step (Kd.slice 3 (Kd.int .i64)) _ 24 ?hg (N' := 28) ?hd (xs := ([t788, t774, y791, t799] : List (List Int))) (inner := [.slice Ao34 t788.length co34, .slice Ao35 t774.length co35, .slice Ao36 y791.length co36, .slice Ao37 t799.length co37]) (ok := (fun k_ => (w.heap.size ≤ k_) ∧ some k_ ≠ (.slice Ao13 t764.length co13 : Value).ownBlock ∧ some k_ ≠ (.slice Ao14 t769.length co14 : Value).ownBlock ∧ some k_ ≠ (v784 : Value).ownBlock ∧ some k_ ≠ (v795 : Value).ownBlock ∧ k_ ≠ gb761 ∧ k_ ≠ gb778 ∧ k_ ≠ g782)) (okp := (fun k_ => (w.heap.size ≤ k_) ∧ some k_ ≠ (.slice Ao13 t764.length co13 : Value).ownBlock ∧ some k_ ≠ (.slice Ao14 t769.length co14 : Value).ownBlock ∧ some k_ ≠ (v784 : Value).ownBlock ∧ some k_ ≠ (v795 : Value).ownBlock ∧ k_ ≠ gb761 ∧ k_ ≠ gb778 ∧ k_ ≠ g782)) ?hr ?hp (fun _ hk => hk) ((show ∀ k_, w33.heap.size ≤ k_ → (fun k_ => (w.heap.size ≤ k_) ∧ some k_ ≠ (.slice Ao13 t764.length co13 : Value).ownBlock ∧ some k_ ≠ (.slice Ao14 t769.length co14 : Value).ownBlock ∧ some k_ ≠ (v784 : Value).ownBlock ∧ some k_ ≠ (v795 : Value).ownBlock ∧ k_ ≠ gb761 ∧ k_ ≠ gb778 ∧ k_ ≠ g782) k_ from fun k_ hk => ⟨(Nat.le_trans (bZ M2) hk), Kd.fresh' (Kd.R_lt (Kd.qR HO766.o)) k_ hk, Kd.fresh' (Kd.R_lt (Kd.qR HO771.o)) k_ hk, Kd.fresh' (Kd.R_lt (Kd.qR HO785.o)) k_ hk, Kd.fresh' (Kd.R_lt (Kd.qR HO796.o)) k_ hk, Kd.freshB (qK BK761.o) k_ hk, Kd.freshB (qK BK778.o) k_ hk, IsS173.fresh M5 k_ hk⟩) _ (Nat.le_refl _)) (Below.refl _ _) (Nat.le_refl _) (by simp) ?_; (case hd => rfl); (case hg => rfl); (case hr => first | (go_simp; done) | (go_simp; rfl)); (case hp => exact (Reps.one (show Kd.FK (Kd.slice 3 (Kd.int .i64)) _ _ t788 [.slice Ao34 t788.length co34] from (Kd.FK_slice_mk (Kd.R_reads' (Kd.R_mono (ok' := (fun k_ => (w.heap.size ≤ k_) ∧ some k_ ≠ (.slice Ao13 t764.length co13 : Value).ownBlock ∧ some k_ ≠ (.slice Ao14 t769.length co14 : Value).ownBlock ∧ some k_ ≠ (v784 : Value).ownBlock ∧ some k_ ≠ (v795 : Value).ownBlock ∧ k_ ≠ gb761 ∧ k_ ≠ gb778 ∧ k_ ≠ g782)) (IsS173.apart HI782.o (Kd.R_types (Kd.R_types (Kd.R_apart' (Kd.R_apart' (HO790.o) (Kd.R_typed HO785.o) (by decide)) (Kd.R_typed HO796.o) (by decide)) BK761.o (by decide)) BK778.o (by decide)) (by decide)) (fun k_ hk => ⟨hk.1.1.1.1.1.1, ⟨hk.1.1.1.1.1.2.1, ⟨hk.1.1.1.1.1.2.2.1, ⟨hk.1.1.1.1.2, ⟨hk.1.1.1.2, ⟨hk.1.1.2, ⟨hk.1.2, hk.2⟩⟩⟩⟩⟩⟩⟩))).2.1 (Kd.R_F (Kd.R_mono (ok' := (fun k_ => (w.heap.size ≤ k_) ∧ some k_ ≠ (.slice Ao13 t764.length co13 : Value).ownBlock ∧ some k_ ≠ (.slice Ao14 t769.length co14 : Value).ownBlock ∧ some k_ ≠ (v784 : Value).ownBlock ∧ some k_ ≠ (v795 : Value).ownBlock ∧ k_ ≠ gb761 ∧ k_ ≠ gb778 ∧ k_ ≠ g782)) (IsS173.apart HI782.o (Kd.R_types (Kd.R_types (Kd.R_apart' (Kd.R_apart' (HO790.o) (Kd.R_typed HO785.o) (by decide)) (Kd.R_typed HO796.o) (by decide)) BK761.o (by decide)) BK778.o (by decide)) (by decide)) (fun k_ hk => ⟨hk.1.1.1.1.1.1, ⟨hk.1.1.1.1.1.2.1, ⟨hk.1.1.1.1.1.2.2.1, ⟨hk.1.1.1.1.2, ⟨hk.1.1.1.2, ⟨hk.1.1.2, ⟨hk.1.2, hk.2⟩⟩⟩⟩⟩⟩⟩))))) (Reps.one (show Kd.FK (Kd.slice 3 (Kd.int .i64)) _ _ t774 [.slice Ao35 t774.length co35] from (Kd.FK_slice_mk (Kd.R_reads' (Kd.R_mono (ok' := (fun k_ => (w.heap.size ≤ k_) ∧ some k_ ≠ (.slice Ao13 t764.length co13 : Value).ownBlock ∧ some k_ ≠ (.slice Ao14 t769.length co14 : Value).ownBlock ∧ some k_ ≠ (v784 : Value).ownBlock ∧ some k_ ≠ (v795 : Value).ownBlock ∧ k_ ≠ gb761 ∧ k_ ≠ gb778 ∧ k_ ≠ g782)) (IsS173.apart HI782.o (Kd.R_types (Kd.R_types (Kd.R_apart' (Kd.R_apart' (HO776.o) (Kd.R_typed HO785.o) (by decide)) (Kd.R_typed HO796.o) (by decide)) BK761.o (by decide)) BK778.o (by decide)) (by decide)) (fun k_ hk => ⟨hk.1.1.1.1.1.1, ⟨hk.1.1.1.1.1.2.1, ⟨hk.1.1.1.1.1.2.2.1, ⟨hk.1.1.1.1.2, ⟨hk.1.1.1.2, ⟨hk.1.1.2, ⟨hk.1.2, hk.2⟩⟩⟩⟩⟩⟩⟩))).2.1 (Kd.R_F (Kd.R_mono (ok' := (fun k_ => (w.heap.size ≤ k_) ∧ some k_ ≠ (.slice Ao13 t764.length co13 : Value).ownBlock ∧ some k_ ≠ (.slice Ao14 t769.length co14 : Value).ownBlock ∧ some k_ ≠ (v784 : Value).ownBlock ∧ some k_ ≠ (v795 : Value).ownBlock ∧ k_ ≠ gb761 ∧ k_ ≠ gb778 ∧ k_ ≠ g782)) (IsS173.apart HI782.o (Kd.R_types (Kd.R_types (Kd.R_apart' (Kd.R_apart' (HO776.o) (Kd.R_typed HO785.o) (by decide)) (Kd.R_typed HO796.o) (by decide)) BK761.o (by decide)) BK778.o (by decide)) (by decide)) (fun k_ hk => ⟨hk.1.1.1.1.1.1, ⟨hk.1.1.1.1.1.2.1, ⟨hk.1.1.1.1.1.2.2.1, ⟨hk.1.1.1.1.2, ⟨hk.1.1.1.2, ⟨hk.1.1.2, ⟨hk.1.2, hk.2⟩⟩⟩⟩⟩⟩⟩))))) (Reps.one (show Kd.FK (Kd.slice 3 (Kd.int .i64)) _ _ y791 [.slice Ao36 y791.length co36] from (Kd.FK_slice_mk (Kd.R_reads' (Kd.R_mono (ok' := (fun k_ => (w.heap.size ≤ k_) ∧ some k_ ≠ (.slice Ao13 t764.length co13 : Value).ownBlock ∧ some k_ ≠ (.slice Ao14 t769.length co14 : Value).ownBlock ∧ some k_ ≠ (v784 : Value).ownBlock ∧ some k_ ≠ (v795 : Value).ownBlock ∧ k_ ≠ gb761 ∧ k_ ≠ gb778 ∧ k_ ≠ g782)) (IsS173.apart HI782.o (Kd.R_types (Kd.R_types (Kd.R_apart' (Kd.R_apart' (HO793.o) (Kd.R_typed HO785.o) (by decide)) (Kd.R_typed HO796.o) (by decide)) BK761.o (by decide)) BK778.o (by decide)) (by decide)) (fun k_ hk => ⟨hk.1.1.1.1.1.1, ⟨hk.1.1.1.1.1.2.1, ⟨hk.1.1.1.1.1.2.2.1, ⟨hk.1.1.1.1.2, ⟨hk.1.1.1.2, ⟨hk.1.1.2, ⟨hk.1.2, hk.2⟩⟩⟩⟩⟩⟩⟩))).2.1 (Kd.R_F (Kd.R_mono (ok' := (fun k_ => (w.heap.size ≤ k_) ∧ some k_ ≠ (.slice Ao13 t764.length co13 : Value).ownBlock ∧ some k_ ≠ (.slice Ao14 t769.length co14 : Value).ownBlock ∧ some k_ ≠ (v784 : Value).ownBlock ∧ some k_ ≠ (v795 : Value).ownBlock ∧ k_ ≠ gb761 ∧ k_ ≠ gb778 ∧ k_ ≠ g782)) (IsS173.apart HI782.o (Kd.R_types (Kd.R_types (Kd.R_apart' (Kd.R_apart' (HO793.o) (Kd.R_typed HO785.o) (by decide)) (Kd.R_typed HO796.o) (by decide)) BK761.o (by decide)) BK778.o (by decide)) (by decide)) (fun k_ hk => ⟨hk.1.1.1.1.1.1, ⟨hk.1.1.1.1.1.2.1, ⟨hk.1.1.1.1.1.2.2.1, ⟨hk.1.1.1.1.2, ⟨hk.1.1.1.2, ⟨hk.1.1.2, ⟨hk.1.2, hk.2⟩⟩⟩⟩⟩⟩⟩))))) (Reps.one (show Kd.FK (Kd.slice 3 (Kd.int .i64)) _ _ t799 [.slice Ao37 t799.length co37] from (Kd.FK_slice_mk (Kd.R_reads' (Kd.R_mono (ok' := (fun k_ => (w.heap.size ≤ k_) ∧ some k_ ≠ (.slice Ao13 t764.length co13 : Value).ownBlock ∧ some k_ ≠ (.slice Ao14 t769.length co14 : Value).ownBlock ∧ some k_ ≠ (v784 : Value).ownBlock ∧ some k_ ≠ (v795 : Value).ownBlock ∧ k_ ≠ gb761 ∧ k_ ≠ gb778 ∧ k_ ≠ g782)) (IsS173.apart HI782.o (Kd.R_types (Kd.R_types (Kd.R_apart' (Kd.R_apart' (HO801.o) (Kd.R_typed HO785.o) (by decide)) (Kd.R_typed HO796.o) (by decide)) BK761.o (by decide)) BK778.o (by decide)) (by decide)) (fun k_ hk => ⟨hk.1.1.1.1.1.1, ⟨hk.1.1.1.1.1.2.1, ⟨hk.1.1.1.1.1.2.2.1, ⟨hk.1.1.1.1.2, ⟨hk.1.1.1.2, ⟨hk.1.1.2, ⟨hk.1.2, hk.2⟩⟩⟩⟩⟩⟩⟩))).2.1 (Kd.R_F (Kd.R_mono (ok' := (fun k_ => (w.heap.size ≤ k_) ∧ some k_ ≠ (.slice Ao13 t764.length co13 : Value).ownBlock ∧ some k_ ≠ (.slice Ao14 t769.length co14 : Value).ownBlock ∧ some k_ ≠ (v784 : Value).ownBlock ∧ some k_ ≠ (v795 : Value).ownBlock ∧ k_ ≠ gb761 ∧ k_ ≠ gb778 ∧ k_ ≠ g782)) (IsS173.apart HI782.o (Kd.R_types (Kd.R_types (Kd.R_apart' (Kd.R_apart' (HO801.o) (Kd.R_typed HO785.o) (by decide)) (Kd.R_typed HO796.o) (by decide)) BK761.o (by decide)) BK778.o (by decide)) (by decide)) (fun k_ hk => ⟨hk.1.1.1.1.1.1, ⟨hk.1.1.1.1.1.2.1, ⟨hk.1.1.1.1.1.2.2.1, ⟨hk.1.1.1.1.2, ⟨hk.1.1.1.2, ⟨hk.1.1.2, ⟨hk.1.2, hk.2⟩⟩⟩⟩⟩⟩⟩))))) (Reps.none _ _))))))
   intro v803 w38 ho39 hb hg_ hnew_
   clear hg_ hnew_
   (first | rw [← Ny802.o] at ho39 | (simp only [Int.reduceToNat] at ho39; rw [← Ny802.o] at ho39))
   have _ := zK (Kd.R_below (Kd.qR HO766.o) hb)
   have _ := zK (Kd.R_below (Kd.qR HO771.o) hb)
   have _ := zK (Kd.R_below (Kd.qR HO785.o) hb)
   have _ := zK (Kd.R_below (Kd.qR HO796.o) hb)
   have _ := zK (Kd.N_lower ho39 (bZ M2))
   have _ := zK (bB (qK BK761.o) hb)
   have _ := zK (bB (qK BK778.o) hb)
   have _ := zK (IsS173.below M5 hb)
   have _ := zK (bT M2 hb)
   clear HO766 HO771 HO785 HO796 BK761 BK778 HI782 HB HO776 HO790 HO793 HO801
   rename_i HO766 HO771 HO785 HO796 HO804 BK761 BK778 HI782 HB
   clear hb ho39
   refine hK.out _ _ (b8 BK778.o) (fun hHeld => ?_)
   clear hK K
   refine norm_ (a' := ?_) ?_ ?_
   rotate_left
   ·show Act.put _ (some 28) _ = _
    simp only [Act.put, sA, sZ, sS, i64_w, i32_w]
    rfl
   exact norm_ M32 (hJ2_4_6_8_10_11_13 (v784, .slice Ao34 t788.length co34, .slice Ao36 y791.length co36, v795, .slice Ao37 t799.length co37, v803) _ ⟨hHeld, M25, M26, (Kd.qR HO785.o), (Kd.qR HO796.o), (by (with_reducible repeat (first | apply Kd.N_alloc | apply Kd.N_drewN | apply Kd.N_drew)); exact HO804.o), (qK BK761.o), (qK BK778.o), M5, M2⟩)
  intro hJ2_4_6_8_10_13
  refine join_ (σ := Value × Value × Value × Value × Value) 4 b17A11 (fun s_ => [(19, s_.1), (21, s_.2.1), (23, s_.2.2.1), (25, s_.2.2.2.1), (27, s_.2.2.2.2)]) (fun s_ w' => (w'.cell? ⟨gb778, 0, none⟩ = some (.int .i64 t762) ∧ w'.cell? ⟨gb778, 1, none⟩ = some (.int .i64 t763) ∧ w'.cell? ⟨gb778, 2, none⟩ = some (.slice Ao13 t764.length co13) ∧ w'.cell? ⟨gb778, 3, none⟩ = some (.int .i64 t767) ∧ w'.cell? ⟨gb778, 4, none⟩ = some (.int .i64 t768) ∧ w'.cell? ⟨gb778, 5, none⟩ = some (.slice Ao14 t769.length co14) ∧ w'.cell? ⟨gb778, 6, none⟩ = some (.int .i64 t772) ∧ w'.cell? ⟨gb778, 7, none⟩ = some (.int .i64 t773)) ∧ (Kd.R (Kd.int .i64) 3 w' w.heap.size (fun k_ => (w.heap.size ≤ k_) ∧ some k_ ≠ (.slice Ao14 t769.length co14 : Value).ownBlock ∧ some k_ ≠ (v775 : Value).ownBlock ∧ some k_ ≠ (s_.2.1 : Value).ownBlock ∧ some k_ ≠ (s_.2.2.1 : Value).ownBlock ∧ some k_ ≠ (s_.2.2.2.2 : Value).ownBlock) (.slice Ao13 t764.length co13) t764) ∧ (Kd.R (Kd.int .i64) 3 w' w.heap.size (fun k_ => (w.heap.size ≤ k_) ∧ some k_ ≠ (.slice Ao13 t764.length co13 : Value).ownBlock ∧ some k_ ≠ (v775 : Value).ownBlock ∧ some k_ ≠ (s_.2.1 : Value).ownBlock ∧ some k_ ≠ (s_.2.2.1 : Value).ownBlock ∧ some k_ ≠ (s_.2.2.2.2 : Value).ownBlock) (.slice Ao14 t769.length co14) t769) ∧ (Kd.R (Kd.int .i64) 3 w' w.heap.size (fun k_ => (w.heap.size ≤ k_) ∧ some k_ ≠ (.slice Ao13 t764.length co13 : Value).ownBlock ∧ some k_ ≠ (.slice Ao14 t769.length co14 : Value).ownBlock ∧ some k_ ≠ (s_.2.1 : Value).ownBlock ∧ some k_ ≠ (s_.2.2.1 : Value).ownBlock ∧ some k_ ≠ (s_.2.2.2.2 : Value).ownBlock) v775 t774) ∧ (Kd.R k113 113 w' w.heap.size (fun k_ => (w.heap.size ≤ k_) ∧ some k_ ≠ (s_.2.2.2.1 : Value).ownBlock) s_.1 t783) ∧ (Kd.R (Kd.int .i64) 3 w' w.heap.size (fun k_ => (w.heap.size ≤ k_) ∧ some k_ ≠ (.slice Ao13 t764.length co13 : Value).ownBlock ∧ some k_ ≠ (.slice Ao14 t769.length co14 : Value).ownBlock ∧ some k_ ≠ (v775 : Value).ownBlock ∧ some k_ ≠ (s_.2.2.1 : Value).ownBlock ∧ some k_ ≠ (s_.2.2.2.2 : Value).ownBlock) s_.2.1 t788) ∧ (Kd.R (Kd.int .i64) 3 w' w.heap.size (fun k_ => (w.heap.size ≤ k_) ∧ some k_ ≠ (.slice Ao13 t764.length co13 : Value).ownBlock ∧ some k_ ≠ (.slice Ao14 t769.length co14 : Value).ownBlock ∧ some k_ ≠ (v775 : Value).ownBlock ∧ some k_ ≠ (s_.2.1 : Value).ownBlock ∧ some k_ ≠ (s_.2.2.2.2 : Value).ownBlock) s_.2.2.1 y791) ∧ (Kd.R k113 113 w' w.heap.size (fun k_ => (w.heap.size ≤ k_) ∧ some k_ ≠ (s_.1 : Value).ownBlock) s_.2.2.2.1 t794) ∧ (Kd.R (Kd.int .i64) 3 w' w.heap.size (fun k_ => (w.heap.size ≤ k_) ∧ some k_ ≠ (.slice Ao13 t764.length co13 : Value).ownBlock ∧ some k_ ≠ (.slice Ao14 t769.length co14 : Value).ownBlock ∧ some k_ ≠ (v775 : Value).ownBlock ∧ some k_ ≠ (s_.2.1 : Value).ownBlock ∧ some k_ ≠ (s_.2.2.1 : Value).ownBlock) s_.2.2.2.2 t799) ∧ (w'.heap[gb761]? = some (.cells #[.int .i64 0, .int .i64 0, .slice none 0 0, .int .i64 0, .int .i64 0, .slice none 0 0, .int .i64 0, .int .i64 0] 41 (0, 0))) ∧ (w'.heap[gb778]? = some (.cells #[.int .i64 t762, .int .i64 t763, .slice Ao13 t764.length co13, .int .i64 t767, .int .i64 t768, .slice Ao14 t769.length co14, .int .i64 t772, .int .i64 t773] 41 (0, 0))) ∧ (IsS173 w w' g782 t779 t797 t798) ∧ (Below w.heap.size w w')) ?_ ?_
  rotate_left
  rotate_left
  ·skip
   rintro ⟨v784, v789, v792, v795, v800⟩ w25 ⟨hS_, h0_, h1_, h2_, h3_, h4_, h5_, h6_, h7_, h8_, h9_, h10_, h11_⟩
   have _ : Aside0 (Kd.R (Kd.int .i64) 3 w25 w.heap.size (fun k_ => (w.heap.size ≤ k_) ∧ some k_ ≠ (.slice Ao14 t769.length co14 : Value).ownBlock ∧ some k_ ≠ (v775 : Value).ownBlock ∧ some k_ ≠ (v789 : Value).ownBlock ∧ some k_ ≠ (v792 : Value).ownBlock ∧ some k_ ≠ (v800 : Value).ownBlock) (.slice Ao13 t764.length co13) t764) := ⟨h0_⟩
   have _ : Aside0 (Kd.R (Kd.int .i64) 3 w25 w.heap.size (fun k_ => (w.heap.size ≤ k_) ∧ some k_ ≠ (.slice Ao13 t764.length co13 : Value).ownBlock ∧ some k_ ≠ (v775 : Value).ownBlock ∧ some k_ ≠ (v789 : Value).ownBlock ∧ some k_ ≠ (v792 : Value).ownBlock ∧ some k_ ≠ (v800 : Value).ownBlock) (.slice Ao14 t769.length co14) t769) := ⟨h1_⟩
   have _ : Aside0 (Kd.R (Kd.int .i64) 3 w25 w.heap.size (fun k_ => (w.heap.size ≤ k_) ∧ some k_ ≠ (.slice Ao13 t764.length co13 : Value).ownBlock ∧ some k_ ≠ (.slice Ao14 t769.length co14 : Value).ownBlock ∧ some k_ ≠ (v789 : Value).ownBlock ∧ some k_ ≠ (v792 : Value).ownBlock ∧ some k_ ≠ (v800 : Value).ownBlock) v775 t774) := ⟨h2_⟩
   have _ : Aside0 (Kd.R k113 113 w25 w.heap.size (fun k_ => (w.heap.size ≤ k_) ∧ some k_ ≠ (v795 : Value).ownBlock) v784 t783) := ⟨h3_⟩
   have _ : Aside0 (Kd.R (Kd.int .i64) 3 w25 w.heap.size (fun k_ => (w.heap.size ≤ k_) ∧ some k_ ≠ (.slice Ao13 t764.length co13 : Value).ownBlock ∧ some k_ ≠ (.slice Ao14 t769.length co14 : Value).ownBlock ∧ some k_ ≠ (v775 : Value).ownBlock ∧ some k_ ≠ (v792 : Value).ownBlock ∧ some k_ ≠ (v800 : Value).ownBlock) v789 t788) := ⟨h4_⟩
   have _ : Aside0 (Kd.R (Kd.int .i64) 3 w25 w.heap.size (fun k_ => (w.heap.size ≤ k_) ∧ some k_ ≠ (.slice Ao13 t764.length co13 : Value).ownBlock ∧ some k_ ≠ (.slice Ao14 t769.length co14 : Value).ownBlock ∧ some k_ ≠ (v775 : Value).ownBlock ∧ some k_ ≠ (v789 : Value).ownBlock ∧ some k_ ≠ (v800 : Value).ownBlock) v792 y791) := ⟨h5_⟩
   have _ : Aside0 (Kd.R k113 113 w25 w.heap.size (fun k_ => (w.heap.size ≤ k_) ∧ some k_ ≠ (v784 : Value).ownBlock) v795 t794) := ⟨h6_⟩
   have _ : Aside0 (Kd.R (Kd.int .i64) 3 w25 w.heap.size (fun k_ => (w.heap.size ≤ k_) ∧ some k_ ≠ (.slice Ao13 t764.length co13 : Value).ownBlock ∧ some k_ ≠ (.slice Ao14 t769.length co14 : Value).ownBlock ∧ some k_ ≠ (v775 : Value).ownBlock ∧ some k_ ≠ (v789 : Value).ownBlock ∧ some k_ ≠ (v792 : Value).ownBlock) v800 t799) := ⟨h7_⟩
   have _ : Aside0 (w25.heap[gb761]? = some (.cells #[.int .i64 0, .int .i64 0, .slice none 0 0, .int .i64 0, .int .i64 0, .slice none 0 0, .int .i64 0, .int .i64 0] 41 (0, 0))) := ⟨h8_⟩
   have _ : Aside0 (w25.heap[gb778]? = some (.cells #[.int .i64 t762, .int .i64 t763, .slice Ao13 t764.length co13, .int .i64 t767, .int .i64 t768, .slice Ao14 t769.length co14, .int .i64 t772, .int .i64 t773] 41 (0, 0))) := ⟨h9_⟩
   have _ : Aside0 (IsS173 w w25 g782 t779 t797 t798) := ⟨h10_⟩
   have _ : Aside0 (Below w.heap.size w w25) := ⟨h11_⟩
   clear HO766 HO771 HO776 BK761 BK778 HI782 HB h0_ h1_ h2_ h3_ h4_ h5_ h6_ h7_ h8_ h9_ h10_ h11_
   rename_i HO766 HO771 HO776 HO785 HO790 HO793 HO796 HO801 BK761 BK778 HI782 HB
   have hHeld : w25.cell? ⟨gb778, 0, none⟩ = some (.int .i64 t762) ∧ w25.cell? ⟨gb778, 1, none⟩ = some (.int .i64 t763) ∧ w25.cell? ⟨gb778, 2, none⟩ = some (.slice Ao13 t764.length co13) ∧ w25.cell? ⟨gb778, 3, none⟩ = some (.int .i64 t767) ∧ w25.cell? ⟨gb778, 4, none⟩ = some (.int .i64 t768) ∧ w25.cell? ⟨gb778, 5, none⟩ = some (.slice Ao14 t769.length co14) ∧ w25.cell? ⟨gb778, 6, none⟩ = some (.int .i64 t772) ∧ w25.cell? ⟨gb778, 7, none⟩ = some (.int .i64 t773) := hS_
   obtain ⟨Ao26, co26, eo26⟩ := Kd.R_slice HO790.o
   (first | subst eo26 | (injection eo26 with f1_ f2_ f3_; have f4_ := f1_.symm; have f5_ := f3_.symm; clear f1_ f2_ f3_; subst f4_; subst f5_))
   obtain ⟨Ao27, co27, eo27⟩ := Kd.R_slice HO776.o
   (first | subst eo27 | (injection eo27 with f1_ f2_ f3_; have f4_ := f1_.symm; have f5_ := f3_.symm; clear f1_ f2_ f3_; subst f4_; subst f5_))
   obtain ⟨Ao28, co28, eo28⟩ := Kd.R_slice HO793.o
   (first | subst eo28 | (injection eo28 with f1_ f2_ f3_; have f4_ := f1_.symm; have f5_ := f3_.symm; clear f1_ f2_ f3_; subst f4_; subst f5_))
   obtain ⟨Ao29, co29, eo29⟩ := Kd.R_slice HO801.o
   (first | subst eo29 | (injection eo29 with f1_ f2_ f3_; have f4_ := f1_.symm; have f5_ := f3_.symm; clear f1_ f2_ f3_; subst f4_; subst f5_))
   refine norm_ (a' := ?_) ?_ ?_
   rotate_left
   ·simp only [putAll, Act.put, sA, sZ, sS]
    rfl
   refine two_ (i := 11) (j := 13) (Ni := some 28) (Nj := none) b17A9 b17A10 rfl rfl rfl rfl (two_of HT_.o (by kernel_rfl)) (by decide) (by decide) (fun K hK => ?_) (fun K hK => ?_)
   ·skip
    refine Kd.N_lit_step (Kd.slice 3 (Kd.int .i64)) _ 24 ?hg (N' := 28) ?hd (xs := ([t788, t774, y791, t799] : List (List Int))) (inner := [.slice Ao26 t788.length co26, .slice Ao27 t774.length co27, .slice Ao28 y791.length co28, .slice Ao29 t799.length co29]) (ok := (fun k_ => (w.heap.size ≤ k_) ∧ some k_ ≠ (.slice Ao13 t764.length co13 : Value).ownBlock ∧ some k_ ≠ (.slice Ao14 t769.length co14 : Value).ownBlock ∧ some k_ ≠ (v784 : Value).ownBlock ∧ some k_ ≠ (v795 : Value).ownBlock ∧ k_ ≠ gb761 ∧ k_ ≠ gb778 ∧ k_ ≠ g782)) (okp := (fun k_ => (w.heap.size ≤ k_) ∧ some k_ ≠ (.slice Ao13 t764.length co13 : Value).ownBlock ∧ some k_ ≠ (.slice Ao14 t769.length co14 : Value).ownBlock ∧ some k_ ≠ (v784 : Value).ownBlock ∧ some k_ ≠ (v795 : Value).ownBlock ∧ k_ ≠ gb761 ∧ k_ ≠ gb778 ∧ k_ ≠ g782)) ?hr ?hp (fun _ hk => hk) ((show ∀ k_, w25.heap.size ≤ k_ → (fun k_ => (w.heap.size ≤ k_) ∧ some k_ ≠ (.slice Ao13 t764.length co13 : Value).ownBlock ∧ some k_ ≠ (.slice Ao14 t769.length co14 : Value).ownBlock ∧ some k_ ≠ (v784 : Value).ownBlock ∧ some k_ ≠ (v795 : Value).ownBlock ∧ k_ ≠ gb761 ∧ k_ ≠ gb778 ∧ k_ ≠ g782) k_ from fun k_ hk => ⟨(Nat.le_trans (bZ M2) hk), Kd.fresh' (Kd.R_lt (Kd.qR HO766.o)) k_ hk, Kd.fresh' (Kd.R_lt (Kd.qR HO771.o)) k_ hk, Kd.fresh' (Kd.R_lt (Kd.qR HO785.o)) k_ hk, Kd.fresh' (Kd.R_lt (Kd.qR HO796.o)) k_ hk, Kd.freshB (qK BK761.o) k_ hk, Kd.freshB (qK BK778.o) k_ hk, IsS173.fresh M5 k_ hk⟩) _ (Nat.le_refl _)) (Below.refl _ _) (Nat.le_refl _) (by simp) ?_; (case hd => rfl); (case hg => rfl); (case hr => first | (go_simp; done) | (go_simp; rfl)); (case hp => exact (Reps.one (show Kd.FK (Kd.slice 3 (Kd.int .i64)) _ _ t788 [.slice Ao26 t788.length co26] from (Kd.FK_slice_mk (Kd.R_reads' (Kd.R_mono (ok' := (fun k_ => (w.heap.size ≤ k_) ∧ some k_ ≠ (.slice Ao13 t764.length co13 : Value).ownBlock ∧ some k_ ≠ (.slice Ao14 t769.length co14 : Value).ownBlock ∧ some k_ ≠ (v784 : Value).ownBlock ∧ some k_ ≠ (v795 : Value).ownBlock ∧ k_ ≠ gb761 ∧ k_ ≠ gb778 ∧ k_ ≠ g782)) (IsS173.apart HI782.o (Kd.R_types (Kd.R_types (Kd.R_apart' (Kd.R_apart' (HO790.o) (Kd.R_typed HO785.o) (by decide)) (Kd.R_typed HO796.o) (by decide)) BK761.o (by decide)) BK778.o (by decide)) (by decide)) (fun k_ hk => ⟨hk.1.1.1.1.1.1, ⟨hk.1.1.1.1.1.2.1, ⟨hk.1.1.1.1.1.2.2.1, ⟨hk.1.1.1.1.2, ⟨hk.1.1.1.2, ⟨hk.1.1.2, ⟨hk.1.2, hk.2⟩⟩⟩⟩⟩⟩⟩))).2.1 (Kd.R_F (Kd.R_mono (ok' := (fun k_ => (w.heap.size ≤ k_) ∧ some k_ ≠ (.slice Ao13 t764.length co13 : Value).ownBlock ∧ some k_ ≠ (.slice Ao14 t769.length co14 : Value).ownBlock ∧ some k_ ≠ (v784 : Value).ownBlock ∧ some k_ ≠ (v795 : Value).ownBlock ∧ k_ ≠ gb761 ∧ k_ ≠ gb778 ∧ k_ ≠ g782)) (IsS173.apart HI782.o (Kd.R_types (Kd.R_types (Kd.R_apart' (Kd.R_apart' (HO790.o) (Kd.R_typed HO785.o) (by decide)) (Kd.R_typed HO796.o) (by decide)) BK761.o (by decide)) BK778.o (by decide)) (by decide)) (fun k_ hk => ⟨hk.1.1.1.1.1.1, ⟨hk.1.1.1.1.1.2.1, ⟨hk.1.1.1.1.1.2.2.1, ⟨hk.1.1.1.1.2, ⟨hk.1.1.1.2, ⟨hk.1.1.2, ⟨hk.1.2, hk.2⟩⟩⟩⟩⟩⟩⟩))))) (Reps.one (show Kd.FK (Kd.slice 3 (Kd.int .i64)) _ _ t774 [.slice Ao27 t774.length co27] from (Kd.FK_slice_mk (Kd.R_reads' (Kd.R_mono (ok' := (fun k_ => (w.heap.size ≤ k_) ∧ some k_ ≠ (.slice Ao13 t764.length co13 : Value).ownBlock ∧ some k_ ≠ (.slice Ao14 t769.length co14 : Value).ownBlock ∧ some k_ ≠ (v784 : Value).ownBlock ∧ some k_ ≠ (v795 : Value).ownBlock ∧ k_ ≠ gb761 ∧ k_ ≠ gb778 ∧ k_ ≠ g782)) (IsS173.apart HI782.o (Kd.R_types (Kd.R_types (Kd.R_apart' (Kd.R_apart' (HO776.o) (Kd.R_typed HO785.o) (by decide)) (Kd.R_typed HO796.o) (by decide)) BK761.o (by decide)) BK778.o (by decide)) (by decide)) (fun k_ hk => ⟨hk.1.1.1.1.1.1, ⟨hk.1.1.1.1.1.2.1, ⟨hk.1.1.1.1.1.2.2.1, ⟨hk.1.1.1.1.2, ⟨hk.1.1.1.2, ⟨hk.1.1.2, ⟨hk.1.2, hk.2⟩⟩⟩⟩⟩⟩⟩))).2.1 (Kd.R_F (Kd.R_mono (ok' := (fun k_ => (w.heap.size ≤ k_) ∧ some k_ ≠ (.slice Ao13 t764.length co13 : Value).ownBlock ∧ some k_ ≠ (.slice Ao14 t769.length co14 : Value).ownBlock ∧ some k_ ≠ (v784 : Value).ownBlock ∧ some k_ ≠ (v795 : Value).ownBlock ∧ k_ ≠ gb761 ∧ k_ ≠ gb778 ∧ k_ ≠ g782)) (IsS173.apart HI782.o (Kd.R_types (Kd.R_types (Kd.R_apart' (Kd.R_apart' (HO776.o) (Kd.R_typed HO785.o) (by decide)) (Kd.R_typed HO796.o) (by decide)) BK761.o (by decide)) BK778.o (by decide)) (by decide)) (fun k_ hk => ⟨hk.1.1.1.1.1.1, ⟨hk.1.1.1.1.1.2.1, ⟨hk.1.1.1.1.1.2.2.1, ⟨hk.1.1.1.1.2, ⟨hk.1.1.1.2, ⟨hk.1.1.2, ⟨hk.1.2, hk.2⟩⟩⟩⟩⟩⟩⟩))))) (Reps.one (show Kd.FK (Kd.slice 3 (Kd.int .i64)) _ _ y791 [.slice Ao28 y791.length co28] from (Kd.FK_slice_mk (Kd.R_reads' (Kd.R_mono (ok' := (fun k_ => (w.heap.size ≤ k_) ∧ some k_ ≠ (.slice Ao13 t764.length co13 : Value).ownBlock ∧ some k_ ≠ (.slice Ao14 t769.length co14 : Value).ownBlock ∧ some k_ ≠ (v784 : Value).ownBlock ∧ some k_ ≠ (v795 : Value).ownBlock ∧ k_ ≠ gb761 ∧ k_ ≠ gb778 ∧ k_ ≠ g782)) (IsS173.apart HI782.o (Kd.R_types (Kd.R_types (Kd.R_apart' (Kd.R_apart' (HO793.o) (Kd.R_typed HO785.o) (by decide)) (Kd.R_typed HO796.o) (by decide)) BK761.o (by decide)) BK778.o (by decide)) (by decide)) (fun k_ hk => ⟨hk.1.1.1.1.1.1, ⟨hk.1.1.1.1.1.2.1, ⟨hk.1.1.1.1.1.2.2.1, ⟨hk.1.1.1.1.2, ⟨hk.1.1.1.2, ⟨hk.1.1.2, ⟨hk.1.2, hk.2⟩⟩⟩⟩⟩⟩⟩))).2.1 (Kd.R_F (Kd.R_mono (ok' := (fun k_ => (w.heap.size ≤ k_) ∧ some k_ ≠ (.slice Ao13 t764.length co13 : Value).ownBlock ∧ some k_ ≠ (.slice Ao14 t769.length co14 : Value).ownBlock ∧ some k_ ≠ (v784 : Value).ownBlock ∧ some k_ ≠ (v795 : Value).ownBlock ∧ k_ ≠ gb761 ∧ k_ ≠ gb778 ∧ k_ ≠ g782)) (IsS173.apart HI782.o (Kd.R_types (Kd.R_types (Kd.R_apart' (Kd.R_apart' (HO793.o) (Kd.R_typed HO785.o) (by decide)) (Kd.R_typed HO796.o) (by decide)) BK761.o (by decide)) BK778.o (by decide)) (by decide)) (fun k_ hk => ⟨hk.1.1.1.1.1.1, ⟨hk.1.1.1.1.1.2.1, ⟨hk.1.1.1.1.1.2.2.1, ⟨hk.1.1.1.1.2, ⟨hk.1.1.1.2, ⟨hk.1.1.2, ⟨hk.1.2, hk.2⟩⟩⟩⟩⟩⟩⟩))))) (Reps.one (show Kd.FK (Kd.slice 3 (Kd.int .i64)) _ _ t799 [.slice Ao29 t799.length co29] from (Kd.FK_slice_mk (Kd.R_reads' (Kd.R_mono (ok' := (fun k_ => (w.heap.size ≤ k_) ∧ some k_ ≠ (.slice Ao13 t764.length co13 : Value).ownBlock ∧ some k_ ≠ (.slice Ao14 t769.length co14 : Value).ownBlock ∧ some k_ ≠ (v784 : Value).ownBlock ∧ some k_ ≠ (v795 : Value).ownBlock ∧ k_ ≠ gb761 ∧ k_ ≠ gb778 ∧ k_ ≠ g782)) (IsS173.apart HI782.o (Kd.R_types (Kd.R_types (Kd.R_apart' (Kd.R_apart' (HO801.o) (Kd.R_typed HO785.o) (by decide)) (Kd.R_typed HO796.o) (by decide)) BK761.o (by decide)) BK778.o (by decide)) (by decide)) (fun k_ hk => ⟨hk.1.1.1.1.1.1, ⟨hk.1.1.1.1.1.2.1, ⟨hk.1.1.1.1.1.2.2.1, ⟨hk.1.1.1.1.2, ⟨hk.1.1.1.2, ⟨hk.1.1.2, ⟨hk.1.2, hk.2⟩⟩⟩⟩⟩⟩⟩))).2.1 (Kd.R_F (Kd.R_mono (ok' := (fun k_ => (w.heap.size ≤ k_) ∧ some k_ ≠ (.slice Ao13 t764.length co13 : Value).ownBlock ∧ some k_ ≠ (.slice Ao14 t769.length co14 : Value).ownBlock ∧ some k_ ≠ (v784 : Value).ownBlock ∧ some k_ ≠ (v795 : Value).ownBlock ∧ k_ ≠ gb761 ∧ k_ ≠ gb778 ∧ k_ ≠ g782)) (IsS173.apart HI782.o (Kd.R_types (Kd.R_types (Kd.R_apart' (Kd.R_apart' (HO801.o) (Kd.R_typed HO785.o) (by decide)) (Kd.R_typed HO796.o) (by decide)) BK761.o (by decide)) BK778.o (by decide)) (by decide)) (fun k_ hk => ⟨hk.1.1.1.1.1.1, ⟨hk.1.1.1.1.1.2.1, ⟨hk.1.1.1.1.1.2.2.1, ⟨hk.1.1.1.1.2, ⟨hk.1.1.1.2, ⟨hk.1.1.2, ⟨hk.1.2, hk.2⟩⟩⟩⟩⟩⟩⟩))))) (Reps.none _ _))))))
    intro v803 w30 ho31 hb hg_ hnew_
    clear hg_ hnew_
    (first | rw [← Ny802.o] at ho31 | (simp only [Int.reduceToNat] at ho31; rw [← Ny802.o] at ho31))
    have _ := zK (Kd.R_below (Kd.qR HO766.o) hb)
    have _ := zK (Kd.R_below (Kd.qR HO771.o) hb)
    have _ := zK (Kd.R_below (Kd.qR HO785.o) hb)
    have _ := zK (Kd.R_below (Kd.qR HO796.o) hb)
    have _ := zK (Kd.N_lower ho31 (bZ M2))
    have _ := zK (bB (qK BK761.o) hb)
    have _ := zK (bB (qK BK778.o) hb)
    have _ := zK (IsS173.below M5 hb)
    have _ := zK (bT M2 hb)
    clear HO766 HO771 HO785 HO796 BK761 BK778 HI782 HB HO776 HO790 HO793 HO801
    rename_i HO766 HO771 HO785 HO796 HO804 BK761 BK778 HI782 HB
    clear hb ho31
    refine hK.out _ _ (b8 BK778.o) (fun hHeld => ?_)
    clear hK K
    refine norm_ (a' := ?_) ?_ ?_
    rotate_left
    ·show Act.put _ (some 28) _ = _
     simp only [Act.put, sA, sZ, sS, i64_w, i32_w]
     rfl
    exact norm_ M32 (hJ2_4_6_8_10_11 (v784, .slice Ao26 t788.length co26, .slice Ao28 y791.length co28, v795, .slice Ao29 t799.length co29, v803) _ ⟨hHeld, M25, M26, (Kd.qR HO785.o), (Kd.qR HO796.o), (by (with_reducible repeat (first | apply Kd.N_alloc | apply Kd.N_drewN | apply Kd.N_drew)); exact HO804.o), (qK BK761.o), (qK BK778.o), M5, M2⟩)
   skip
   have hs26 : w25.cell? ⟨gb761, 0, none⟩ = some (.int .i64 0) := (bc BK761.o 0).trans rfl
   have hfs26 := bf BK761.o 0
   have hns26_1 := NB778_761.o
   have hms26_1 := NB761_778.o
   have hs27 : w25.cell? ⟨gb761, 1, none⟩ = some (.int .i64 0) := (bc BK761.o 1).trans rfl
   have hfs27 := bf BK761.o 1
   have hns27_1 := NB778_761.o
   have hms27_1 := NB761_778.o
   have hs28 : w25.cell? ⟨gb761, 2, none⟩ = some (.slice none 0 0) := (bc BK761.o 2).trans rfl
   have hfs28 := bf BK761.o 2
   have hns28_1 := NB778_761.o
   have hms28_1 := NB761_778.o
   have hs29 : w25.cell? ⟨gb761, 3, none⟩ = some (.int .i64 0) := (bc BK761.o 3).trans rfl
   have hfs29 := bf BK761.o 3
   have hns29_1 := NB778_761.o
   have hms29_1 := NB761_778.o
   have hs30 : w25.cell? ⟨gb761, 4, none⟩ = some (.int .i64 0) := (bc BK761.o 4).trans rfl
   have hfs30 := bf BK761.o 4
   have hns30_1 := NB778_761.o
   have hms30_1 := NB761_778.o
   have hs31 : w25.cell? ⟨gb761, 5, none⟩ = some (.slice none 0 0) := (bc BK761.o 5).trans rfl
   have hfs31 := bf BK761.o 5
   have hns31_1 := NB778_761.o
   have hms31_1 := NB761_778.o
   have hs32 : w25.cell? ⟨gb761, 6, none⟩ = some (.int .i64 0) := (bc BK761.o 6).trans rfl
   have hfs32 := bf BK761.o 6
   have hns32_1 := NB778_761.o
   have hms32_1 := NB761_778.o
   have hs33 : w25.cell? ⟨gb761, 7, none⟩ = some (.int .i64 0) := (bc BK761.o 7).trans rfl
   have hfs33 := bf BK761.o 7
   have hns33_1 := NB778_761.o
   have hms33_1 := NB761_778.o
   refine skip_ (w1 := ?_) (by rfl) rfl ?_ ?_
   rotate_left
   ·go_simp
    rfl
   refine hK.out _ _ ⟨((cell_far (p := ⟨gb761, _, none⟩) NB778_761.o _).trans (((cell_far (p := ⟨gb761, _, none⟩) NB778_761.o _).trans (((cell_far (p := ⟨gb761, _, none⟩) NB778_761.o _).trans (((cell_far (p := ⟨gb761, _, none⟩) NB778_761.o _).trans (((cell_far (p := ⟨gb761, _, none⟩) NB778_761.o _).trans (((cell_far (p := ⟨gb761, _, none⟩) NB778_761.o _).trans (((cell_far (p := ⟨gb761, _, none⟩) NB778_761.o _).trans (((cell_far (p := ⟨gb761, _, none⟩) NB778_761.o _).trans (hHeld.1)))))))))))))))), ((cell_far (p := ⟨gb761, _, none⟩) NB778_761.o _).trans (((cell_far (p := ⟨gb761, _, none⟩) NB778_761.o _).trans (((cell_far (p := ⟨gb761, _, none⟩) NB778_761.o _).trans (((cell_far (p := ⟨gb761, _, none⟩) NB778_761.o _).trans (((cell_far (p := ⟨gb761, _, none⟩) NB778_761.o _).trans (((cell_far (p := ⟨gb761, _, none⟩) NB778_761.o _).trans (((cell_far (p := ⟨gb761, _, none⟩) NB778_761.o _).trans (((cell_far (p := ⟨gb761, _, none⟩) NB778_761.o _).trans (hHeld.2.1)))))))))))))))), ((cell_far (p := ⟨gb761, _, none⟩) NB778_761.o _).trans (((cell_far (p := ⟨gb761, _, none⟩) NB778_761.o _).trans (((cell_far (p := ⟨gb761, _, none⟩) NB778_761.o _).trans (((cell_far (p := ⟨gb761, _, none⟩) NB778_761.o _).trans (((cell_far (p := ⟨gb761, _, none⟩) NB778_761.o _).trans (((cell_far (p := ⟨gb761, _, none⟩) NB778_761.o _).trans (((cell_far (p := ⟨gb761, _, none⟩) NB778_761.o _).trans (((cell_far (p := ⟨gb761, _, none⟩) NB778_761.o _).trans (hHeld.2.2.1)))))))))))))))), ((cell_far (p := ⟨gb761, _, none⟩) NB778_761.o _).trans (((cell_far (p := ⟨gb761, _, none⟩) NB778_761.o _).trans (((cell_far (p := ⟨gb761, _, none⟩) NB778_761.o _).trans (((cell_far (p := ⟨gb761, _, none⟩) NB778_761.o _).trans (((cell_far (p := ⟨gb761, _, none⟩) NB778_761.o _).trans (((cell_far (p := ⟨gb761, _, none⟩) NB778_761.o _).trans (((cell_far (p := ⟨gb761, _, none⟩) NB778_761.o _).trans (((cell_far (p := ⟨gb761, _, none⟩) NB778_761.o _).trans (hHeld.2.2.2.1)))))))))))))))), ((cell_far (p := ⟨gb761, _, none⟩) NB778_761.o _).trans (((cell_far (p := ⟨gb761, _, none⟩) NB778_761.o _).trans (((cell_far (p := ⟨gb761, _, none⟩) NB778_761.o _).trans (((cell_far (p := ⟨gb761, _, none⟩) NB778_761.o _).trans (((cell_far (p := ⟨gb761, _, none⟩) NB778_761.o _).trans (((cell_far (p := ⟨gb761, _, none⟩) NB778_761.o _).trans (((cell_far (p := ⟨gb761, _, none⟩) NB778_761.o _).trans (((cell_far (p := ⟨gb761, _, none⟩) NB778_761.o _).trans ((d4 hHeld).1)))))))))))))))), ((cell_far (p := ⟨gb761, _, none⟩) NB778_761.o _).trans (((cell_far (p := ⟨gb761, _, none⟩) NB778_761.o _).trans (((cell_far (p := ⟨gb761, _, none⟩) NB778_761.o _).trans (((cell_far (p := ⟨gb761, _, none⟩) NB778_761.o _).trans (((cell_far (p := ⟨gb761, _, none⟩) NB778_761.o _).trans (((cell_far (p := ⟨gb761, _, none⟩) NB778_761.o _).trans (((cell_far (p := ⟨gb761, _, none⟩) NB778_761.o _).trans (((cell_far (p := ⟨gb761, _, none⟩) NB778_761.o _).trans ((d4 hHeld).2.1)))))))))))))))), ((cell_far (p := ⟨gb761, _, none⟩) NB778_761.o _).trans (((cell_far (p := ⟨gb761, _, none⟩) NB778_761.o _).trans (((cell_far (p := ⟨gb761, _, none⟩) NB778_761.o _).trans (((cell_far (p := ⟨gb761, _, none⟩) NB778_761.o _).trans (((cell_far (p := ⟨gb761, _, none⟩) NB778_761.o _).trans (((cell_far (p := ⟨gb761, _, none⟩) NB778_761.o _).trans (((cell_far (p := ⟨gb761, _, none⟩) NB778_761.o _).trans (((cell_far (p := ⟨gb761, _, none⟩) NB778_761.o _).trans ((d4 hHeld).2.2.1)))))))))))))))), ((cell_far (p := ⟨gb761, _, none⟩) NB778_761.o _).trans (((cell_far (p := ⟨gb761, _, none⟩) NB778_761.o _).trans (((cell_far (p := ⟨gb761, _, none⟩) NB778_761.o _).trans (((cell_far (p := ⟨gb761, _, none⟩) NB778_761.o _).trans (((cell_far (p := ⟨gb761, _, none⟩) NB778_761.o _).trans (((cell_far (p := ⟨gb761, _, none⟩) NB778_761.o _).trans (((cell_far (p := ⟨gb761, _, none⟩) NB778_761.o _).trans (((cell_far (p := ⟨gb761, _, none⟩) NB778_761.o _).trans ((d4 hHeld).2.2.2))))))))))))))))⟩ (fun hHeld => ?_)
   clear hK K
   exact norm_ M32 (hJ2_4_6_8_10_13 (v784, .slice Ao26 t788.length co26, .slice Ao28 y791.length co28, v795, .slice Ao29 t799.length co29) _ ⟨hHeld, M20, M21, M39, M22, M40, (Kd.R_mono (Kd.qF HO793.o BK761.o) (fun _ hk => by (try dsimp only at hk); simp only [hk, ne_eq, not_false_eq_true, and_self])), M23, M41, (qP BK761.o), (qP BK778.o), M5, M2⟩)
  intro hJ2_4_6_8_10
  refine join_ (σ := Value × Value × Value × Value) 4 b17A12 (fun s_ => [(19, s_.1), (21, s_.2.1), (25, s_.2.2.1), (27, s_.2.2.2)]) (fun s_ w' => (w'.cell? ⟨gb778, 0, none⟩ = some (.int .i64 t762) ∧ w'.cell? ⟨gb778, 1, none⟩ = some (.int .i64 t763) ∧ w'.cell? ⟨gb778, 2, none⟩ = some (.slice Ao13 t764.length co13) ∧ w'.cell? ⟨gb778, 3, none⟩ = some (.int .i64 t767) ∧ w'.cell? ⟨gb778, 4, none⟩ = some (.int .i64 t768) ∧ w'.cell? ⟨gb778, 5, none⟩ = some (.slice Ao14 t769.length co14) ∧ w'.cell? ⟨gb778, 6, none⟩ = some (.int .i64 t772) ∧ w'.cell? ⟨gb778, 7, none⟩ = some (.int .i64 t773)) ∧ (Kd.R (Kd.int .i64) 3 w' w.heap.size (fun k_ => (w.heap.size ≤ k_) ∧ some k_ ≠ (.slice Ao14 t769.length co14 : Value).ownBlock ∧ some k_ ≠ (v775 : Value).ownBlock ∧ some k_ ≠ (s_.2.1 : Value).ownBlock ∧ some k_ ≠ (s_.2.2.2 : Value).ownBlock) (.slice Ao13 t764.length co13) t764) ∧ (Kd.R (Kd.int .i64) 3 w' w.heap.size (fun k_ => (w.heap.size ≤ k_) ∧ some k_ ≠ (.slice Ao13 t764.length co13 : Value).ownBlock ∧ some k_ ≠ (v775 : Value).ownBlock ∧ some k_ ≠ (s_.2.1 : Value).ownBlock ∧ some k_ ≠ (s_.2.2.2 : Value).ownBlock) (.slice Ao14 t769.length co14) t769) ∧ (Kd.R (Kd.int .i64) 3 w' w.heap.size (fun k_ => (w.heap.size ≤ k_) ∧ some k_ ≠ (.slice Ao13 t764.length co13 : Value).ownBlock ∧ some k_ ≠ (.slice Ao14 t769.length co14 : Value).ownBlock ∧ some k_ ≠ (s_.2.1 : Value).ownBlock ∧ some k_ ≠ (s_.2.2.2 : Value).ownBlock) v775 t774) ∧ (Kd.R k113 113 w' w.heap.size (fun k_ => (w.heap.size ≤ k_) ∧ some k_ ≠ (s_.2.2.1 : Value).ownBlock) s_.1 t783) ∧ (Kd.R (Kd.int .i64) 3 w' w.heap.size (fun k_ => (w.heap.size ≤ k_) ∧ some k_ ≠ (.slice Ao13 t764.length co13 : Value).ownBlock ∧ some k_ ≠ (.slice Ao14 t769.length co14 : Value).ownBlock ∧ some k_ ≠ (v775 : Value).ownBlock ∧ some k_ ≠ (s_.2.2.2 : Value).ownBlock) s_.2.1 t788) ∧ (Kd.R k113 113 w' w.heap.size (fun k_ => (w.heap.size ≤ k_) ∧ some k_ ≠ (s_.1 : Value).ownBlock) s_.2.2.1 t794) ∧ (Kd.R (Kd.int .i64) 3 w' w.heap.size (fun k_ => (w.heap.size ≤ k_) ∧ some k_ ≠ (.slice Ao13 t764.length co13 : Value).ownBlock ∧ some k_ ≠ (.slice Ao14 t769.length co14 : Value).ownBlock ∧ some k_ ≠ (v775 : Value).ownBlock ∧ some k_ ≠ (s_.2.1 : Value).ownBlock) s_.2.2.2 t799) ∧ (w'.heap[gb761]? = some (.cells #[.int .i64 t762, .int .i64 t763, .slice Ao13 t764.length co13, .int .i64 t767, .int .i64 t768, .slice Ao14 t769.length co14, .int .i64 t772, .int .i64 t773] 41 (0, 0))) ∧ (w'.heap[gb778]? = some (.cells #[.int .i64 t762, .int .i64 t763, .slice Ao13 t764.length co13, .int .i64 t767, .int .i64 t768, .slice Ao14 t769.length co14, .int .i64 t772, .int .i64 t773] 41 (0, 0))) ∧ (IsS173 w w' g782 t779 t797 t798) ∧ (Below w.heap.size w w')) ?_ ?_
  rotate_left
  rotate_left
  ·skip
   rintro ⟨v784, v789, v795, v800⟩ w31 ⟨hS_, h0_, h1_, h2_, h3_, h4_, h5_, h6_, h7_, h8_, h9_, h10_⟩
   have _ : Aside0 (Kd.R (Kd.int .i64) 3 w31 w.heap.size (fun k_ => (w.heap.size ≤ k_) ∧ some k_ ≠ (.slice Ao14 t769.length co14 : Value).ownBlock ∧ some k_ ≠ (v775 : Value).ownBlock ∧ some k_ ≠ (v789 : Value).ownBlock ∧ some k_ ≠ (v800 : Value).ownBlock) (.slice Ao13 t764.length co13) t764) := ⟨h0_⟩
   have _ : Aside0 (Kd.R (Kd.int .i64) 3 w31 w.heap.size (fun k_ => (w.heap.size ≤ k_) ∧ some k_ ≠ (.slice Ao13 t764.length co13 : Value).ownBlock ∧ some k_ ≠ (v775 : Value).ownBlock ∧ some k_ ≠ (v789 : Value).ownBlock ∧ some k_ ≠ (v800 : Value).ownBlock) (.slice Ao14 t769.length co14) t769) := ⟨h1_⟩
   have _ : Aside0 (Kd.R (Kd.int .i64) 3 w31 w.heap.size (fun k_ => (w.heap.size ≤ k_) ∧ some k_ ≠ (.slice Ao13 t764.length co13 : Value).ownBlock ∧ some k_ ≠ (.slice Ao14 t769.length co14 : Value).ownBlock ∧ some k_ ≠ (v789 : Value).ownBlock ∧ some k_ ≠ (v800 : Value).ownBlock) v775 t774) := ⟨h2_⟩
   have _ : Aside0 (Kd.R k113 113 w31 w.heap.size (fun k_ => (w.heap.size ≤ k_) ∧ some k_ ≠ (v795 : Value).ownBlock) v784 t783) := ⟨h3_⟩
   have _ : Aside0 (Kd.R (Kd.int .i64) 3 w31 w.heap.size (fun k_ => (w.heap.size ≤ k_) ∧ some k_ ≠ (.slice Ao13 t764.length co13 : Value).ownBlock ∧ some k_ ≠ (.slice Ao14 t769.length co14 : Value).ownBlock ∧ some k_ ≠ (v775 : Value).ownBlock ∧ some k_ ≠ (v800 : Value).ownBlock) v789 t788) := ⟨h4_⟩
   have _ : Aside0 (Kd.R k113 113 w31 w.heap.size (fun k_ => (w.heap.size ≤ k_) ∧ some k_ ≠ (v784 : Value).ownBlock) v795 t794) := ⟨h5_⟩
   have _ : Aside0 (Kd.R (Kd.int .i64) 3 w31 w.heap.size (fun k_ => (w.heap.size ≤ k_) ∧ some k_ ≠ (.slice Ao13 t764.length co13 : Value).ownBlock ∧ some k_ ≠ (.slice Ao14 t769.length co14 : Value).ownBlock ∧ some k_ ≠ (v775 : Value).ownBlock ∧ some k_ ≠ (v789 : Value).ownBlock) v800 t799) := ⟨h6_⟩
   have _ : Aside0 (w31.heap[gb761]? = some (.cells #[.int .i64 t762, .int .i64 t763, .slice Ao13 t764.length co13, .int .i64 t767, .int .i64 t768, .slice Ao14 t769.length co14, .int .i64 t772, .int .i64 t773] 41 (0, 0))) := ⟨h7_⟩
   have _ : Aside0 (w31.heap[gb778]? = some (.cells #[.int .i64 t762, .int .i64 t763, .slice Ao13 t764.length co13, .int .i64 t767, .int .i64 t768, .slice Ao14 t769.length co14, .int .i64 t772, .int .i64 t773] 41 (0, 0))) := ⟨h8_⟩
   have _ : Aside0 (IsS173 w w31 g782 t779 t797 t798) := ⟨h9_⟩
   have _ : Aside0 (Below w.heap.size w w31) := ⟨h10_⟩
   clear HO766 HO771 HO776 BK761 BK778 HI782 HB h0_ h1_ h2_ h3_ h4_ h5_ h6_ h7_ h8_ h9_ h10_
   rename_i HO766 HO771 HO776 HO785 HO790 HO796 HO801 BK761 BK778 HI782 HB
   have hHeld : w31.cell? ⟨gb778, 0, none⟩ = some (.int .i64 t762) ∧ w31.cell? ⟨gb778, 1, none⟩ = some (.int .i64 t763) ∧ w31.cell? ⟨gb778, 2, none⟩ = some (.slice Ao13 t764.length co13) ∧ w31.cell? ⟨gb778, 3, none⟩ = some (.int .i64 t767) ∧ w31.cell? ⟨gb778, 4, none⟩ = some (.int .i64 t768) ∧ w31.cell? ⟨gb778, 5, none⟩ = some (.slice Ao14 t769.length co14) ∧ w31.cell? ⟨gb778, 6, none⟩ = some (.int .i64 t772) ∧ w31.cell? ⟨gb778, 7, none⟩ = some (.int .i64 t773) := hS_
   refine norm_ (a' := ?_) ?_ ?_
   rotate_left
   ·simp only [putAll, Act.put, sA, sZ, sS]
    rfl
   refine one_ (i := 6) (N := some 23) b17A10 rfl rfl (one_of HT_.o (by kernel_rfl)) (by decide) (fun K hK => ?_)
   refine Kd.R_lit_step (Kd.int .i64) _ 3 ?hg (N := 23) ?hd (xs := ([] : List Int)) (inner := []) (ok := fun _ => True) (okp := fun _ => True) ?hr ?hp (fun _ hk => hk) trivial (Below.refl _ _) (Nat.le_refl _) (by simp) ?_; (case hd => rfl); (case hg => rfl); (case hr => first | (go_simp; done) | (go_simp; rfl)); (case hp => exact (Reps.none _ _))
   intro v792 w32 ho33 hb hg_ hnew_
   clear hg_ hnew_
   (first | rw [← Ny791.o] at ho33 | (simp only [Int.reduceToNat] at ho33; rw [← Ny791.o] at ho33))
   have _ := zK (Kd.R_elder' (Kd.qR HO766.o) (Kd.R_base ho33) hb)
   have _ := zK (Kd.R_elder' (Kd.qR HO771.o) (Kd.R_base ho33) hb)
   have _ := zK (Kd.R_elder' (Kd.qR HO776.o) (Kd.R_base ho33) hb)
   have _ := zK (Kd.R_below (Kd.qR HO785.o) hb)
   have _ := zK (Kd.R_elder' (Kd.qR HO790.o) (Kd.R_base ho33) hb)
   have _ := zK (Kd.R_below (Kd.qR HO796.o) hb)
   have _ := zK (Kd.R_elder' (Kd.qR HO801.o) (Kd.R_base ho33) hb)
   have _ := zK (Kd.R_lower (Kd.R_new' (Kd.R_new' (Kd.R_new' (Kd.R_new' (Kd.R_new' (Kd.R_newM (M := fun k_ => (w.heap.size ≤ k_)) ho33 (bZ M2) (fun k_ h_ => h_)) (Kd.R_lt (Kd.qR HO766.o))) (Kd.R_lt (Kd.qR HO771.o))) (Kd.R_lt (Kd.qR HO776.o))) (Kd.R_lt (Kd.qR HO790.o))) (Kd.R_lt (Kd.qR HO801.o))) (bZ M2))
   have _ := zK (bB (qK BK761.o) hb)
   have _ := zK (bB (qK BK778.o) hb)
   have _ := zK (IsS173.below M5 hb)
   have _ := zK (bT M2 hb)
   clear HO766 HO771 HO776 HO785 HO790 HO796 HO801 BK761 BK778 HI782 HB
   rename_i HO766 HO771 HO776 HO785 HO790 HO796 HO801 HO793 BK761 BK778 HI782 HB
   clear hb ho33
   refine hK.out _ _ (b8 BK778.o) (fun hHeld => ?_)
   clear hK K
   refine norm_ (a' := ?_) ?_ ?_
   rotate_left
   ·show Act.put _ (some 23) _ = _
    simp only [Act.put, sA, sZ, sS, i64_w, i32_w]
    rfl
   exact norm_ M32 (hJ2_4_6_8_10_13 (v784, v789, v792, v795, v800) _ ⟨hHeld, M25, M26, M34, (Kd.qR HO785.o), M46, M47, (Kd.qR HO796.o), M73, (qK BK761.o), (qK BK778.o), M5, M2⟩)
  intro hJ2_4_8_10_13
  refine join_ (σ := Value × Value × Value × Value) 5 b17A13 (fun s_ => [(19, s_.1), (21, s_.2.1), (23, s_.2.2.1), (25, s_.2.2.2)]) (fun s_ w' => (w'.cell? ⟨gb778, 0, none⟩ = some (.int .i64 t762) ∧ w'.cell? ⟨gb778, 1, none⟩ = some (.int .i64 t763) ∧ w'.cell? ⟨gb778, 2, none⟩ = some (.slice Ao13 t764.length co13) ∧ w'.cell? ⟨gb778, 3, none⟩ = some (.int .i64 t767) ∧ w'.cell? ⟨gb778, 4, none⟩ = some (.int .i64 t768) ∧ w'.cell? ⟨gb778, 5, none⟩ = some (.slice Ao14 t769.length co14) ∧ w'.cell? ⟨gb778, 6, none⟩ = some (.int .i64 t772) ∧ w'.cell? ⟨gb778, 7, none⟩ = some (.int .i64 t773)) ∧ (Kd.R (Kd.int .i64) 3 w' w.heap.size (fun k_ => (w.heap.size ≤ k_) ∧ some k_ ≠ (.slice Ao14 t769.length co14 : Value).ownBlock ∧ some k_ ≠ (v775 : Value).ownBlock ∧ some k_ ≠ (s_.2.1 : Value).ownBlock ∧ some k_ ≠ (s_.2.2.1 : Value).ownBlock) (.slice Ao13 t764.length co13) t764) ∧ (Kd.R (Kd.int .i64) 3 w' w.heap.size (fun k_ => (w.heap.size ≤ k_) ∧ some k_ ≠ (.slice Ao13 t764.length co13 : Value).ownBlock ∧ some k_ ≠ (v775 : Value).ownBlock ∧ some k_ ≠ (s_.2.1 : Value).ownBlock ∧ some k_ ≠ (s_.2.2.1 : Value).ownBlock) (.slice Ao14 t769.length co14) t769) ∧ (Kd.R (Kd.int .i64) 3 w' w.heap.size (fun k_ => (w.heap.size ≤ k_) ∧ some k_ ≠ (.slice Ao13 t764.length co13 : Value).ownBlock ∧ some k_ ≠ (.slice Ao14 t769.length co14 : Value).ownBlock ∧ some k_ ≠ (s_.2.1 : Value).ownBlock ∧ some k_ ≠ (s_.2.2.1 : Value).ownBlock) v775 t774) ∧ (Kd.R k113 113 w' w.heap.size (fun k_ => (w.heap.size ≤ k_) ∧ some k_ ≠ (s_.2.2.2 : Value).ownBlock) s_.1 t783) ∧ (Kd.R (Kd.int .i64) 3 w' w.heap.size (fun k_ => (w.heap.size ≤ k_) ∧ some k_ ≠ (.slice Ao13 t764.length co13 : Value).ownBlock ∧ some k_ ≠ (.slice Ao14 t769.length co14 : Value).ownBlock ∧ some k_ ≠ (v775 : Value).ownBlock ∧ some k_ ≠ (s_.2.2.1 : Value).ownBlock) s_.2.1 t788) ∧ (Kd.R (Kd.int .i64) 3 w' w.heap.size (fun k_ => (w.heap.size ≤ k_) ∧ some k_ ≠ (.slice Ao13 t764.length co13 : Value).ownBlock ∧ some k_ ≠ (.slice Ao14 t769.length co14 : Value).ownBlock ∧ some k_ ≠ (v775 : Value).ownBlock ∧ some k_ ≠ (s_.2.1 : Value).ownBlock) s_.2.2.1 y791) ∧ (Kd.R k113 113 w' w.heap.size (fun k_ => (w.heap.size ≤ k_) ∧ some k_ ≠ (s_.1 : Value).ownBlock) s_.2.2.2 t794) ∧ (w'.heap[gb761]? = some (.cells #[.int .i64 0, .int .i64 0, .slice none 0 0, .int .i64 0, .int .i64 0, .slice none 0 0, .int .i64 0, .int .i64 0] 41 (0, 0))) ∧ (w'.heap[gb778]? = some (.cells #[.int .i64 t762, .int .i64 t763, .slice Ao13 t764.length co13, .int .i64 t767, .int .i64 t768, .slice Ao14 t769.length co14, .int .i64 t772, .int .i64 t773] 41 (0, 0))) ∧ (IsS173 w w' g782 t779 t797 t798) ∧ (Below w.heap.size w w')) ?_ ?_
  rotate_left
  rotate_left
  ·skip
   rintro ⟨v784, v789, v792, v795⟩ w23 ⟨hS_, h0_, h1_, h2_, h3_, h4_, h5_, h6_, h7_, h8_, h9_, h10_⟩
   have _ : Aside0 (Kd.R (Kd.int .i64) 3 w23 w.heap.size (fun k_ => (w.heap.size ≤ k_) ∧ some k_ ≠ (.slice Ao14 t769.length co14 : Value).ownBlock ∧ some k_ ≠ (v775 : Value).ownBlock ∧ some k_ ≠ (v789 : Value).ownBlock ∧ some k_ ≠ (v792 : Value).ownBlock) (.slice Ao13 t764.length co13) t764) := ⟨h0_⟩
   have _ : Aside0 (Kd.R (Kd.int .i64) 3 w23 w.heap.size (fun k_ => (w.heap.size ≤ k_) ∧ some k_ ≠ (.slice Ao13 t764.length co13 : Value).ownBlock ∧ some k_ ≠ (v775 : Value).ownBlock ∧ some k_ ≠ (v789 : Value).ownBlock ∧ some k_ ≠ (v792 : Value).ownBlock) (.slice Ao14 t769.length co14) t769) := ⟨h1_⟩
   have _ : Aside0 (Kd.R (Kd.int .i64) 3 w23 w.heap.size (fun k_ => (w.heap.size ≤ k_) ∧ some k_ ≠ (.slice Ao13 t764.length co13 : Value).ownBlock ∧ some k_ ≠ (.slice Ao14 t769.length co14 : Value).ownBlock ∧ some k_ ≠ (v789 : Value).ownBlock ∧ some k_ ≠ (v792 : Value).ownBlock) v775 t774) := ⟨h2_⟩
   have _ : Aside0 (Kd.R k113 113 w23 w.heap.size (fun k_ => (w.heap.size ≤ k_) ∧ some k_ ≠ (v795 : Value).ownBlock) v784 t783) := ⟨h3_⟩
   have _ : Aside0 (Kd.R (Kd.int .i64) 3 w23 w.heap.size (fun k_ => (w.heap.size ≤ k_) ∧ some k_ ≠ (.slice Ao13 t764.length co13 : Value).ownBlock ∧ some k_ ≠ (.slice Ao14 t769.length co14 : Value).ownBlock ∧ some k_ ≠ (v775 : Value).ownBlock ∧ some k_ ≠ (v792 : Value).ownBlock) v789 t788) := ⟨h4_⟩
   have _ : Aside0 (Kd.R (Kd.int .i64) 3 w23 w.heap.size (fun k_ => (w.heap.size ≤ k_) ∧ some k_ ≠ (.slice Ao13 t764.length co13 : Value).ownBlock ∧ some k_ ≠ (.slice Ao14 t769.length co14 : Value).ownBlock ∧ some k_ ≠ (v775 : Value).ownBlock ∧ some k_ ≠ (v789 : Value).ownBlock) v792 y791) := ⟨h5_⟩
   have _ : Aside0 (Kd.R k113 113 w23 w.heap.size (fun k_ => (w.heap.size ≤ k_) ∧ some k_ ≠ (v784 : Value).ownBlock) v795 t794) := ⟨h6_⟩
   have _ : Aside0 (w23.heap[gb761]? = some (.cells #[.int .i64 0, .int .i64 0, .slice none 0 0, .int .i64 0, .int .i64 0, .slice none 0 0, .int .i64 0, .int .i64 0] 41 (0, 0))) := ⟨h7_⟩
   have _ : Aside0 (w23.heap[gb778]? = some (.cells #[.int .i64 t762, .int .i64 t763, .slice Ao13 t764.length co13, .int .i64 t767, .int .i64 t768, .slice Ao14 t769.length co14, .int .i64 t772, .int .i64 t773] 41 (0, 0))) := ⟨h8_⟩
   have _ : Aside0 (IsS173 w w23 g782 t779 t797 t798) := ⟨h9_⟩
   have _ : Aside0 (Below w.heap.size w w23) := ⟨h10_⟩
   clear HO766 HO771 HO776 BK761 BK778 HI782 HB h0_ h1_ h2_ h3_ h4_ h5_ h6_ h7_ h8_ h9_ h10_
   rename_i HO766 HO771 HO776 HO785 HO790 HO793 HO796 BK761 BK778 HI782 HB
   have hHeld : w23.cell? ⟨gb778, 0, none⟩ = some (.int .i64 t762) ∧ w23.cell? ⟨gb778, 1, none⟩ = some (.int .i64 t763) ∧ w23.cell? ⟨gb778, 2, none⟩ = some (.slice Ao13 t764.length co13) ∧ w23.cell? ⟨gb778, 3, none⟩ = some (.int .i64 t767) ∧ w23.cell? ⟨gb778, 4, none⟩ = some (.int .i64 t768) ∧ w23.cell? ⟨gb778, 5, none⟩ = some (.slice Ao14 t769.length co14) ∧ w23.cell? ⟨gb778, 6, none⟩ = some (.int .i64 t772) ∧ w23.cell? ⟨gb778, 7, none⟩ = some (.int .i64 t773) := hS_
   obtain ⟨Ao24, co24, eo24⟩ := Kd.R_slice HO796.o
   (first | subst eo24 | (injection eo24 with f1_ f2_ f3_; have f4_ := f1_.symm; have f5_ := f3_.symm; clear f1_ f2_ f3_; subst f4_; subst f5_))
   refine norm_ (a' := ?_) ?_ ?_
   rotate_left
   ·simp only [putAll, Act.put, sA, sZ, sS]
    rfl
   refine one_ (i := 10) (N := some 27) b17A11 rfl rfl (one_of HT_.o (by kernel_rfl)) (by decide) (fun K hK => ?_)
   refine goes_ Try.func13 (by kernel_rfl) rfl #[.slice Ao24 t794.length co24, .int .i64 t777] (by rfl) rfl rfl M0 ?_
   with_reducible refine (spec_HintsOf.calls k _ _ t794 t777 t799 _ ?side1 ?side2 A7.o).mono ?_
   (case side1 => exact Kd.qC (Kd.R_reads' HO796.o).2.2)
   (case side2 => exact (Kd.R_reads' HO796.o).2.1)
   rintro e w25 ⟨v800, rfl, ho0, hb⟩
   refine ⟨_, rfl, ?_⟩
   have _ := zK (Kd.R_elder' (Kd.qR HO766.o) (Kd.R_base ho0) hb)
   have _ := zK (Kd.R_elder' (Kd.qR HO771.o) (Kd.R_base ho0) hb)
   have _ := zK (Kd.R_elder' (Kd.qR HO776.o) (Kd.R_base ho0) hb)
   have _ := zK (Kd.R_below (Kd.qR HO785.o) hb)
   have _ := zK (Kd.R_elder' (Kd.qR HO790.o) (Kd.R_base ho0) hb)
   have _ := zK (Kd.R_elder' (Kd.qR HO793.o) (Kd.R_base ho0) hb)
   have _ := zK (Kd.R_below (Kd.qR HO796.o) hb)
   have _ := zK (Kd.R_lower (Kd.R_new' (Kd.R_new' (Kd.R_new' (Kd.R_new' (Kd.R_new' (Kd.R_newM (M := fun k_ => (w.heap.size ≤ k_)) ho0 (bZ M2) (fun k_ h_ => h_)) (Kd.R_lt (Kd.qR HO766.o))) (Kd.R_lt (Kd.qR HO771.o))) (Kd.R_lt (Kd.qR HO776.o))) (Kd.R_lt (Kd.qR HO790.o))) (Kd.R_lt (Kd.qR HO793.o))) (bZ M2))
   have _ := zK (bB (qK BK761.o) hb)
   have _ := zK (bB (qK BK778.o) hb)
   have _ := zK (IsS173.below M5 hb)
   have _ := zK (bT M2 hb)
   clear HO766 HO771 HO776 HO785 HO790 HO793 HO796 BK761 BK778 HI782 HB
   rename_i HO766 HO771 HO776 HO785 HO790 HO793 HO796 HO801 BK761 BK778 HI782 HB
   (try clear hb)
   (try clear hb2)
   (try clear hk)
   (try clear hi)
   (try clear ho0)
   refine hK.out _ _ (b8 BK778.o) (fun hHeld => ?_)
   clear hK K
   refine norm_ (a' := ?_) ?_ ?_
   rotate_left
   ·show Act.put _ (some 27) _ = _
    simp only [Act.put, sA, sZ, sS, i64_w, i32_w]
    rfl
   exact norm_ M32 (hJ2_4_6_8_10 (v784, v789, v792, .slice Ao24 t794.length co24, v800) _ ⟨hHeld, M25, M26, M34, (Kd.qR HO785.o), M46, M47, (Kd.qR HO796.o), M73, (qK BK761.o), (qK BK778.o), M5, M2⟩)
  intro hJ2_4_6_8
  refine join_ (σ := Value × Value × Value × Value) 5 b17A14 (fun s_ => [(19, s_.1), (21, s_.2.1), (25, s_.2.2.1), (27, s_.2.2.2)]) (fun s_ w' => (w'.cell? ⟨gb778, 0, none⟩ = some (.int .i64 t762) ∧ w'.cell? ⟨gb778, 1, none⟩ = some (.int .i64 t763) ∧ w'.cell? ⟨gb778, 2, none⟩ = some (.slice Ao13 t764.length co13) ∧ w'.cell? ⟨gb778, 3, none⟩ = some (.int .i64 t767) ∧ w'.cell? ⟨gb778, 4, none⟩ = some (.int .i64 t768) ∧ w'.cell? ⟨gb778, 5, none⟩ = some (.slice Ao14 t769.length co14) ∧ w'.cell? ⟨gb778, 6, none⟩ = some (.int .i64 t772) ∧ w'.cell? ⟨gb778, 7, none⟩ = some (.int .i64 t773)) ∧ (Kd.R (Kd.int .i64) 3 w' w.heap.size (fun k_ => (w.heap.size ≤ k_) ∧ some k_ ≠ (.slice Ao14 t769.length co14 : Value).ownBlock ∧ some k_ ≠ (v775 : Value).ownBlock ∧ some k_ ≠ (s_.2.1 : Value).ownBlock ∧ some k_ ≠ (s_.2.2.2 : Value).ownBlock) (.slice Ao13 t764.length co13) t764) ∧ (Kd.R (Kd.int .i64) 3 w' w.heap.size (fun k_ => (w.heap.size ≤ k_) ∧ some k_ ≠ (.slice Ao13 t764.length co13 : Value).ownBlock ∧ some k_ ≠ (v775 : Value).ownBlock ∧ some k_ ≠ (s_.2.1 : Value).ownBlock ∧ some k_ ≠ (s_.2.2.2 : Value).ownBlock) (.slice Ao14 t769.length co14) t769) ∧ (Kd.R (Kd.int .i64) 3 w' w.heap.size (fun k_ => (w.heap.size ≤ k_) ∧ some k_ ≠ (.slice Ao13 t764.length co13 : Value).ownBlock ∧ some k_ ≠ (.slice Ao14 t769.length co14 : Value).ownBlock ∧ some k_ ≠ (s_.2.1 : Value).ownBlock ∧ some k_ ≠ (s_.2.2.2 : Value).ownBlock) v775 t774) ∧ (Kd.R k113 113 w' w.heap.size (fun k_ => (w.heap.size ≤ k_) ∧ some k_ ≠ (s_.2.2.1 : Value).ownBlock) s_.1 t783) ∧ (Kd.R (Kd.int .i64) 3 w' w.heap.size (fun k_ => (w.heap.size ≤ k_) ∧ some k_ ≠ (.slice Ao13 t764.length co13 : Value).ownBlock ∧ some k_ ≠ (.slice Ao14 t769.length co14 : Value).ownBlock ∧ some k_ ≠ (v775 : Value).ownBlock ∧ some k_ ≠ (s_.2.2.2 : Value).ownBlock) s_.2.1 t788) ∧ (Kd.R k113 113 w' w.heap.size (fun k_ => (w.heap.size ≤ k_) ∧ some k_ ≠ (s_.1 : Value).ownBlock) s_.2.2.1 t794) ∧ (Kd.R (Kd.int .i64) 3 w' w.heap.size (fun k_ => (w.heap.size ≤ k_) ∧ some k_ ≠ (.slice Ao13 t764.length co13 : Value).ownBlock ∧ some k_ ≠ (.slice Ao14 t769.length co14 : Value).ownBlock ∧ some k_ ≠ (v775 : Value).ownBlock ∧ some k_ ≠ (s_.2.1 : Value).ownBlock) s_.2.2.2 t799) ∧ (w'.heap[gb761]? = some (.cells #[.int .i64 0, .int .i64 0, .slice none 0 0, .int .i64 0, .int .i64 0, .slice none 0 0, .int .i64 0, .int .i64 0] 41 (0, 0))) ∧ (w'.heap[gb778]? = some (.cells #[.int .i64 t762, .int .i64 t763, .slice Ao13 t764.length co13, .int .i64 t767, .int .i64 t768, .slice Ao14 t769.length co14, .int .i64 t772, .int .i64 t773] 41 (0, 0))) ∧ (IsS173 w w' g782 t779 t797 t798) ∧ (Below w.heap.size w w')) ?_ ?_
  rotate_left
  rotate_left
  ·skip
   rintro ⟨v784, v789, v795, v800⟩ w23 ⟨hS_, h0_, h1_, h2_, h3_, h4_, h5_, h6_, h7_, h8_, h9_, h10_⟩
   have _ : Aside0 (Kd.R (Kd.int .i64) 3 w23 w.heap.size (fun k_ => (w.heap.size ≤ k_) ∧ some k_ ≠ (.slice Ao14 t769.length co14 : Value).ownBlock ∧ some k_ ≠ (v775 : Value).ownBlock ∧ some k_ ≠ (v789 : Value).ownBlock ∧ some k_ ≠ (v800 : Value).ownBlock) (.slice Ao13 t764.length co13) t764) := ⟨h0_⟩
   have _ : Aside0 (Kd.R (Kd.int .i64) 3 w23 w.heap.size (fun k_ => (w.heap.size ≤ k_) ∧ some k_ ≠ (.slice Ao13 t764.length co13 : Value).ownBlock ∧ some k_ ≠ (v775 : Value).ownBlock ∧ some k_ ≠ (v789 : Value).ownBlock ∧ some k_ ≠ (v800 : Value).ownBlock) (.slice Ao14 t769.length co14) t769) := ⟨h1_⟩
   have _ : Aside0 (Kd.R (Kd.int .i64) 3 w23 w.heap.size (fun k_ => (w.heap.size ≤ k_) ∧ some k_ ≠ (.slice Ao13 t764.length co13 : Value).ownBlock ∧ some k_ ≠ (.slice Ao14 t769.length co14 : Value).ownBlock ∧ some k_ ≠ (v789 : Value).ownBlock ∧ some k_ ≠ (v800 : Value).ownBlock) v775 t774) := ⟨h2_⟩
   have _ : Aside0 (Kd.R k113 113 w23 w.heap.size (fun k_ => (w.heap.size ≤ k_) ∧ some k_ ≠ (v795 : Value).ownBlock) v784 t783) := ⟨h3_⟩
   have _ : Aside0 (Kd.R (Kd.int .i64) 3 w23 w.heap.size (fun k_ => (w.heap.size ≤ k_) ∧ some k_ ≠ (.slice Ao13 t764.length co13 : Value).ownBlock ∧ some k_ ≠ (.slice Ao14 t769.length co14 : Value).ownBlock ∧ some k_ ≠ (v775 : Value).ownBlock ∧ some k_ ≠ (v800 : Value).ownBlock) v789 t788) := ⟨h4_⟩
   have _ : Aside0 (Kd.R k113 113 w23 w.heap.size (fun k_ => (w.heap.size ≤ k_) ∧ some k_ ≠ (v784 : Value).ownBlock) v795 t794) := ⟨h5_⟩
   have _ : Aside0 (Kd.R (Kd.int .i64) 3 w23 w.heap.size (fun k_ => (w.heap.size ≤ k_) ∧ some k_ ≠ (.slice Ao13 t764.length co13 : Value).ownBlock ∧ some k_ ≠ (.slice Ao14 t769.length co14 : Value).ownBlock ∧ some k_ ≠ (v775 : Value).ownBlock ∧ some k_ ≠ (v789 : Value).ownBlock) v800 t799) := ⟨h6_⟩
   have _ : Aside0 (w23.heap[gb761]? = some (.cells #[.int .i64 0, .int .i64 0, .slice none 0 0, .int .i64 0, .int .i64 0, .slice none 0 0, .int .i64 0, .int .i64 0] 41 (0, 0))) := ⟨h7_⟩
   have _ : Aside0 (w23.heap[gb778]? = some (.cells #[.int .i64 t762, .int .i64 t763, .slice Ao13 t764.length co13, .int .i64 t767, .int .i64 t768, .slice Ao14 t769.length co14, .int .i64 t772, .int .i64 t773] 41 (0, 0))) := ⟨h8_⟩
   have _ : Aside0 (IsS173 w w23 g782 t779 t797 t798) := ⟨h9_⟩
   have _ : Aside0 (Below w.heap.size w w23) := ⟨h10_⟩
   clear HO766 HO771 HO776 BK761 BK778 HI782 HB h0_ h1_ h2_ h3_ h4_ h5_ h6_ h7_ h8_ h9_ h10_
   rename_i HO766 HO771 HO776 HO785 HO790 HO796 HO801 BK761 BK778 HI782 HB
   have hHeld : w23.cell? ⟨gb778, 0, none⟩ = some (.int .i64 t762) ∧ w23.cell? ⟨gb778, 1, none⟩ = some (.int .i64 t763) ∧ w23.cell? ⟨gb778, 2, none⟩ = some (.slice Ao13 t764.length co13) ∧ w23.cell? ⟨gb778, 3, none⟩ = some (.int .i64 t767) ∧ w23.cell? ⟨gb778, 4, none⟩ = some (.int .i64 t768) ∧ w23.cell? ⟨gb778, 5, none⟩ = some (.slice Ao14 t769.length co14) ∧ w23.cell? ⟨gb778, 6, none⟩ = some (.int .i64 t772) ∧ w23.cell? ⟨gb778, 7, none⟩ = some (.int .i64 t773) := hS_
   refine norm_ (a' := ?_) ?_ ?_
   rotate_left
   ·simp only [putAll, Act.put, sA, sZ, sS]
    rfl
   refine two_ (i := 6) (j := 13) (Ni := some 23) (Nj := none) b17A11 b17A12 rfl rfl rfl rfl (two_of HT_.o (by kernel_rfl)) (by decide) (by decide) (fun K hK => ?_) (fun K hK => ?_)
   ·skip
    refine Kd.R_lit_step (Kd.int .i64) _ 3 ?hg (N := 23) ?hd (xs := ([] : List Int)) (inner := []) (ok := fun _ => True) (okp := fun _ => True) ?hr ?hp (fun _ hk => hk) trivial (Below.refl _ _) (Nat.le_refl _) (by simp) ?_; (case hd => rfl); (case hg => rfl); (case hr => first | (go_simp; done) | (go_simp; rfl)); (case hp => exact (Reps.none _ _))
    intro v792 w24 ho25 hb hg_ hnew_
    clear hg_ hnew_
    (first | rw [← Ny791.o] at ho25 | (simp only [Int.reduceToNat] at ho25; rw [← Ny791.o] at ho25))
    have _ := zK (Kd.R_elder' (Kd.qR HO766.o) (Kd.R_base ho25) hb)
    have _ := zK (Kd.R_elder' (Kd.qR HO771.o) (Kd.R_base ho25) hb)
    have _ := zK (Kd.R_elder' (Kd.qR HO776.o) (Kd.R_base ho25) hb)
    have _ := zK (Kd.R_below (Kd.qR HO785.o) hb)
    have _ := zK (Kd.R_elder' (Kd.qR HO790.o) (Kd.R_base ho25) hb)
    have _ := zK (Kd.R_below (Kd.qR HO796.o) hb)
    have _ := zK (Kd.R_elder' (Kd.qR HO801.o) (Kd.R_base ho25) hb)
    have _ := zK (Kd.R_lower (Kd.R_new' (Kd.R_new' (Kd.R_new' (Kd.R_new' (Kd.R_new' (Kd.R_newM (M := fun k_ => (w.heap.size ≤ k_)) ho25 (bZ M2) (fun k_ h_ => h_)) (Kd.R_lt (Kd.qR HO766.o))) (Kd.R_lt (Kd.qR HO771.o))) (Kd.R_lt (Kd.qR HO776.o))) (Kd.R_lt (Kd.qR HO790.o))) (Kd.R_lt (Kd.qR HO801.o))) (bZ M2))
    have _ := zK (bB (qK BK761.o) hb)
    have _ := zK (bB (qK BK778.o) hb)
    have _ := zK (IsS173.below M5 hb)
    have _ := zK (bT M2 hb)
    clear HO766 HO771 HO776 HO785 HO790 HO796 HO801 BK761 BK778 HI782 HB
    rename_i HO766 HO771 HO776 HO785 HO790 HO796 HO801 HO793 BK761 BK778 HI782 HB
    clear hb ho25
    refine hK.out _ _ (b8 BK778.o) (fun hHeld => ?_)
    clear hK K
    refine norm_ (a' := ?_) ?_ ?_
    rotate_left
    ·show Act.put _ (some 23) _ = _
     simp only [Act.put, sA, sZ, sS, i64_w, i32_w]
     rfl
    exact norm_ M32 (hJ2_4_6_8_10 (v784, v789, v792, v795, v800) _ ⟨hHeld, M25, M26, M34, (Kd.qR HO785.o), M46, M47, (Kd.qR HO796.o), M73, (qK BK761.o), (qK BK778.o), M5, M2⟩)
   skip
   have hs24 : w23.cell? ⟨gb761, 0, none⟩ = some (.int .i64 0) := (bc BK761.o 0).trans rfl
   have hfs24 := bf BK761.o 0
   have hns24_1 := NB778_761.o
   have hms24_1 := NB761_778.o
   have hs25 : w23.cell? ⟨gb761, 1, none⟩ = some (.int .i64 0) := (bc BK761.o 1).trans rfl
   have hfs25 := bf BK761.o 1
   have hns25_1 := NB778_761.o
   have hms25_1 := NB761_778.o
   have hs26 : w23.cell? ⟨gb761, 2, none⟩ = some (.slice none 0 0) := (bc BK761.o 2).trans rfl
   have hfs26 := bf BK761.o 2
   have hns26_1 := NB778_761.o
   have hms26_1 := NB761_778.o
   have hs27 : w23.cell? ⟨gb761, 3, none⟩ = some (.int .i64 0) := (bc BK761.o 3).trans rfl
   have hfs27 := bf BK761.o 3
   have hns27_1 := NB778_761.o
   have hms27_1 := NB761_778.o
   have hs28 : w23.cell? ⟨gb761, 4, none⟩ = some (.int .i64 0) := (bc BK761.o 4).trans rfl
   have hfs28 := bf BK761.o 4
   have hns28_1 := NB778_761.o
   have hms28_1 := NB761_778.o
   have hs29 : w23.cell? ⟨gb761, 5, none⟩ = some (.slice none 0 0) := (bc BK761.o 5).trans rfl
   have hfs29 := bf BK761.o 5
   have hns29_1 := NB778_761.o
   have hms29_1 := NB761_778.o
   have hs30 : w23.cell? ⟨gb761, 6, none⟩ = some (.int .i64 0) := (bc BK761.o 6).trans rfl
   have hfs30 := bf BK761.o 6
   have hns30_1 := NB778_761.o
   have hms30_1 := NB761_778.o
   have hs31 : w23.cell? ⟨gb761, 7, none⟩ = some (.int .i64 0) := (bc BK761.o 7).trans rfl
   have hfs31 := bf BK761.o 7
   have hns31_1 := NB778_761.o
   have hms31_1 := NB761_778.o
   refine skip_ (w1 := ?_) (by rfl) rfl ?_ ?_
   rotate_left
   ·go_simp
    rfl
   refine hK.out _ _ ⟨((cell_far (p := ⟨gb761, _, none⟩) NB778_761.o _).trans (((cell_far (p := ⟨gb761, _, none⟩) NB778_761.o _).trans (((cell_far (p := ⟨gb761, _, none⟩) NB778_761.o _).trans (((cell_far (p := ⟨gb761, _, none⟩) NB778_761.o _).trans (((cell_far (p := ⟨gb761, _, none⟩) NB778_761.o _).trans (((cell_far (p := ⟨gb761, _, none⟩) NB778_761.o _).trans (((cell_far (p := ⟨gb761, _, none⟩) NB778_761.o _).trans (((cell_far (p := ⟨gb761, _, none⟩) NB778_761.o _).trans (hHeld.1)))))))))))))))), ((cell_far (p := ⟨gb761, _, none⟩) NB778_761.o _).trans (((cell_far (p := ⟨gb761, _, none⟩) NB778_761.o _).trans (((cell_far (p := ⟨gb761, _, none⟩) NB778_761.o _).trans (((cell_far (p := ⟨gb761, _, none⟩) NB778_761.o _).trans (((cell_far (p := ⟨gb761, _, none⟩) NB778_761.o _).trans (((cell_far (p := ⟨gb761, _, none⟩) NB778_761.o _).trans (((cell_far (p := ⟨gb761, _, none⟩) NB778_761.o _).trans (((cell_far (p := ⟨gb761, _, none⟩) NB778_761.o _).trans (hHeld.2.1)))))))))))))))), ((cell_far (p := ⟨gb761, _, none⟩) NB778_761.o _).trans (((cell_far (p := ⟨gb761, _, none⟩) NB778_761.o _).trans (((cell_far (p := ⟨gb761, _, none⟩) NB778_761.o _).trans (((cell_far (p := ⟨gb761, _, none⟩) NB778_761.o _).trans (((cell_far (p := ⟨gb761, _, none⟩) NB778_761.o _).trans (((cell_far (p := ⟨gb761, _, none⟩) NB778_761.o _).trans (((cell_far (p := ⟨gb761, _, none⟩) NB778_761.o _).trans (((cell_far (p := ⟨gb761, _, none⟩) NB778_761.o _).trans (hHeld.2.2.1)))))))))))))))), ((cell_far (p := ⟨gb761, _, none⟩) NB778_761.o _).trans (((cell_far (p := ⟨gb761, _, none⟩) NB778_761.o _).trans (((cell_far (p := ⟨gb761, _, none⟩) NB778_761.o _).trans (((cell_far (p := ⟨gb761, _, none⟩) NB778_761.o _).trans (((cell_far (p := ⟨gb761, _, none⟩) NB778_761.o _).trans (((cell_far (p := ⟨gb761, _, none⟩) NB778_761.o _).trans (((cell_far (p := ⟨gb761, _, none⟩) NB778_761.o _).trans (((cell_far (p := ⟨gb761, _, none⟩) NB778_761.o _).trans (hHeld.2.2.2.1)))))))))))))))), ((cell_far (p := ⟨gb761, _, none⟩) NB778_761.o _).trans (((cell_far (p := ⟨gb761, _, none⟩) NB778_761.o _).trans (((cell_far (p := ⟨gb761, _, none⟩) NB778_761.o _).trans (((cell_far (p := ⟨gb761, _, none⟩) NB778_761.o _).trans (((cell_far (p := ⟨gb761, _, none⟩) NB778_761.o _).trans (((cell_far (p := ⟨gb761, _, none⟩) NB778_761.o _).trans (((cell_far (p := ⟨gb761, _, none⟩) NB778_761.o _).trans (((cell_far (p := ⟨gb761, _, none⟩) NB778_761.o _).trans ((d4 hHeld).1)))))))))))))))), ((cell_far (p := ⟨gb761, _, none⟩) NB778_761.o _).trans (((cell_far (p := ⟨gb761, _, none⟩) NB778_761.o _).trans (((cell_far (p := ⟨gb761, _, none⟩) NB778_761.o _).trans (((cell_far (p := ⟨gb761, _, none⟩) NB778_761.o _).trans (((cell_far (p := ⟨gb761, _, none⟩) NB778_761.o _).trans (((cell_far (p := ⟨gb761, _, none⟩) NB778_761.o _).trans (((cell_far (p := ⟨gb761, _, none⟩) NB778_761.o _).trans (((cell_far (p := ⟨gb761, _, none⟩) NB778_761.o _).trans ((d4 hHeld).2.1)))))))))))))))), ((cell_far (p := ⟨gb761, _, none⟩) NB778_761.o _).trans (((cell_far (p := ⟨gb761, _, none⟩) NB778_761.o _).trans (((cell_far (p := ⟨gb761, _, none⟩) NB778_761.o _).trans (((cell_far (p := ⟨gb761, _, none⟩) NB778_761.o _).trans (((cell_far (p := ⟨gb761, _, none⟩) NB778_761.o _).trans (((cell_far (p := ⟨gb761, _, none⟩) NB778_761.o _).trans (((cell_far (p := ⟨gb761, _, none⟩) NB778_761.o _).trans (((cell_far (p := ⟨gb761, _, none⟩) NB778_761.o _).trans ((d4 hHeld).2.2.1)))))))))))))))), ((cell_far (p := ⟨gb761, _, none⟩) NB778_761.o _).trans (((cell_far (p := ⟨gb761, _, none⟩) NB778_761.o _).trans (((cell_far (p := ⟨gb761, _, none⟩) NB778_761.o _).trans (((cell_far (p := ⟨gb761, _, none⟩) NB778_761.o _).trans (((cell_far (p := ⟨gb761, _, none⟩) NB778_761.o _).trans (((cell_far (p := ⟨gb761, _, none⟩) NB778_761.o _).trans (((cell_far (p := ⟨gb761, _, none⟩) NB778_761.o _).trans (((cell_far (p := ⟨gb761, _, none⟩) NB778_761.o _).trans ((d4 hHeld).2.2.2))))))))))))))))⟩ (fun hHeld => ?_)
   clear hK K
   exact norm_ M32 (hJ2_4_8_10_13 (v784, v789, v795, v800) _ ⟨hHeld, M20, M21, M39, M22, M40, M23, M41, (qP BK761.o), (qP BK778.o), M5, M2⟩)
  intro hJ2_4_8_10
  refine join_ (σ := Value × Value × Value) 6 b17A15 (fun s_ => [(19, s_.1), (21, s_.2.1), (23, s_.2.2)]) (fun s_ w' => (w'.cell? ⟨gb778, 0, none⟩ = some (.int .i64 t762) ∧ w'.cell? ⟨gb778, 1, none⟩ = some (.int .i64 t763) ∧ w'.cell? ⟨gb778, 2, none⟩ = some (.slice Ao13 t764.length co13) ∧ w'.cell? ⟨gb778, 3, none⟩ = some (.int .i64 t767) ∧ w'.cell? ⟨gb778, 4, none⟩ = some (.int .i64 t768) ∧ w'.cell? ⟨gb778, 5, none⟩ = some (.slice Ao14 t769.length co14) ∧ w'.cell? ⟨gb778, 6, none⟩ = some (.int .i64 t772) ∧ w'.cell? ⟨gb778, 7, none⟩ = some (.int .i64 t773)) ∧ (Kd.R (Kd.int .i64) 3 w' w.heap.size (fun k_ => (w.heap.size ≤ k_) ∧ some k_ ≠ (.slice Ao14 t769.length co14 : Value).ownBlock ∧ some k_ ≠ (v775 : Value).ownBlock ∧ some k_ ≠ (s_.2.1 : Value).ownBlock ∧ some k_ ≠ (s_.2.2 : Value).ownBlock) (.slice Ao13 t764.length co13) t764) ∧ (Kd.R (Kd.int .i64) 3 w' w.heap.size (fun k_ => (w.heap.size ≤ k_) ∧ some k_ ≠ (.slice Ao13 t764.length co13 : Value).ownBlock ∧ some k_ ≠ (v775 : Value).ownBlock ∧ some k_ ≠ (s_.2.1 : Value).ownBlock ∧ some k_ ≠ (s_.2.2 : Value).ownBlock) (.slice Ao14 t769.length co14) t769) ∧ (Kd.R (Kd.int .i64) 3 w' w.heap.size (fun k_ => (w.heap.size ≤ k_) ∧ some k_ ≠ (.slice Ao13 t764.length co13 : Value).ownBlock ∧ some k_ ≠ (.slice Ao14 t769.length co14 : Value).ownBlock ∧ some k_ ≠ (s_.2.1 : Value).ownBlock ∧ some k_ ≠ (s_.2.2 : Value).ownBlock) v775 t774) ∧ (Kd.R k113 113 w' w.heap.size (fun k_ => (w.heap.size ≤ k_)) s_.1 t783) ∧ (Kd.R (Kd.int .i64) 3 w' w.heap.size (fun k_ => (w.heap.size ≤ k_) ∧ some k_ ≠ (.slice Ao13 t764.length co13 : Value).ownBlock ∧ some k_ ≠ (.slice Ao14 t769.length co14 : Value).ownBlock ∧ some k_ ≠ (v775 : Value).ownBlock ∧ some k_ ≠ (s_.2.2 : Value).ownBlock) s_.2.1 t788) ∧ (Kd.R (Kd.int .i64) 3 w' w.heap.size (fun k_ => (w.heap.size ≤ k_) ∧ some k_ ≠ (.slice Ao13 t764.length co13 : Value).ownBlock ∧ some k_ ≠ (.slice Ao14 t769.length co14 : Value).ownBlock ∧ some k_ ≠ (v775 : Value).ownBlock ∧ some k_ ≠ (s_.2.1 : Value).ownBlock) s_.2.2 y791) ∧ (w'.heap[gb761]? = some (.cells #[.int .i64 0, .int .i64 0, .slice none 0 0, .int .i64 0, .int .i64 0, .slice none 0 0, .int .i64 0, .int .i64 0] 41 (0, 0))) ∧ (w'.heap[gb778]? = some (.cells #[.int .i64 t762, .int .i64 t763, .slice Ao13 t764.length co13, .int .i64 t767, .int .i64 t768, .slice Ao14 t769.length co14, .int .i64 t772, .int .i64 t773] 41 (0, 0))) ∧ (IsS173 w w' g782 t779 t786 t787) ∧ (Below w.heap.size w w')) ?_ ?_
  rotate_left
  rotate_left
  ·skip
   rintro ⟨v784, v789, v792⟩ w22 ⟨hS_, h0_, h1_, h2_, h3_, h4_, h5_, h6_, h7_, h8_, h9_⟩
   have _ : Aside0 (Kd.R (Kd.int .i64) 3 w22 w.heap.size (fun k_ => (w.heap.size ≤ k_) ∧ some k_ ≠ (.slice Ao14 t769.length co14 : Value).ownBlock ∧ some k_ ≠ (v775 : Value).ownBlock ∧ some k_ ≠ (v789 : Value).ownBlock ∧ some k_ ≠ (v792 : Value).ownBlock) (.slice Ao13 t764.length co13) t764) := ⟨h0_⟩
   have _ : Aside0 (Kd.R (Kd.int .i64) 3 w22 w.heap.size (fun k_ => (w.heap.size ≤ k_) ∧ some k_ ≠ (.slice Ao13 t764.length co13 : Value).ownBlock ∧ some k_ ≠ (v775 : Value).ownBlock ∧ some k_ ≠ (v789 : Value).ownBlock ∧ some k_ ≠ (v792 : Value).ownBlock) (.slice Ao14 t769.length co14) t769) := ⟨h1_⟩
   have _ : Aside0 (Kd.R (Kd.int .i64) 3 w22 w.heap.size (fun k_ => (w.heap.size ≤ k_) ∧ some k_ ≠ (.slice Ao13 t764.length co13 : Value).ownBlock ∧ some k_ ≠ (.slice Ao14 t769.length co14 : Value).ownBlock ∧ some k_ ≠ (v789 : Value).ownBlock ∧ some k_ ≠ (v792 : Value).ownBlock) v775 t774) := ⟨h2_⟩
   have _ : Aside0 (Kd.R k113 113 w22 w.heap.size (fun k_ => (w.heap.size ≤ k_)) v784 t783) := ⟨h3_⟩
   have _ : Aside0 (Kd.R (Kd.int .i64) 3 w22 w.heap.size (fun k_ => (w.heap.size ≤ k_) ∧ some k_ ≠ (.slice Ao13 t764.length co13 : Value).ownBlock ∧ some k_ ≠ (.slice Ao14 t769.length co14 : Value).ownBlock ∧ some k_ ≠ (v775 : Value).ownBlock ∧ some k_ ≠ (v792 : Value).ownBlock) v789 t788) := ⟨h4_⟩
   have _ : Aside0 (Kd.R (Kd.int .i64) 3 w22 w.heap.size (fun k_ => (w.heap.size ≤ k_) ∧ some k_ ≠ (.slice Ao13 t764.length co13 : Value).ownBlock ∧ some k_ ≠ (.slice Ao14 t769.length co14 : Value).ownBlock ∧ some k_ ≠ (v775 : Value).ownBlock ∧ some k_ ≠ (v789 : Value).ownBlock) v792 y791) := ⟨h5_⟩
   have _ : Aside0 (w22.heap[gb761]? = some (.cells #[.int .i64 0, .int .i64 0, .slice none 0 0, .int .i64 0, .int .i64 0, .slice none 0 0, .int .i64 0, .int .i64 0] 41 (0, 0))) := ⟨h6_⟩
   have _ : Aside0 (w22.heap[gb778]? = some (.cells #[.int .i64 t762, .int .i64 t763, .slice Ao13 t764.length co13, .int .i64 t767, .int .i64 t768, .slice Ao14 t769.length co14, .int .i64 t772, .int .i64 t773] 41 (0, 0))) := ⟨h7_⟩
   have _ : Aside0 (IsS173 w w22 g782 t779 t786 t787) := ⟨h8_⟩
   have _ : Aside0 (Below w.heap.size w w22) := ⟨h9_⟩
   clear HO766 HO771 HO776 BK761 BK778 HI782 HB h0_ h1_ h2_ h3_ h4_ h5_ h6_ h7_ h8_ h9_
   rename_i HO766 HO771 HO776 HO785 HO790 HO793 BK761 BK778 HI782 HB
   have hHeld : w22.cell? ⟨gb778, 0, none⟩ = some (.int .i64 t762) ∧ w22.cell? ⟨gb778, 1, none⟩ = some (.int .i64 t763) ∧ w22.cell? ⟨gb778, 2, none⟩ = some (.slice Ao13 t764.length co13) ∧ w22.cell? ⟨gb778, 3, none⟩ = some (.int .i64 t767) ∧ w22.cell? ⟨gb778, 4, none⟩ = some (.int .i64 t768) ∧ w22.cell? ⟨gb778, 5, none⟩ = some (.slice Ao14 t769.length co14) ∧ w22.cell? ⟨gb778, 6, none⟩ = some (.int .i64 t772) ∧ w22.cell? ⟨gb778, 7, none⟩ = some (.int .i64 t773) := hS_
   refine norm_ (a' := ?_) ?_ ?_
   rotate_left
   ·simp only [putAll, Act.put, sA, sZ, sS]
    rfl
   refine one_ (i := 8) (N := some 25) b17A13 rfl rfl (one_of HT_.o (by kernel_rfl)) (by decide) (fun K hK => ?_)
   refine goes_ Try.func133 (by kernel_rfl) rfl #[.pointer (some ⟨g782, 0, none⟩)] (by rfl) rfl rfl M0 ?_
   with_reducible refine (spec_l6List.calls k g782 t779 t786 t787 t794 t797 t798 w _ ?side1 ?side2 A6.o).mono ?_
   (case side1 => exact Q3)
   (case side2 => exact M2)
   rintro e w23 ⟨v795, rfl, ho0, hi, hb, hk⟩
   refine ⟨_, rfl, ?_⟩
   have _ := zK (kB hk BK761.o NB761_782.o)
   have _ := zK (IsS173.rK (show IsS173 w _ g782 t779 t786 t787 from Q3) HO766.o hk)
   have _ := zK (IsS173.rK (show IsS173 w _ g782 t779 t786 t787 from Q3) HO771.o hk)
   have _ := zK (IsS173.rK (show IsS173 w _ g782 t779 t786 t787 from Q3) HO776.o hk)
   have _ := zK (kB hk BK778.o NB778_782.o)
   have _ := zK (Kd.R_mono (Kd.R_told (Kd.R_oldK (IsS173.apart (show IsS173 w _ g782 t779 t786 t787 from Q3) (Kd.qR HO785.o) (by decide)) hk) (Kd.R_base ho0)) (fun _ h_ => h_.1))
   have _ := zK (IsS173.rK (show IsS173 w _ g782 t779 t786 t787 from Q3) HO790.o hk)
   have _ := zK (IsS173.rK (show IsS173 w _ g782 t779 t786 t787 from Q3) HO793.o hk)
   have _ := zK (Kd.R_lower (Kd.R_new' (Kd.R_newM (M := fun k_ => (w.heap.size ≤ k_)) ho0 (bZ M2) (fun k_ h_ => h_)) (Kd.R_lt (Kd.qR HO785.o))) (bZ M2))
   have _ := zK (hb)
   have _ := zK (hi)
   clear BK761 HO766 HO771 HO776 BK778 HO785 HO790 HO793 HB HI782
   rename_i BK761 HO766 HO771 HO776 BK778 HO785 HO790 HO793 HO796 HB HI782
   (try clear hb)
   (try clear hb2)
   (try clear hk)
   (try clear hi)
   (try clear ho0)
   refine hK.out _ _ (b8 BK778.o) (fun hHeld => ?_)
   clear hK K
   refine norm_ (a' := ?_) ?_ ?_
   rotate_left
   ·show Act.put _ (some 25) _ = _
    simp only [Act.put, sA, sZ, sS, i64_w, i32_w]
    rfl
   exact norm_ M32 (hJ2_4_6_8 (v784, v789, v792, v795) _ ⟨hHeld, (Kd.qR HO766.o), (Kd.qR HO771.o), (Kd.qR HO776.o), (Kd.qR HO785.o), (Kd.qR HO790.o), (Kd.qR HO793.o), (by (with_reducible repeat (first | apply Kd.RA | apply Kd.RN | apply Kd.RD)); exact Kd.R_mono HO796.o (fun _ hk => by (try dsimp only at hk); simp only [hk, ne_eq, not_false_eq_true, and_self])), (qK BK761.o), (qK BK778.o), M5, M2⟩)
  intro hJ2_4_6
  refine join_ (σ := Value × Value × Value) 6 b17A16 (fun s_ => [(19, s_.1), (21, s_.2.1), (25, s_.2.2)]) (fun s_ w' => (w'.cell? ⟨gb778, 0, none⟩ = some (.int .i64 t762) ∧ w'.cell? ⟨gb778, 1, none⟩ = some (.int .i64 t763) ∧ w'.cell? ⟨gb778, 2, none⟩ = some (.slice Ao13 t764.length co13) ∧ w'.cell? ⟨gb778, 3, none⟩ = some (.int .i64 t767) ∧ w'.cell? ⟨gb778, 4, none⟩ = some (.int .i64 t768) ∧ w'.cell? ⟨gb778, 5, none⟩ = some (.slice Ao14 t769.length co14) ∧ w'.cell? ⟨gb778, 6, none⟩ = some (.int .i64 t772) ∧ w'.cell? ⟨gb778, 7, none⟩ = some (.int .i64 t773)) ∧ (Kd.R (Kd.int .i64) 3 w' w.heap.size (fun k_ => (w.heap.size ≤ k_) ∧ some k_ ≠ (.slice Ao14 t769.length co14 : Value).ownBlock ∧ some k_ ≠ (v775 : Value).ownBlock ∧ some k_ ≠ (s_.2.1 : Value).ownBlock) (.slice Ao13 t764.length co13) t764) ∧ (Kd.R (Kd.int .i64) 3 w' w.heap.size (fun k_ => (w.heap.size ≤ k_) ∧ some k_ ≠ (.slice Ao13 t764.length co13 : Value).ownBlock ∧ some k_ ≠ (v775 : Value).ownBlock ∧ some k_ ≠ (s_.2.1 : Value).ownBlock) (.slice Ao14 t769.length co14) t769) ∧ (Kd.R (Kd.int .i64) 3 w' w.heap.size (fun k_ => (w.heap.size ≤ k_) ∧ some k_ ≠ (.slice Ao13 t764.length co13 : Value).ownBlock ∧ some k_ ≠ (.slice Ao14 t769.length co14 : Value).ownBlock ∧ some k_ ≠ (s_.2.1 : Value).ownBlock) v775 t774) ∧ (Kd.R k113 113 w' w.heap.size (fun k_ => (w.heap.size ≤ k_) ∧ some k_ ≠ (s_.2.2 : Value).ownBlock) s_.1 t783) ∧ (Kd.R (Kd.int .i64) 3 w' w.heap.size (fun k_ => (w.heap.size ≤ k_) ∧ some k_ ≠ (.slice Ao13 t764.length co13 : Value).ownBlock ∧ some k_ ≠ (.slice Ao14 t769.length co14 : Value).ownBlock ∧ some k_ ≠ (v775 : Value).ownBlock) s_.2.1 t788) ∧ (Kd.R k113 113 w' w.heap.size (fun k_ => (w.heap.size ≤ k_) ∧ some k_ ≠ (s_.1 : Value).ownBlock) s_.2.2 t794) ∧ (w'.heap[gb761]? = some (.cells #[.int .i64 0, .int .i64 0, .slice none 0 0, .int .i64 0, .int .i64 0, .slice none 0 0, .int .i64 0, .int .i64 0] 41 (0, 0))) ∧ (w'.heap[gb778]? = some (.cells #[.int .i64 t762, .int .i64 t763, .slice Ao13 t764.length co13, .int .i64 t767, .int .i64 t768, .slice Ao14 t769.length co14, .int .i64 t772, .int .i64 t773] 41 (0, 0))) ∧ (IsS173 w w' g782 t779 t797 t798) ∧ (Below w.heap.size w w')) ?_ ?_
  rotate_left
  rotate_left
  ·skip
   rintro ⟨v784, v789, v795⟩ w21 ⟨hS_, h0_, h1_, h2_, h3_, h4_, h5_, h6_, h7_, h8_, h9_⟩
   have _ : Aside0 (Kd.R (Kd.int .i64) 3 w21 w.heap.size (fun k_ => (w.heap.size ≤ k_) ∧ some k_ ≠ (.slice Ao14 t769.length co14 : Value).ownBlock ∧ some k_ ≠ (v775 : Value).ownBlock ∧ some k_ ≠ (v789 : Value).ownBlock) (.slice Ao13 t764.length co13) t764) := ⟨h0_⟩
   have _ : Aside0 (Kd.R (Kd.int .i64) 3 w21 w.heap.size (fun k_ => (w.heap.size ≤ k_) ∧ some k_ ≠ (.slice Ao13 t764.length co13 : Value).ownBlock ∧ some k_ ≠ (v775 : Value).ownBlock ∧ some k_ ≠ (v789 : Value).ownBlock) (.slice Ao14 t769.length co14) t769) := ⟨h1_⟩
   have _ : Aside0 (Kd.R (Kd.int .i64) 3 w21 w.heap.size (fun k_ => (w.heap.size ≤ k_) ∧ some k_ ≠ (.slice Ao13 t764.length co13 : Value).ownBlock ∧ some k_ ≠ (.slice Ao14 t769.length co14 : Value).ownBlock ∧ some k_ ≠ (v789 : Value).ownBlock) v775 t774) := ⟨h2_⟩
   have _ : Aside0 (Kd.R k113 113 w21 w.heap.size (fun k_ => (w.heap.size ≤ k_) ∧ some k_ ≠ (v795 : Value).ownBlock) v784 t783) := ⟨h3_⟩
   have _ : Aside0 (Kd.R (Kd.int .i64) 3 w21 w.heap.size (fun k_ => (w.heap.size ≤ k_) ∧ some k_ ≠ (.slice Ao13 t764.length co13 : Value).ownBlock ∧ some k_ ≠ (.slice Ao14 t769.length co14 : Value).ownBlock ∧ some k_ ≠ (v775 : Value).ownBlock) v789 t788) := ⟨h4_⟩
   have _ : Aside0 (Kd.R k113 113 w21 w.heap.size (fun k_ => (w.heap.size ≤ k_) ∧ some k_ ≠ (v784 : Value).ownBlock) v795 t794) := ⟨h5_⟩
   have _ : Aside0 (w21.heap[gb761]? = some (.cells #[.int .i64 0, .int .i64 0, .slice none 0 0, .int .i64 0, .int .i64 0, .slice none 0 0, .int .i64 0, .int .i64 0] 41 (0, 0))) := ⟨h6_⟩
   have _ : Aside0 (w21.heap[gb778]? = some (.cells #[.int .i64 t762, .int .i64 t763, .slice Ao13 t764.length co13, .int .i64 t767, .int .i64 t768, .slice Ao14 t769.length co14, .int .i64 t772, .int .i64 t773] 41 (0, 0))) := ⟨h7_⟩
   have _ : Aside0 (IsS173 w w21 g782 t779 t797 t798) := ⟨h8_⟩
   have _ : Aside0 (Below w.heap.size w w21) := ⟨h9_⟩
   clear HO766 HO771 HO776 BK761 BK778 HI782 HB h0_ h1_ h2_ h3_ h4_ h5_ h6_ h7_ h8_ h9_
   rename_i HO766 HO771 HO776 HO785 HO790 HO796 BK761 BK778 HI782 HB
   have hHeld : w21.cell? ⟨gb778, 0, none⟩ = some (.int .i64 t762) ∧ w21.cell? ⟨gb778, 1, none⟩ = some (.int .i64 t763) ∧ w21.cell? ⟨gb778, 2, none⟩ = some (.slice Ao13 t764.length co13) ∧ w21.cell? ⟨gb778, 3, none⟩ = some (.int .i64 t767) ∧ w21.cell? ⟨gb778, 4, none⟩ = some (.int .i64 t768) ∧ w21.cell? ⟨gb778, 5, none⟩ = some (.slice Ao14 t769.length co14) ∧ w21.cell? ⟨gb778, 6, none⟩ = some (.int .i64 t772) ∧ w21.cell? ⟨gb778, 7, none⟩ = some (.int .i64 t773) := hS_
   refine norm_ (a' := ?_) ?_ ?_
   rotate_left
   ·simp only [putAll, Act.put, sA, sZ, sS]
    rfl
   refine two_ (i := 6) (j := 10) (Ni := some 23) (Nj := some 27) b17A13 b17A14 rfl rfl rfl rfl (two_of HT_.o (by kernel_rfl)) (by decide) (by decide) (fun K hK => ?_) (fun K hK => ?_)
   ·skip
    refine Kd.R_lit_step (Kd.int .i64) _ 3 ?hg (N := 23) ?hd (xs := ([] : List Int)) (inner := []) (ok := fun _ => True) (okp := fun _ => True) ?hr ?hp (fun _ hk => hk) trivial (Below.refl _ _) (Nat.le_refl _) (by simp) ?_; (case hd => rfl); (case hg => rfl); (case hr => first | (go_simp; done) | (go_simp; rfl)); (case hp => exact (Reps.none _ _))
    intro v792 w22 ho23 hb hg_ hnew_
    clear hg_ hnew_
    (first | rw [← Ny791.o] at ho23 | (simp only [Int.reduceToNat] at ho23; rw [← Ny791.o] at ho23))
    have _ := zK (Kd.R_elder' (Kd.qR HO766.o) (Kd.R_base ho23) hb)
    have _ := zK (Kd.R_elder' (Kd.qR HO771.o) (Kd.R_base ho23) hb)
    have _ := zK (Kd.R_elder' (Kd.qR HO776.o) (Kd.R_base ho23) hb)
    have _ := zK (Kd.R_below (Kd.qR HO785.o) hb)
    have _ := zK (Kd.R_elder' (Kd.qR HO790.o) (Kd.R_base ho23) hb)
    have _ := zK (Kd.R_below (Kd.qR HO796.o) hb)
    have _ := zK (Kd.R_lower (Kd.R_new' (Kd.R_new' (Kd.R_new' (Kd.R_new' (Kd.R_newM (M := fun k_ => (w.heap.size ≤ k_)) ho23 (bZ M2) (fun k_ h_ => h_)) (Kd.R_lt (Kd.qR HO766.o))) (Kd.R_lt (Kd.qR HO771.o))) (Kd.R_lt (Kd.qR HO776.o))) (Kd.R_lt (Kd.qR HO790.o))) (bZ M2))
    have _ := zK (bB (qK BK761.o) hb)
    have _ := zK (bB (qK BK778.o) hb)
    have _ := zK (IsS173.below M5 hb)
    have _ := zK (bT M2 hb)
    clear HO766 HO771 HO776 HO785 HO790 HO796 BK761 BK778 HI782 HB
    rename_i HO766 HO771 HO776 HO785 HO790 HO796 HO793 BK761 BK778 HI782 HB
    clear hb ho23
    refine hK.out _ _ (b8 BK778.o) (fun hHeld => ?_)
    clear hK K
    refine norm_ (a' := ?_) ?_ ?_
    rotate_left
    ·show Act.put _ (some 23) _ = _
     simp only [Act.put, sA, sZ, sS, i64_w, i32_w]
     rfl
    exact norm_ M32 (hJ2_4_6_8 (v784, v789, v792, v795) _ ⟨hHeld, M25, M26, M34, (Kd.qR HO785.o), M46, M47, (Kd.qR HO796.o), (qK BK761.o), (qK BK778.o), M5, M2⟩)
   skip
   obtain ⟨Ao22, co22, eo22⟩ := Kd.R_slice (xs := t794) (Aside0.out (by assumption))
   subst eo22
   refine goes_ Try.func13 (by kernel_rfl) rfl #[.slice Ao22 t794.length co22, .int .i64 t777] (by rfl) rfl rfl M0 ?_
   with_reducible refine (spec_HintsOf.calls k _ _ t794 t777 t799 _ ?side1 ?side2 A7.o).mono ?_
   (case side1 => exact Kd.qC (Kd.R_reads' HO796.o).2.2)
   (case side2 => exact (Kd.R_reads' HO796.o).2.1)
   rintro e w23 ⟨v800, rfl, ho0, hb⟩
   refine ⟨_, rfl, ?_⟩
   have _ := zK (Kd.R_elder' (Kd.qR HO766.o) (Kd.R_base ho0) hb)
   have _ := zK (Kd.R_elder' (Kd.qR HO771.o) (Kd.R_base ho0) hb)
   have _ := zK (Kd.R_elder' (Kd.qR HO776.o) (Kd.R_base ho0) hb)
   have _ := zK (Kd.R_below (Kd.qR HO785.o) hb)
   have _ := zK (Kd.R_elder' (Kd.qR HO790.o) (Kd.R_base ho0) hb)
   have _ := zK (Kd.R_below (Kd.qR HO796.o) hb)
   have _ := zK (Kd.R_lower (Kd.R_new' (Kd.R_new' (Kd.R_new' (Kd.R_new' (Kd.R_newM (M := fun k_ => (w.heap.size ≤ k_)) ho0 (bZ M2) (fun k_ h_ => h_)) (Kd.R_lt (Kd.qR HO766.o))) (Kd.R_lt (Kd.qR HO771.o))) (Kd.R_lt (Kd.qR HO776.o))) (Kd.R_lt (Kd.qR HO790.o))) (bZ M2))
   have _ := zK (bB (qK BK761.o) hb)
   have _ := zK (bB (qK BK778.o) hb)
   have _ := zK (IsS173.below M5 hb)
   have _ := zK (bT M2 hb)
   clear HO766 HO771 HO776 HO785 HO790 HO796 BK761 BK778 HI782 HB
   rename_i HO766 HO771 HO776 HO785 HO790 HO796 HO801 BK761 BK778 HI782 HB
   (try clear hb)
   (try clear hb2)
   (try clear hk)
   (try clear hi)
   (try clear ho0)
   refine hK.out _ _ (b8 BK778.o) (fun hHeld => ?_)
   clear hK K
   refine norm_ (a' := ?_) ?_ ?_
   rotate_left
   ·show Act.put _ (some 27) _ = _
    simp only [Act.put, sA, sZ, sS, i64_w, i32_w]
    rfl
   exact norm_ M32 (hJ2_4_8_10 (v784, v789, .slice Ao22 t794.length co22, v800) _ ⟨hHeld, M25, M26, M34, (Kd.qR HO785.o), M46, (Kd.qR HO796.o), M73, (qK BK761.o), (qK BK778.o), M5, M2⟩)
  intro hJ2_4_8
  refine join_ (σ := Value × Value) 7 b17A17 (fun s_ => [(19, s_.1), (21, s_.2)]) (fun s_ w' => (w'.cell? ⟨gb778, 0, none⟩ = some (.int .i64 t762) ∧ w'.cell? ⟨gb778, 1, none⟩ = some (.int .i64 t763) ∧ w'.cell? ⟨gb778, 2, none⟩ = some (.slice Ao13 t764.length co13) ∧ w'.cell? ⟨gb778, 3, none⟩ = some (.int .i64 t767) ∧ w'.cell? ⟨gb778, 4, none⟩ = some (.int .i64 t768) ∧ w'.cell? ⟨gb778, 5, none⟩ = some (.slice Ao14 t769.length co14) ∧ w'.cell? ⟨gb778, 6, none⟩ = some (.int .i64 t772) ∧ w'.cell? ⟨gb778, 7, none⟩ = some (.int .i64 t773)) ∧ (Kd.R (Kd.int .i64) 3 w' w.heap.size (fun k_ => (w.heap.size ≤ k_) ∧ some k_ ≠ (.slice Ao14 t769.length co14 : Value).ownBlock ∧ some k_ ≠ (v775 : Value).ownBlock ∧ some k_ ≠ (s_.2 : Value).ownBlock) (.slice Ao13 t764.length co13) t764) ∧ (Kd.R (Kd.int .i64) 3 w' w.heap.size (fun k_ => (w.heap.size ≤ k_) ∧ some k_ ≠ (.slice Ao13 t764.length co13 : Value).ownBlock ∧ some k_ ≠ (v775 : Value).ownBlock ∧ some k_ ≠ (s_.2 : Value).ownBlock) (.slice Ao14 t769.length co14) t769) ∧ (Kd.R (Kd.int .i64) 3 w' w.heap.size (fun k_ => (w.heap.size ≤ k_) ∧ some k_ ≠ (.slice Ao13 t764.length co13 : Value).ownBlock ∧ some k_ ≠ (.slice Ao14 t769.length co14 : Value).ownBlock ∧ some k_ ≠ (s_.2 : Value).ownBlock) v775 t774) ∧ (Kd.R k113 113 w' w.heap.size (fun k_ => (w.heap.size ≤ k_)) s_.1 t783) ∧ (Kd.R (Kd.int .i64) 3 w' w.heap.size (fun k_ => (w.heap.size ≤ k_) ∧ some k_ ≠ (.slice Ao13 t764.length co13 : Value).ownBlock ∧ some k_ ≠ (.slice Ao14 t769.length co14 : Value).ownBlock ∧ some k_ ≠ (v775 : Value).ownBlock) s_.2 t788) ∧ (w'.heap[gb761]? = some (.cells #[.int .i64 0, .int .i64 0, .slice none 0 0, .int .i64 0, .int .i64 0, .slice none 0 0, .int .i64 0, .int .i64 0] 41 (0, 0))) ∧ (w'.heap[gb778]? = some (.cells #[.int .i64 t762, .int .i64 t763, .slice Ao13 t764.length co13, .int .i64 t767, .int .i64 t768, .slice Ao14 t769.length co14, .int .i64 t772, .int .i64 t773] 41 (0, 0))) ∧ (IsS173 w w' g782 t779 t786 t787) ∧ (Below w.heap.size w w')) ?_ ?_
  rotate_left
  rotate_left
  ·skip
   rintro ⟨v784, v789⟩ w20 ⟨hS_, h0_, h1_, h2_, h3_, h4_, h5_, h6_, h7_, h8_⟩
   have _ : Aside0 (Kd.R (Kd.int .i64) 3 w20 w.heap.size (fun k_ => (w.heap.size ≤ k_) ∧ some k_ ≠ (.slice Ao14 t769.length co14 : Value).ownBlock ∧ some k_ ≠ (v775 : Value).ownBlock ∧ some k_ ≠ (v789 : Value).ownBlock) (.slice Ao13 t764.length co13) t764) := ⟨h0_⟩
   have _ : Aside0 (Kd.R (Kd.int .i64) 3 w20 w.heap.size (fun k_ => (w.heap.size ≤ k_) ∧ some k_ ≠ (.slice Ao13 t764.length co13 : Value).ownBlock ∧ some k_ ≠ (v775 : Value).ownBlock ∧ some k_ ≠ (v789 : Value).ownBlock) (.slice Ao14 t769.length co14) t769) := ⟨h1_⟩
   have _ : Aside0 (Kd.R (Kd.int .i64) 3 w20 w.heap.size (fun k_ => (w.heap.size ≤ k_) ∧ some k_ ≠ (.slice Ao13 t764.length co13 : Value).ownBlock ∧ some k_ ≠ (.slice Ao14 t769.length co14 : Value).ownBlock ∧ some k_ ≠ (v789 : Value).ownBlock) v775 t774) := ⟨h2_⟩
   have _ : Aside0 (Kd.R k113 113 w20 w.heap.size (fun k_ => (w.heap.size ≤ k_)) v784 t783) := ⟨h3_⟩
   have _ : Aside0 (Kd.R (Kd.int .i64) 3 w20 w.heap.size (fun k_ => (w.heap.size ≤ k_) ∧ some k_ ≠ (.slice Ao13 t764.length co13 : Value).ownBlock ∧ some k_ ≠ (.slice Ao14 t769.length co14 : Value).ownBlock ∧ some k_ ≠ (v775 : Value).ownBlock) v789 t788) := ⟨h4_⟩
   have _ : Aside0 (w20.heap[gb761]? = some (.cells #[.int .i64 0, .int .i64 0, .slice none 0 0, .int .i64 0, .int .i64 0, .slice none 0 0, .int .i64 0, .int .i64 0] 41 (0, 0))) := ⟨h5_⟩
   have _ : Aside0 (w20.heap[gb778]? = some (.cells #[.int .i64 t762, .int .i64 t763, .slice Ao13 t764.length co13, .int .i64 t767, .int .i64 t768, .slice Ao14 t769.length co14, .int .i64 t772, .int .i64 t773] 41 (0, 0))) := ⟨h6_⟩
   have _ : Aside0 (IsS173 w w20 g782 t779 t786 t787) := ⟨h7_⟩
   have _ : Aside0 (Below w.heap.size w w20) := ⟨h8_⟩
   clear HO766 HO771 HO776 BK761 BK778 HI782 HB h0_ h1_ h2_ h3_ h4_ h5_ h6_ h7_ h8_
   rename_i HO766 HO771 HO776 HO785 HO790 BK761 BK778 HI782 HB
   have hHeld : w20.cell? ⟨gb778, 0, none⟩ = some (.int .i64 t762) ∧ w20.cell? ⟨gb778, 1, none⟩ = some (.int .i64 t763) ∧ w20.cell? ⟨gb778, 2, none⟩ = some (.slice Ao13 t764.length co13) ∧ w20.cell? ⟨gb778, 3, none⟩ = some (.int .i64 t767) ∧ w20.cell? ⟨gb778, 4, none⟩ = some (.int .i64 t768) ∧ w20.cell? ⟨gb778, 5, none⟩ = some (.slice Ao14 t769.length co14) ∧ w20.cell? ⟨gb778, 6, none⟩ = some (.int .i64 t772) ∧ w20.cell? ⟨gb778, 7, none⟩ = some (.int .i64 t773) := hS_
   refine norm_ (a' := ?_) ?_ ?_
   rotate_left
   ·simp only [putAll, Act.put, sA, sZ, sS]
    rfl
   refine two_ (i := 6) (j := 8) (Ni := some 23) (Nj := some 25) b17A15 b17A16 rfl rfl rfl rfl (two_of HT_.o (by kernel_rfl)) (by decide) (by decide) (fun K hK => ?_) (fun K hK => ?_)
   ·skip
    refine Kd.R_lit_step (Kd.int .i64) _ 3 ?hg (N := 23) ?hd (xs := ([] : List Int)) (inner := []) (ok := fun _ => True) (okp := fun _ => True) ?hr ?hp (fun _ hk => hk) trivial (Below.refl _ _) (Nat.le_refl _) (by simp) ?_; (case hd => rfl); (case hg => rfl); (case hr => first | (go_simp; done) | (go_simp; rfl)); (case hp => exact (Reps.none _ _))
    intro v792 w21 ho22 hb hg_ hnew_
    clear hg_ hnew_
    (first | rw [← Ny791.o] at ho22 | (simp only [Int.reduceToNat] at ho22; rw [← Ny791.o] at ho22))
    have _ := zK (Kd.R_elder' (Kd.qR HO766.o) (Kd.R_base ho22) hb)
    have _ := zK (Kd.R_elder' (Kd.qR HO771.o) (Kd.R_base ho22) hb)
    have _ := zK (Kd.R_elder' (Kd.qR HO776.o) (Kd.R_base ho22) hb)
    have _ := zK (Kd.R_below (Kd.qR HO785.o) hb)
    have _ := zK (Kd.R_elder' (Kd.qR HO790.o) (Kd.R_base ho22) hb)
    have _ := zK (Kd.R_lower (Kd.R_new' (Kd.R_new' (Kd.R_new' (Kd.R_new' (Kd.R_newM (M := fun k_ => (w.heap.size ≤ k_)) ho22 (bZ M2) (fun k_ h_ => h_)) (Kd.R_lt (Kd.qR HO766.o))) (Kd.R_lt (Kd.qR HO771.o))) (Kd.R_lt (Kd.qR HO776.o))) (Kd.R_lt (Kd.qR HO790.o))) (bZ M2))
    have _ := zK (bB (qK BK761.o) hb)
    have _ := zK (bB (qK BK778.o) hb)
    have _ := zK (IsS173.below M5 hb)
    have _ := zK (bT M2 hb)
    clear HO766 HO771 HO776 HO785 HO790 BK761 BK778 HI782 HB
    rename_i HO766 HO771 HO776 HO785 HO790 HO793 BK761 BK778 HI782 HB
    clear hb ho22
    refine hK.out _ _ (b8 BK778.o) (fun hHeld => ?_)
    clear hK K
    refine norm_ (a' := ?_) ?_ ?_
    rotate_left
    ·show Act.put _ (some 23) _ = _
     simp only [Act.put, sA, sZ, sS, i64_w, i32_w]
     rfl
    exact norm_ M32 (hJ2_4_6 (v784, v789, v792) _ ⟨hHeld, M25, M26, M34, (Kd.qR HO785.o), M46, M47, (qK BK761.o), (qK BK778.o), M5, M2⟩)
   skip
   refine goes_ Try.func133 (by kernel_rfl) rfl #[.pointer (some ⟨g782, 0, none⟩)] (by rfl) rfl rfl M0 ?_
   with_reducible refine (spec_l6List.calls k g782 t779 t786 t787 t794 t797 t798 w _ ?side1 ?side2 A6.o).mono ?_
   (case side1 => exact Q3)
   (case side2 => exact M2)
   rintro e w21 ⟨v795, rfl, ho0, hi, hb, hk⟩
   refine ⟨_, rfl, ?_⟩
   have _ := zK (kB hk BK761.o NB761_782.o)
   have _ := zK (IsS173.rK (show IsS173 w _ g782 t779 t786 t787 from Q3) HO766.o hk)
   have _ := zK (IsS173.rK (show IsS173 w _ g782 t779 t786 t787 from Q3) HO771.o hk)
   have _ := zK (IsS173.rK (show IsS173 w _ g782 t779 t786 t787 from Q3) HO776.o hk)
   have _ := zK (kB hk BK778.o NB778_782.o)
   have _ := zK (Kd.R_mono (Kd.R_told (Kd.R_oldK (IsS173.apart (show IsS173 w _ g782 t779 t786 t787 from Q3) (Kd.qR HO785.o) (by decide)) hk) (Kd.R_base ho0)) (fun _ h_ => h_.1))
   have _ := zK (IsS173.rK (show IsS173 w _ g782 t779 t786 t787 from Q3) HO790.o hk)
   have _ := zK (Kd.R_lower (Kd.R_new' (Kd.R_newM (M := fun k_ => (w.heap.size ≤ k_)) ho0 (bZ M2) (fun k_ h_ => h_)) (Kd.R_lt (Kd.qR HO785.o))) (bZ M2))
   have _ := zK (hb)
   have _ := zK (hi)
   clear BK761 HO766 HO771 HO776 BK778 HO785 HO790 HB HI782
   rename_i BK761 HO766 HO771 HO776 BK778 HO785 HO790 HO796 HB HI782
   (try clear hb)
   (try clear hb2)
   (try clear hk)
   (try clear hi)
   (try clear ho0)
   refine hK.out _ _ (b8 BK778.o) (fun hHeld => ?_)
   clear hK K
   refine norm_ (a' := ?_) ?_ ?_
   rotate_left
   ·show Act.put _ (some 25) _ = _
    simp only [Act.put, sA, sZ, sS, i64_w, i32_w]
    rfl
   exact norm_ M32 (hJ2_4_8 (v784, v789, v795) _ ⟨hHeld, (Kd.qR HO766.o), (Kd.qR HO771.o), (Kd.qR HO776.o), (Kd.qR HO785.o), (Kd.qR HO790.o), (by (with_reducible repeat (first | apply Kd.RA | apply Kd.RN | apply Kd.RD)); exact Kd.R_mono HO796.o (fun _ hk => by (try dsimp only at hk); simp only [hk, ne_eq, not_false_eq_true, and_self])), (qK BK761.o), (qK BK778.o), M5, M2⟩)
  intro hJ2_4
  refine join_ (σ := Value × Value) 7 b17A18 (fun s_ => [(19, s_.1), (23, s_.2)]) (fun s_ w' => (w'.cell? ⟨gb778, 0, none⟩ = some (.int .i64 t762) ∧ w'.cell? ⟨gb778, 1, none⟩ = some (.int .i64 t763) ∧ w'.cell? ⟨gb778, 2, none⟩ = some (.slice Ao13 t764.length co13) ∧ w'.cell? ⟨gb778, 3, none⟩ = some (.int .i64 t767) ∧ w'.cell? ⟨gb778, 4, none⟩ = some (.int .i64 t768) ∧ w'.cell? ⟨gb778, 5, none⟩ = some (.slice Ao14 t769.length co14) ∧ w'.cell? ⟨gb778, 6, none⟩ = some (.int .i64 t772) ∧ w'.cell? ⟨gb778, 7, none⟩ = some (.int .i64 t773)) ∧ (Kd.R (Kd.int .i64) 3 w' w.heap.size (fun k_ => (w.heap.size ≤ k_) ∧ some k_ ≠ (.slice Ao14 t769.length co14 : Value).ownBlock ∧ some k_ ≠ (v775 : Value).ownBlock ∧ some k_ ≠ (s_.2 : Value).ownBlock) (.slice Ao13 t764.length co13) t764) ∧ (Kd.R (Kd.int .i64) 3 w' w.heap.size (fun k_ => (w.heap.size ≤ k_) ∧ some k_ ≠ (.slice Ao13 t764.length co13 : Value).ownBlock ∧ some k_ ≠ (v775 : Value).ownBlock ∧ some k_ ≠ (s_.2 : Value).ownBlock) (.slice Ao14 t769.length co14) t769) ∧ (Kd.R (Kd.int .i64) 3 w' w.heap.size (fun k_ => (w.heap.size ≤ k_) ∧ some k_ ≠ (.slice Ao13 t764.length co13 : Value).ownBlock ∧ some k_ ≠ (.slice Ao14 t769.length co14 : Value).ownBlock ∧ some k_ ≠ (s_.2 : Value).ownBlock) v775 t774) ∧ (Kd.R k113 113 w' w.heap.size (fun k_ => (w.heap.size ≤ k_)) s_.1 t783) ∧ (Kd.R (Kd.int .i64) 3 w' w.heap.size (fun k_ => (w.heap.size ≤ k_) ∧ some k_ ≠ (.slice Ao13 t764.length co13 : Value).ownBlock ∧ some k_ ≠ (.slice Ao14 t769.length co14 : Value).ownBlock ∧ some k_ ≠ (v775 : Value).ownBlock) s_.2 y791) ∧ (w'.heap[gb761]? = some (.cells #[.int .i64 0, .int .i64 0, .slice none 0 0, .int .i64 0, .int .i64 0, .slice none 0 0, .int .i64 0, .int .i64 0] 41 (0, 0))) ∧ (w'.heap[gb778]? = some (.cells #[.int .i64 t762, .int .i64 t763, .slice Ao13 t764.length co13, .int .i64 t767, .int .i64 t768, .slice Ao14 t769.length co14, .int .i64 t772, .int .i64 t773] 41 (0, 0))) ∧ (IsS173 w w' g782 t779 t786 t787) ∧ (Below w.heap.size w w')) ?_ ?_
  rotate_left
  rotate_left
  ·skip
   rintro ⟨v784, v792⟩ w20 ⟨hS_, h0_, h1_, h2_, h3_, h4_, h5_, h6_, h7_, h8_⟩
   have _ : Aside0 (Kd.R (Kd.int .i64) 3 w20 w.heap.size (fun k_ => (w.heap.size ≤ k_) ∧ some k_ ≠ (.slice Ao14 t769.length co14 : Value).ownBlock ∧ some k_ ≠ (v775 : Value).ownBlock ∧ some k_ ≠ (v792 : Value).ownBlock) (.slice Ao13 t764.length co13) t764) := ⟨h0_⟩
   have _ : Aside0 (Kd.R (Kd.int .i64) 3 w20 w.heap.size (fun k_ => (w.heap.size ≤ k_) ∧ some k_ ≠ (.slice Ao13 t764.length co13 : Value).ownBlock ∧ some k_ ≠ (v775 : Value).ownBlock ∧ some k_ ≠ (v792 : Value).ownBlock) (.slice Ao14 t769.length co14) t769) := ⟨h1_⟩
   have _ : Aside0 (Kd.R (Kd.int .i64) 3 w20 w.heap.size (fun k_ => (w.heap.size ≤ k_) ∧ some k_ ≠ (.slice Ao13 t764.length co13 : Value).ownBlock ∧ some k_ ≠ (.slice Ao14 t769.length co14 : Value).ownBlock ∧ some k_ ≠ (v792 : Value).ownBlock) v775 t774) := ⟨h2_⟩
   have _ : Aside0 (Kd.R k113 113 w20 w.heap.size (fun k_ => (w.heap.size ≤ k_)) v784 t783) := ⟨h3_⟩
   have _ : Aside0 (Kd.R (Kd.int .i64) 3 w20 w.heap.size (fun k_ => (w.heap.size ≤ k_) ∧ some k_ ≠ (.slice Ao13 t764.length co13 : Value).ownBlock ∧ some k_ ≠ (.slice Ao14 t769.length co14 : Value).ownBlock ∧ some k_ ≠ (v775 : Value).ownBlock) v792 y791) := ⟨h4_⟩
   have _ : Aside0 (w20.heap[gb761]? = some (.cells #[.int .i64 0, .int .i64 0, .slice none 0 0, .int .i64 0, .int .i64 0, .slice none 0 0, .int .i64 0, .int .i64 0] 41 (0, 0))) := ⟨h5_⟩
   have _ : Aside0 (w20.heap[gb778]? = some (.cells #[.int .i64 t762, .int .i64 t763, .slice Ao13 t764.length co13, .int .i64 t767, .int .i64 t768, .slice Ao14 t769.length co14, .int .i64 t772, .int .i64 t773] 41 (0, 0))) := ⟨h6_⟩
   have _ : Aside0 (IsS173 w w20 g782 t779 t786 t787) := ⟨h7_⟩
   have _ : Aside0 (Below w.heap.size w w20) := ⟨h8_⟩
   clear HO766 HO771 HO776 BK761 BK778 HI782 HB h0_ h1_ h2_ h3_ h4_ h5_ h6_ h7_ h8_
   rename_i HO766 HO771 HO776 HO785 HO793 BK761 BK778 HI782 HB
   have hHeld : w20.cell? ⟨gb778, 0, none⟩ = some (.int .i64 t762) ∧ w20.cell? ⟨gb778, 1, none⟩ = some (.int .i64 t763) ∧ w20.cell? ⟨gb778, 2, none⟩ = some (.slice Ao13 t764.length co13) ∧ w20.cell? ⟨gb778, 3, none⟩ = some (.int .i64 t767) ∧ w20.cell? ⟨gb778, 4, none⟩ = some (.int .i64 t768) ∧ w20.cell? ⟨gb778, 5, none⟩ = some (.slice Ao14 t769.length co14) ∧ w20.cell? ⟨gb778, 6, none⟩ = some (.int .i64 t772) ∧ w20.cell? ⟨gb778, 7, none⟩ = some (.int .i64 t773) := hS_
   obtain ⟨Ao21, co21, eo21⟩ := Kd.R_slice HO785.o
   (first | subst eo21 | (injection eo21 with f1_ f2_ f3_; have f4_ := f1_.symm; have f5_ := f3_.symm; clear f1_ f2_ f3_; subst f4_; subst f5_))
   refine norm_ (a' := ?_) ?_ ?_
   rotate_left
   ·simp only [putAll, Act.put, sA, sZ, sS]
    rfl
   refine one_ (i := 4) (N := some 21) b17A15 rfl rfl (one_of HT_.o (by kernel_rfl)) (by decide) (fun K hK => ?_)
   refine goes_ Try.func13 (by kernel_rfl) rfl #[.slice Ao21 t783.length co21, .int .i64 t777] (by rfl) rfl rfl M0 ?_
   with_reducible refine (spec_HintsOf.calls k _ _ t783 t777 t788 _ ?side1 ?side2 A5.o).mono ?_
   (case side1 => exact Kd.qC (Kd.R_reads' HO785.o).2.2)
   (case side2 => exact (Kd.R_reads' HO785.o).2.1)
   rintro e w22 ⟨v789, rfl, ho0, hb⟩
   refine ⟨_, rfl, ?_⟩
   have _ := zK (Kd.R_elder' (Kd.qR HO766.o) (Kd.R_base ho0) hb)
   have _ := zK (Kd.R_elder' (Kd.qR HO771.o) (Kd.R_base ho0) hb)
   have _ := zK (Kd.R_elder' (Kd.qR HO776.o) (Kd.R_base ho0) hb)
   have _ := zK (Kd.R_below (Kd.qR HO785.o) hb)
   have _ := zK (Kd.R_elder' (Kd.qR HO793.o) (Kd.R_base ho0) hb)
   have _ := zK (Kd.R_lower (Kd.R_new' (Kd.R_new' (Kd.R_new' (Kd.R_new' (Kd.R_newM (M := fun k_ => (w.heap.size ≤ k_)) ho0 (bZ M2) (fun k_ h_ => h_)) (Kd.R_lt (Kd.qR HO766.o))) (Kd.R_lt (Kd.qR HO771.o))) (Kd.R_lt (Kd.qR HO776.o))) (Kd.R_lt (Kd.qR HO793.o))) (bZ M2))
   have _ := zK (bB (qK BK761.o) hb)
   have _ := zK (bB (qK BK778.o) hb)
   have _ := zK (IsS173.below M5 hb)
   have _ := zK (bT M2 hb)
   clear HO766 HO771 HO776 HO785 HO793 BK761 BK778 HI782 HB
   rename_i HO766 HO771 HO776 HO785 HO793 HO790 BK761 BK778 HI782 HB
   (try clear hb)
   (try clear hb2)
   (try clear hk)
   (try clear hi)
   (try clear ho0)
   refine hK.out _ _ (b8 BK778.o) (fun hHeld => ?_)
   clear hK K
   refine norm_ (a' := ?_) ?_ ?_
   rotate_left
   ·show Act.put _ (some 21) _ = _
    simp only [Act.put, sA, sZ, sS, i64_w, i32_w]
    rfl
   exact norm_ M32 (hJ2_4_6 (.slice Ao21 t783.length co21, v789, v792) _ ⟨hHeld, M25, M26, M34, (Kd.qR HO785.o), M46, M47, (qK BK761.o), (qK BK778.o), M5, M2⟩)
  intro hJ2_6
  refine join_ (σ := Value) 8 b17A19 (fun s_ => [(19, s_)]) (fun s_ w' => (w'.cell? ⟨gb778, 0, none⟩ = some (.int .i64 t762) ∧ w'.cell? ⟨gb778, 1, none⟩ = some (.int .i64 t763) ∧ w'.cell? ⟨gb778, 2, none⟩ = some (.slice Ao13 t764.length co13) ∧ w'.cell? ⟨gb778, 3, none⟩ = some (.int .i64 t767) ∧ w'.cell? ⟨gb778, 4, none⟩ = some (.int .i64 t768) ∧ w'.cell? ⟨gb778, 5, none⟩ = some (.slice Ao14 t769.length co14) ∧ w'.cell? ⟨gb778, 6, none⟩ = some (.int .i64 t772) ∧ w'.cell? ⟨gb778, 7, none⟩ = some (.int .i64 t773)) ∧ (Kd.R (Kd.int .i64) 3 w' w.heap.size (fun k_ => (w.heap.size ≤ k_) ∧ some k_ ≠ (.slice Ao14 t769.length co14 : Value).ownBlock ∧ some k_ ≠ (v775 : Value).ownBlock) (.slice Ao13 t764.length co13) t764) ∧ (Kd.R (Kd.int .i64) 3 w' w.heap.size (fun k_ => (w.heap.size ≤ k_) ∧ some k_ ≠ (.slice Ao13 t764.length co13 : Value).ownBlock ∧ some k_ ≠ (v775 : Value).ownBlock) (.slice Ao14 t769.length co14) t769) ∧ (Kd.R (Kd.int .i64) 3 w' w.heap.size (fun k_ => (w.heap.size ≤ k_) ∧ some k_ ≠ (.slice Ao13 t764.length co13 : Value).ownBlock ∧ some k_ ≠ (.slice Ao14 t769.length co14 : Value).ownBlock) v775 t774) ∧ (Kd.R k113 113 w' w.heap.size (fun k_ => (w.heap.size ≤ k_)) s_ t783) ∧ (w'.heap[gb761]? = some (.cells #[.int .i64 0, .int .i64 0, .slice none 0 0, .int .i64 0, .int .i64 0, .slice none 0 0, .int .i64 0, .int .i64 0] 41 (0, 0))) ∧ (w'.heap[gb778]? = some (.cells #[.int .i64 t762, .int .i64 t763, .slice Ao13 t764.length co13, .int .i64 t767, .int .i64 t768, .slice Ao14 t769.length co14, .int .i64 t772, .int .i64 t773] 41 (0, 0))) ∧ (IsS173 w w' g782 t779 t786 t787) ∧ (Below w.heap.size w w')) ?_ ?_
  rotate_left
  rotate_left
  ·skip
   rintro v784 w18 ⟨hS_, h0_, h1_, h2_, h3_, h4_, h5_, h6_, h7_⟩
   have _ : Aside0 (Kd.R (Kd.int .i64) 3 w18 w.heap.size (fun k_ => (w.heap.size ≤ k_) ∧ some k_ ≠ (.slice Ao14 t769.length co14 : Value).ownBlock ∧ some k_ ≠ (v775 : Value).ownBlock) (.slice Ao13 t764.length co13) t764) := ⟨h0_⟩
   have _ : Aside0 (Kd.R (Kd.int .i64) 3 w18 w.heap.size (fun k_ => (w.heap.size ≤ k_) ∧ some k_ ≠ (.slice Ao13 t764.length co13 : Value).ownBlock ∧ some k_ ≠ (v775 : Value).ownBlock) (.slice Ao14 t769.length co14) t769) := ⟨h1_⟩
   have _ : Aside0 (Kd.R (Kd.int .i64) 3 w18 w.heap.size (fun k_ => (w.heap.size ≤ k_) ∧ some k_ ≠ (.slice Ao13 t764.length co13 : Value).ownBlock ∧ some k_ ≠ (.slice Ao14 t769.length co14 : Value).ownBlock) v775 t774) := ⟨h2_⟩
   have _ : Aside0 (Kd.R k113 113 w18 w.heap.size (fun k_ => (w.heap.size ≤ k_)) v784 t783) := ⟨h3_⟩
   have _ : Aside0 (w18.heap[gb761]? = some (.cells #[.int .i64 0, .int .i64 0, .slice none 0 0, .int .i64 0, .int .i64 0, .slice none 0 0, .int .i64 0, .int .i64 0] 41 (0, 0))) := ⟨h4_⟩
   have _ : Aside0 (w18.heap[gb778]? = some (.cells #[.int .i64 t762, .int .i64 t763, .slice Ao13 t764.length co13, .int .i64 t767, .int .i64 t768, .slice Ao14 t769.length co14, .int .i64 t772, .int .i64 t773] 41 (0, 0))) := ⟨h5_⟩
   have _ : Aside0 (IsS173 w w18 g782 t779 t786 t787) := ⟨h6_⟩
   have _ : Aside0 (Below w.heap.size w w18) := ⟨h7_⟩
   clear HO766 HO771 HO776 BK761 BK778 HI782 HB h0_ h1_ h2_ h3_ h4_ h5_ h6_ h7_
   rename_i HO766 HO771 HO776 HO785 BK761 BK778 HI782 HB
   have hHeld : w18.cell? ⟨gb778, 0, none⟩ = some (.int .i64 t762) ∧ w18.cell? ⟨gb778, 1, none⟩ = some (.int .i64 t763) ∧ w18.cell? ⟨gb778, 2, none⟩ = some (.slice Ao13 t764.length co13) ∧ w18.cell? ⟨gb778, 3, none⟩ = some (.int .i64 t767) ∧ w18.cell? ⟨gb778, 4, none⟩ = some (.int .i64 t768) ∧ w18.cell? ⟨gb778, 5, none⟩ = some (.slice Ao14 t769.length co14) ∧ w18.cell? ⟨gb778, 6, none⟩ = some (.int .i64 t772) ∧ w18.cell? ⟨gb778, 7, none⟩ = some (.int .i64 t773) := hS_
   obtain ⟨Ao19, co19, eo19⟩ := Kd.R_slice HO785.o
   (first | subst eo19 | (injection eo19 with f1_ f2_ f3_; have f4_ := f1_.symm; have f5_ := f3_.symm; clear f1_ f2_ f3_; subst f4_; subst f5_))
   refine norm_ (a' := ?_) ?_ ?_
   rotate_left
   ·simp only [putAll, Act.put, sA, sZ, sS]
    rfl
   refine two_ (i := 4) (j := 6) (Ni := some 21) (Nj := some 23) b17A17 b17A18 rfl rfl rfl rfl (two_of HT_.o (by kernel_rfl)) (by decide) (by decide) (fun K hK => ?_) (fun K hK => ?_)
   rotate_left
   ·skip
    refine Kd.R_lit_step (Kd.int .i64) _ 3 ?hg (N := 23) ?hd (xs := ([] : List Int)) (inner := []) (ok := fun _ => True) (okp := fun _ => True) ?hr ?hp (fun _ hk => hk) trivial (Below.refl _ _) (Nat.le_refl _) (by simp) ?_; (case hd => rfl); (case hg => rfl); (case hr => first | (go_simp; done) | (go_simp; rfl)); (case hp => exact (Reps.none _ _))
    intro v792 w19 ho20 hb hg_ hnew_
    clear hg_ hnew_
    (first | rw [← Ny791.o] at ho20 | (simp only [Int.reduceToNat] at ho20; rw [← Ny791.o] at ho20))
    have _ := zK (Kd.R_elder' (Kd.qR HO766.o) (Kd.R_base ho20) hb)
    have _ := zK (Kd.R_elder' (Kd.qR HO771.o) (Kd.R_base ho20) hb)
    have _ := zK (Kd.R_elder' (Kd.qR HO776.o) (Kd.R_base ho20) hb)
    have _ := zK (Kd.R_below (Kd.qR HO785.o) hb)
    have _ := zK (Kd.R_lower (Kd.R_new' (Kd.R_new' (Kd.R_new' (Kd.R_newM (M := fun k_ => (w.heap.size ≤ k_)) ho20 (bZ M2) (fun k_ h_ => h_)) (Kd.R_lt (Kd.qR HO766.o))) (Kd.R_lt (Kd.qR HO771.o))) (Kd.R_lt (Kd.qR HO776.o))) (bZ M2))
    have _ := zK (bB (qK BK761.o) hb)
    have _ := zK (bB (qK BK778.o) hb)
    have _ := zK (IsS173.below M5 hb)
    have _ := zK (bT M2 hb)
    clear HO766 HO771 HO776 HO785 BK761 BK778 HI782 HB
    rename_i HO766 HO771 HO776 HO785 HO793 BK761 BK778 HI782 HB
    clear hb ho20
    refine hK.out _ _ (b8 BK778.o) (fun hHeld => ?_)
    clear hK K
    refine norm_ (a' := ?_) ?_ ?_
    rotate_left
    ·show Act.put _ (some 23) _ = _
     simp only [Act.put, sA, sZ, sS, i64_w, i32_w]
     rfl
    exact norm_ M32 (hJ2_6 (.slice Ao19 t783.length co19, v792) _ ⟨hHeld, M25, M26, M34, (Kd.qR HO785.o), M47, (qK BK761.o), (qK BK778.o), M5, M2⟩)
   skip
   refine goes_ Try.func13 (by kernel_rfl) rfl #[.slice Ao19 t783.length co19, .int .i64 t777] (by rfl) rfl rfl M0 ?_
   with_reducible refine (spec_HintsOf.calls k _ _ t783 t777 t788 _ ?side1 ?side2 A5.o).mono ?_
   (case side1 => exact Kd.qC (Kd.R_reads' HO785.o).2.2)
   (case side2 => exact (Kd.R_reads' HO785.o).2.1)
   rintro e w20 ⟨v789, rfl, ho0, hb⟩
   refine ⟨_, rfl, ?_⟩
   have _ := zK (Kd.R_elder' (Kd.qR HO766.o) (Kd.R_base ho0) hb)
   have _ := zK (Kd.R_elder' (Kd.qR HO771.o) (Kd.R_base ho0) hb)
   have _ := zK (Kd.R_elder' (Kd.qR HO776.o) (Kd.R_base ho0) hb)
   have _ := zK (Kd.R_below (Kd.qR HO785.o) hb)
   have _ := zK (Kd.R_lower (Kd.R_new' (Kd.R_new' (Kd.R_new' (Kd.R_newM (M := fun k_ => (w.heap.size ≤ k_)) ho0 (bZ M2) (fun k_ h_ => h_)) (Kd.R_lt (Kd.qR HO766.o))) (Kd.R_lt (Kd.qR HO771.o))) (Kd.R_lt (Kd.qR HO776.o))) (bZ M2))
   have _ := zK (bB (qK BK761.o) hb)
   have _ := zK (bB (qK BK778.o) hb)
   have _ := zK (IsS173.below M5 hb)
   have _ := zK (bT M2 hb)
   clear HO766 HO771 HO776 HO785 BK761 BK778 HI782 HB
   rename_i HO766 HO771 HO776 HO785 HO790 BK761 BK778 HI782 HB
   (try clear hb)
   (try clear hb2)
   (try clear hk)
   (try clear hi)
   (try clear ho0)
   refine hK.out _ _ (b8 BK778.o) (fun hHeld => ?_)
   clear hK K
   refine norm_ (a' := ?_) ?_ ?_
   rotate_left
   ·show Act.put _ (some 21) _ = _
    simp only [Act.put, sA, sZ, sS, i64_w, i32_w]
    rfl
   exact norm_ M32 (hJ2_4 (.slice Ao19 t783.length co19, v789) _ ⟨hHeld, M25, M26, M34, (Kd.qR HO785.o), M46, (qK BK761.o), (qK BK778.o), M5, M2⟩)
  intro hJ2
  refine join_ (σ := Value) 8 b17A20 (fun s_ => [(23, s_)]) (fun s_ w' => (w'.cell? ⟨gb778, 0, none⟩ = some (.int .i64 t762) ∧ w'.cell? ⟨gb778, 1, none⟩ = some (.int .i64 t763) ∧ w'.cell? ⟨gb778, 2, none⟩ = some (.slice Ao13 t764.length co13) ∧ w'.cell? ⟨gb778, 3, none⟩ = some (.int .i64 t767) ∧ w'.cell? ⟨gb778, 4, none⟩ = some (.int .i64 t768) ∧ w'.cell? ⟨gb778, 5, none⟩ = some (.slice Ao14 t769.length co14) ∧ w'.cell? ⟨gb778, 6, none⟩ = some (.int .i64 t772) ∧ w'.cell? ⟨gb778, 7, none⟩ = some (.int .i64 t773)) ∧ (Kd.R (Kd.int .i64) 3 w' w.heap.size (fun k_ => (w.heap.size ≤ k_) ∧ some k_ ≠ (.slice Ao14 t769.length co14 : Value).ownBlock ∧ some k_ ≠ (v775 : Value).ownBlock ∧ some k_ ≠ (s_ : Value).ownBlock) (.slice Ao13 t764.length co13) t764) ∧ (Kd.R (Kd.int .i64) 3 w' w.heap.size (fun k_ => (w.heap.size ≤ k_) ∧ some k_ ≠ (.slice Ao13 t764.length co13 : Value).ownBlock ∧ some k_ ≠ (v775 : Value).ownBlock ∧ some k_ ≠ (s_ : Value).ownBlock) (.slice Ao14 t769.length co14) t769) ∧ (Kd.R (Kd.int .i64) 3 w' w.heap.size (fun k_ => (w.heap.size ≤ k_) ∧ some k_ ≠ (.slice Ao13 t764.length co13 : Value).ownBlock ∧ some k_ ≠ (.slice Ao14 t769.length co14 : Value).ownBlock ∧ some k_ ≠ (s_ : Value).ownBlock) v775 t774) ∧ (Kd.R (Kd.int .i64) 3 w' w.heap.size (fun k_ => (w.heap.size ≤ k_) ∧ some k_ ≠ (.slice Ao13 t764.length co13 : Value).ownBlock ∧ some k_ ≠ (.slice Ao14 t769.length co14 : Value).ownBlock ∧ some k_ ≠ (v775 : Value).ownBlock) s_ y791) ∧ (w'.heap[gb761]? = some (.cells #[.int .i64 0, .int .i64 0, .slice none 0 0, .int .i64 0, .int .i64 0, .slice none 0 0, .int .i64 0, .int .i64 0] 41 (0, 0))) ∧ (w'.heap[gb778]? = some (.cells #[.int .i64 t762, .int .i64 t763, .slice Ao13 t764.length co13, .int .i64 t767, .int .i64 t768, .slice Ao14 t769.length co14, .int .i64 t772, .int .i64 t773] 41 (0, 0))) ∧ (IsS173 w w' g782 t779 t780 t781) ∧ (Below w.heap.size w w')) ?_ ?_
  rotate_left
  rotate_left
  ·skip
   rintro v792 w19 ⟨hS_, h0_, h1_, h2_, h3_, h4_, h5_, h6_, h7_⟩
   have _ : Aside0 (Kd.R (Kd.int .i64) 3 w19 w.heap.size (fun k_ => (w.heap.size ≤ k_) ∧ some k_ ≠ (.slice Ao14 t769.length co14 : Value).ownBlock ∧ some k_ ≠ (v775 : Value).ownBlock ∧ some k_ ≠ (v792 : Value).ownBlock) (.slice Ao13 t764.length co13) t764) := ⟨h0_⟩
   have _ : Aside0 (Kd.R (Kd.int .i64) 3 w19 w.heap.size (fun k_ => (w.heap.size ≤ k_) ∧ some k_ ≠ (.slice Ao13 t764.length co13 : Value).ownBlock ∧ some k_ ≠ (v775 : Value).ownBlock ∧ some k_ ≠ (v792 : Value).ownBlock) (.slice Ao14 t769.length co14) t769) := ⟨h1_⟩
   have _ : Aside0 (Kd.R (Kd.int .i64) 3 w19 w.heap.size (fun k_ => (w.heap.size ≤ k_) ∧ some k_ ≠ (.slice Ao13 t764.length co13 : Value).ownBlock ∧ some k_ ≠ (.slice Ao14 t769.length co14 : Value).ownBlock ∧ some k_ ≠ (v792 : Value).ownBlock) v775 t774) := ⟨h2_⟩
   have _ : Aside0 (Kd.R (Kd.int .i64) 3 w19 w.heap.size (fun k_ => (w.heap.size ≤ k_) ∧ some k_ ≠ (.slice Ao13 t764.length co13 : Value).ownBlock ∧ some k_ ≠ (.slice Ao14 t769.length co14 : Value).ownBlock ∧ some k_ ≠ (v775 : Value).ownBlock) v792 y791) := ⟨h3_⟩
   have _ : Aside0 (w19.heap[gb761]? = some (.cells #[.int .i64 0, .int .i64 0, .slice none 0 0, .int .i64 0, .int .i64 0, .slice none 0 0, .int .i64 0, .int .i64 0] 41 (0, 0))) := ⟨h4_⟩
   have _ : Aside0 (w19.heap[gb778]? = some (.cells #[.int .i64 t762, .int .i64 t763, .slice Ao13 t764.length co13, .int .i64 t767, .int .i64 t768, .slice Ao14 t769.length co14, .int .i64 t772, .int .i64 t773] 41 (0, 0))) := ⟨h5_⟩
   have _ : Aside0 (IsS173 w w19 g782 t779 t780 t781) := ⟨h6_⟩
   have _ : Aside0 (Below w.heap.size w w19) := ⟨h7_⟩
   clear HO766 HO771 HO776 BK761 BK778 HI782 HB h0_ h1_ h2_ h3_ h4_ h5_ h6_ h7_
   rename_i HO766 HO771 HO776 HO793 BK761 BK778 HI782 HB
   have hHeld : w19.cell? ⟨gb778, 0, none⟩ = some (.int .i64 t762) ∧ w19.cell? ⟨gb778, 1, none⟩ = some (.int .i64 t763) ∧ w19.cell? ⟨gb778, 2, none⟩ = some (.slice Ao13 t764.length co13) ∧ w19.cell? ⟨gb778, 3, none⟩ = some (.int .i64 t767) ∧ w19.cell? ⟨gb778, 4, none⟩ = some (.int .i64 t768) ∧ w19.cell? ⟨gb778, 5, none⟩ = some (.slice Ao14 t769.length co14) ∧ w19.cell? ⟨gb778, 6, none⟩ = some (.int .i64 t772) ∧ w19.cell? ⟨gb778, 7, none⟩ = some (.int .i64 t773) := hS_
   refine norm_ (a' := ?_) ?_ ?_
   rotate_left
   ·simp only [putAll, Act.put, sA, sZ, sS]
    rfl
   refine one_ (i := 2) (N := some 19) b17A18 rfl rfl (one_of HT_.o (by kernel_rfl)) (by decide) (fun K hK => ?_)
   refine goes_ Try.func133 (by kernel_rfl) rfl #[.pointer (some ⟨g782, 0, none⟩)] (by rfl) rfl rfl M0 ?_
   with_reducible refine (spec_l6List.calls k g782 t779 t780 t781 t783 t786 t787 w _ ?side1 ?side2 A4.o).mono ?_
   (case side1 => exact Q3)
   (case side2 => exact M2)
   rintro e w20 ⟨v784, rfl, ho0, hi, hb, hk⟩
   refine ⟨_, rfl, ?_⟩
   have _ := zK (kB hk BK761.o NB761_782.o)
   have _ := zK (IsS173.rK (show IsS173 w _ g782 t779 t780 t781 from Q3) HO766.o hk)
   have _ := zK (IsS173.rK (show IsS173 w _ g782 t779 t780 t781 from Q3) HO771.o hk)
   have _ := zK (IsS173.rK (show IsS173 w _ g782 t779 t780 t781 from Q3) HO776.o hk)
   have _ := zK (kB hk BK778.o NB778_782.o)
   have _ := zK (IsS173.rK (show IsS173 w _ g782 t779 t780 t781 from Q3) HO793.o hk)
   have _ := zK (Kd.R_lower (Kd.R_newM (M := fun k_ => (w.heap.size ≤ k_)) ho0 (bZ M2) (fun k_ h_ => h_)) (bZ M2))
   have _ := zK (hb)
   have _ := zK (hi)
   clear BK761 HO766 HO771 HO776 BK778 HO793 HB HI782
   rename_i BK761 HO766 HO771 HO776 BK778 HO793 HO785 HB HI782
   (try clear hb)
   (try clear hb2)
   (try clear hk)
   (try clear hi)
   (try clear ho0)
   refine hK.out _ _ (b8 BK778.o) (fun hHeld => ?_)
   clear hK K
   refine norm_ (a' := ?_) ?_ ?_
   rotate_left
   ·show Act.put _ (some 19) _ = _
    simp only [Act.put, sA, sZ, sS, i64_w, i32_w]
    rfl
   exact norm_ M32 (hJ2_6 (v784, v792) _ ⟨hHeld, (Kd.qR HO766.o), (Kd.qR HO771.o), (Kd.qR HO776.o), (by (with_reducible repeat (first | apply Kd.RA | apply Kd.RN | apply Kd.RD)); exact Kd.R_mono HO785.o (fun _ hk => hk.1)), (Kd.qR HO793.o), (qK BK761.o), (qK BK778.o), M5, M2⟩)
  intro hJ6
  refine two_ (i := 2) (j := 6) (Ni := some 19) (Nj := some 23) b17A19 b17A20 rfl rfl rfl rfl (two_of HT_.o (by kernel_rfl)) (by decide) (by decide) (fun K hK => ?_) (fun K hK => ?_)
  rotate_left
  ·skip
   refine Kd.R_lit_step (Kd.int .i64) _ 3 ?hg (N := 23) ?hd (xs := ([] : List Int)) (inner := []) (ok := fun _ => True) (okp := fun _ => True) ?hr ?hp (fun _ hk => hk) trivial (Below.refl _ _) (Nat.le_refl _) (by simp) ?_; (case hd => rfl); (case hg => rfl); (case hr => first | (go_simp; done) | (go_simp; rfl)); (case hp => exact (Reps.none _ _))
   intro v792 w17 ho18 hb hg_ hnew_
   clear hg_ hnew_
   (first | rw [← Ny791.o] at ho18 | (simp only [Int.reduceToNat] at ho18; rw [← Ny791.o] at ho18))
   have _ := zK (Kd.R_elder' (Kd.qR HO766.o) (Kd.R_base ho18) hb)
   have _ := zK (Kd.R_elder' (Kd.qR HO771.o) (Kd.R_base ho18) hb)
   have _ := zK (Kd.R_elder' (Kd.qR HO776.o) (Kd.R_base ho18) hb)
   have _ := zK (Kd.R_lower (Kd.R_new' (Kd.R_new' (Kd.R_new' (Kd.R_newM (M := fun k_ => (w.heap.size ≤ k_)) ho18 (bZ M2) (fun k_ h_ => h_)) (Kd.R_lt (Kd.qR HO766.o))) (Kd.R_lt (Kd.qR HO771.o))) (Kd.R_lt (Kd.qR HO776.o))) (bZ M2))
   have _ := zK (bB (qK BK761.o) hb)
   have _ := zK (bB (qK BK778.o) hb)
   have _ := zK (IsS173.below M5 hb)
   have _ := zK (bT M2 hb)
   clear HO766 HO771 HO776 BK761 BK778 HI782 HB
   rename_i HO766 HO771 HO776 HO793 BK761 BK778 HI782 HB
   clear hb ho18
   refine hK.out _ _ (b8 BK778.o) (fun hHeld => ?_)
   clear hK K
   refine norm_ (a' := ?_) ?_ ?_
   rotate_left
   ·show Act.put _ (some 23) _ = _
    simp only [Act.put, sA, sZ, sS, i64_w, i32_w]
    rfl
   exact norm_ M32 (hJ6 (v792) _ ⟨hHeld, M25, M26, M34, M47, (qK BK761.o), (qK BK778.o), M5, M2⟩)
  skip
  refine goes_ Try.func133 (by kernel_rfl) rfl #[.pointer (some ⟨g782, 0, none⟩)] (by rfl) rfl rfl M0 ?_
  with_reducible refine (spec_l6List.calls k g782 t779 t780 t781 t783 t786 t787 w _ ?side1 ?side2 A4.o).mono ?_
  (case side1 => exact Q3)
  (case side2 => exact M2)
  rintro e w17 ⟨v784, rfl, ho0, hi, hb, hk⟩
  refine ⟨_, rfl, ?_⟩
  have _ := zK (kB hk BK761.o NB761_782.o)
  have _ := zK (IsS173.rK (show IsS173 w _ g782 t779 t780 t781 from Q3) HO766.o hk)
  have _ := zK (IsS173.rK (show IsS173 w _ g782 t779 t780 t781 from Q3) HO771.o hk)
  have _ := zK (IsS173.rK (show IsS173 w _ g782 t779 t780 t781 from Q3) HO776.o hk)
  have _ := zK (kB hk BK778.o NB778_782.o)
  have _ := zK (Kd.R_lower (Kd.R_newM (M := fun k_ => (w.heap.size ≤ k_)) ho0 (bZ M2) (fun k_ h_ => h_)) (bZ M2))
  have _ := zK (hb)
  have _ := zK (hi)
  clear BK761 HO766 HO771 HO776 BK778 HB HI782
  rename_i BK761 HO766 HO771 HO776 BK778 HO785 HB HI782
  (try clear hb)
  (try clear hb2)
  (try clear hk)
  (try clear hi)
  (try clear ho0)
  refine hK.out _ _ (b8 BK778.o) (fun hHeld => ?_)
  clear hK K
  refine norm_ (a' := ?_) ?_ ?_
  rotate_left
  ·show Act.put _ (some 19) _ = _
   simp only [Act.put, sA, sZ, sS, i64_w, i32_w]
   rfl
  exact norm_ M32 (hJ2 (v784) _ ⟨hHeld, (Kd.qR HO766.o), (Kd.qR HO771.o), (Kd.qR HO776.o), (by (with_reducible repeat (first | apply Kd.RA | apply Kd.RN | apply Kd.RD)); exact Kd.R_mono HO785.o (fun _ hk => hk.1)), (qK BK761.o), (qK BK778.o), M5, M2⟩)
 rintro ⟨v784, v789, v792, v795, v800, v803⟩ w39 ⟨hS_, h0_, h1_, h2_, h3_, h4_, h5_, h6_, h7_, h8_⟩
 have _ : Aside0 (Kd.R (Kd.int .i64) 3 w39 w.heap.size (fun k_ => (w.heap.size ≤ k_) ∧ some k_ ≠ (.slice Ao14 t769.length co14 : Value).ownBlock) (.slice Ao13 t764.length co13) t764) := ⟨h0_⟩
 have _ : Aside0 (Kd.R (Kd.int .i64) 3 w39 w.heap.size (fun k_ => (w.heap.size ≤ k_) ∧ some k_ ≠ (.slice Ao13 t764.length co13 : Value).ownBlock) (.slice Ao14 t769.length co14) t769) := ⟨h1_⟩
 have _ : Aside0 (Kd.R k113 113 w39 w.heap.size (fun k_ => (w.heap.size ≤ k_) ∧ some k_ ≠ (v795 : Value).ownBlock) v784 t783) := ⟨h2_⟩
 have _ : Aside0 (Kd.R k113 113 w39 w.heap.size (fun k_ => (w.heap.size ≤ k_) ∧ some k_ ≠ (v784 : Value).ownBlock) v795 t794) := ⟨h3_⟩
 have _ : Aside0 (Kd.N (Kd.slice 3 (Kd.int .i64)) 24 w39 w.heap.size (fun k_ => (w.heap.size ≤ k_) ∧ some k_ ≠ (.slice Ao13 t764.length co13 : Value).ownBlock ∧ some k_ ≠ (.slice Ao14 t769.length co14 : Value).ownBlock ∧ some k_ ≠ (v784 : Value).ownBlock ∧ some k_ ≠ (v795 : Value).ownBlock ∧ k_ ≠ gb761 ∧ k_ ≠ gb778 ∧ k_ ≠ g782) v803 y802) := ⟨h4_⟩
 have _ : Aside0 (w39.heap[gb761]? = some (.cells #[.int .i64 t762, .int .i64 t763, .slice Ao13 t764.length co13, .int .i64 t767, .int .i64 t768, .slice Ao14 t769.length co14, .int .i64 t772, .int .i64 t773] 41 (0, 0))) := ⟨h5_⟩
 have _ : Aside0 (w39.heap[gb778]? = some (.cells #[.int .i64 t762, .int .i64 t763, .slice Ao13 t764.length co13, .int .i64 t767, .int .i64 t768, .slice Ao14 t769.length co14, .int .i64 t772, .int .i64 t773] 41 (0, 0))) := ⟨h6_⟩
 have _ : Aside0 (IsS173 w w39 g782 t779 t797 t798) := ⟨h7_⟩
 have _ : Aside0 (Below w.heap.size w w39) := ⟨h8_⟩
 clear HO766 HO771 HO776 BK761 BK778 HI782 HB h0_ h1_ h2_ h3_ h4_ h5_ h6_ h7_ h8_
 rename_i HO766 HO771 HO785 HO796 HO804 BK761 BK778 HI782 HB
 have hHeld : w39.cell? ⟨gb778, 0, none⟩ = some (.int .i64 t762) ∧ w39.cell? ⟨gb778, 1, none⟩ = some (.int .i64 t763) ∧ w39.cell? ⟨gb778, 2, none⟩ = some (.slice Ao13 t764.length co13) ∧ w39.cell? ⟨gb778, 3, none⟩ = some (.int .i64 t767) ∧ w39.cell? ⟨gb778, 4, none⟩ = some (.int .i64 t768) ∧ w39.cell? ⟨gb778, 5, none⟩ = some (.slice Ao14 t769.length co14) ∧ w39.cell? ⟨gb778, 6, none⟩ = some (.int .i64 t772) ∧ w39.cell? ⟨gb778, 7, none⟩ = some (.int .i64 t773) := hS_
 refine norm_ (a' := ?_) ?_ ?_
 rotate_left
 ·simp only [putAll, Act.put, sA, sZ, sS]
  rfl
 refine pI 14 (some 3) b17A21 HT_ ?_
 refine pI 15 (some 4) b17A22 HT_ ?_
 refine done_ (done_of HT_.o (by kernel_rfl)) ?_
 try go_wp2
 refine bodyPost_ret (results_ctt rfl _ _ gb761 41 #[.int .i64 t762, .int .i64 t763, .slice Ao13 t764.length co13, .int .i64 t767, .int .i64 t768, .slice Ao14 t769.length co14, .int .i64 t772, .int .i64 t773] (0, 0) _ rfl (qK BK761.o) Try.underlying41 rfl (by kernel_rfl)) rfl ?_
 exact ⟨_, _, _, o0, by exact Kd.qR HO766.o, by exact Kd.qR HO771.o, by (with_reducible repeat (first | apply Kd.N_alloc | apply Kd.N_drewN | apply Kd.N_drew)); exact Kd.N_mono HO804.o (fun _ hk => by (try dsimp only at hk); simp only [hk, ne_eq, not_false_eq_true, and_self]), by repeat (first | (with_reducible first | exact HB.o | apply bA | apply bN | apply b1 | refine bS ?_ (IsS173.ge HI782.o) | refine bS ?_ GE761.o | refine bS ?_ GE778.o) | exact HB.o)⟩

end Go.Proofs.Ytejhjenlodclpaa.PFnHints
