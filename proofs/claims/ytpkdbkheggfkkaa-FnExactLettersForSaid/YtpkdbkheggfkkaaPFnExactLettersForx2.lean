/- Walks of functions that FnExactLettersFor reaches: written by a tool of the kit for this claim, then shortened by a program of ours. -/
import Derived.Test.YtpkdbkheggfkkaaPFnExactLettersForx0
/- narrow -/
namespace Go.Proofs.Ytpkdbkheggfkkaa.PFnExactLettersFor
open Go.RowKit Go.Proofs.YtpkdbkheggfkkaaW.PrintWords Go.Proofs.YtpkdbkheggfkkaaW.PrintLast Go.Proofs.YtpkdbkheggfkkaaW.PrintMore
attribute [local go_sem] max2_int min2_int max_two min_two max_three min_three max_four min_four   -- for this text's walks alone
set_option linter.unusedVariables false
set_option linter.unusedSimpArgs false

/-! ### laws_markFindS: function 31 -/
def laws_markFindS.all (a : Int) : S126 := (⟨⟨a, (wrap64 (a + 1)), (wrap64 ((wrap64 (a + 1)) + 1)), (wrap64 ((wrap64 ((wrap64 (a + 1)) + 1)) + 1)), (wrap64 ((wrap64 ((wrap64 ((wrap64 (a + 1)) + 1)) + 1)) + 1))⟩, (wrap64 ((wrap64 ((wrap64 ((wrap64 ((wrap64 (a + 1)) + 1)) + 1)) + 1)) + 1)), (wrap64 ((wrap64 ((wrap64 ((wrap64 ((wrap64 ((wrap64 (a + 1)) + 1)) + 1)) + 1)) + 1)) + 1)), (wrap64 ((wrap64 ((wrap64 ((wrap64 ((wrap64 ((wrap64 ((wrap64 (a + 1)) + 1)) + 1)) + 1)) + 1)) + 1)) + 1))⟩ : S126)
def laws_markFindS.l0 : Nat → List (S126) → Int → Int → Option (Int × (List (S126)))
 | 0, _, _, _ => none
 | k + 1, x0, x1, x5 => if x5 < (x0.length : Int) then (if 0 ≤ x5 then (laws_markFindS.l0 k (x0.set (x5 : Int).toNat (laws_markFindS.all x1)) (wrap64 ((wrap64 ((wrap64 ((wrap64 ((wrap64 ((wrap64 ((wrap64 ((wrap64 (x1 + 1)) + 1)) + 1)) + 1)) + 1)) + 1)) + 1)) + 1)) (wrap64 (x5 + 1))) else none) else (some (x1, x0))
def laws_markFindS.f (k : Nat) (l0 : List (S126)) (a1 : Int) : Option (Int × (List (S126))) := laws_markFindS.l0 k l0 a1 0
def fCells (x : S126) : List Value := [.int .i64 x.f0.f0, .int .i64 x.f0.f1, .int .i64 x.f0.f2, .int .i64 x.f0.f3, .int .i64 x.f0.f4, .int .i64 x.f1, .int .i64 x.f2, .int .i64 x.f3]
theorem fCell {W : World} {base g n cap : Nat} {ok : Nat → Prop} {xs : List (S126)} (h : Kd.R k126 126 W base ok (.slice (some ⟨g, 0, none⟩) n cap) xs) (i : Int) (h0 : 0 ≤ i) (h1 : i < n) (j : Nat) (hj : j < 8) :
  (∃ u, W.cell? ⟨g, i.toNat * 8 + j, none⟩ = some u) ∧ W.frozen? ⟨g, i.toNat * 8 + j, none⟩ = false := by
 obtain ⟨c, hcl, hM, hcc, hfr⟩ := Kd.R_elem h z126 i h0 h1
 have hl : c.length = 8 := hcl
 exact ⟨⟨c[j], hcc j _ (List.getElem?_eq_getElem (by omega))⟩, hfr j⟩
theorem fPut {W : World} {base g n cap : Nat} {ok : Nat → Prop} {xs : List (S126)} (h : Kd.R k126 126 W base ok (.slice (some ⟨g, 0, none⟩) n cap) xs) (i : Int) (h0 : 0 ≤ i) (h1 : i < n) (j : Nat) (hj : j + 1 ≤ 8) (u : Int) (x' : S126)
  (hx : (fCells (rd_T126 xs i)).take j ++ [.int .i64 u] ++ (fCells (rd_T126 xs i)).drop (j + 1) = fCells x') :
  Kd.R k126 126 (W.setCell ⟨g, i.toNat * 8 + j, none⟩ (.int .i64 u)) base ok (.slice (some ⟨g, 0, none⟩) n cap) (xs.set i.toNat x') ∧ W.grownBy (W.setCell ⟨g, i.toNat * 8 + j, none⟩ (.int .i64 u)) (some g) := by
 obtain ⟨c, hcl, hM, hcc, hfr⟩ := Kd.R_elem h z126 i h0 h1
 obtain rfl := k126_openM hM
 exact Kd.R_seg h i h0 h1 (seg := [.int .i64 u]) (j := j) hcl hcc hj (x' := x') (okp := fun k => ok k ∧ k ≠ g) (by
  have e := k126_mkM W base (fun k => ok k ∧ k ≠ g) x'
  change k126.M W base _ x' (fCells x') at e
  rw [← hx] at e
  exact e) (fun _ hk => hk)
theorem fRd {xs : List (S126)} {i : Int} (h0 : 0 ≤ i) (h1 : i < xs.length) (x : S126) : rd_T126 (xs.set i.toNat x) i = x := by
 show (xs.set i.toNat x).getD i.toNat _ = x
 rw [List.getD_eq_getElem?_getD, List.getElem?_set_self (by omega)]
 rfl
set_option maxHeartbeats 8000000 in
set_option maxRecDepth 100000 in
theorem laws_markFindS.calls (k : Nat) (P0_ : Nat → Prop) (u9000_ : Value) (l0 : List (S126)) (a1 : Int) (r1 : Int) (r2 : List (S126)) (w0 w : World) (hB : Below w0.heap.size w0 w) (ho0 : Kd.R k126 126 w w0.heap.size P0_ u9000_ l0) (h : laws_markFindS.f k l0 a1 = some (r1, r2)) :
  Calls Try.prog 31 #[u9000_, .int .i64 a1] w fun e w' => e = .returned (.int .i64 r1) ∧ Kd.R k126 126 w' w0.heap.size (fun k_ => (P0_ k_ ∨ w.heap.size ≤ k_)) u9000_ r2 ∧ Below w0.heap.size w0 w' ∧ Kept w w' (fun k_ => P0_ k_) := by
 have HO0 := zK (show Kd.R k126 126 w w0.heap.size (fun k_ => (P0_ k_ ∨ w.heap.size ≤ k_)) u9000_ l0 from Kd.R_mono ho0 (fun k_ hk => (.inl hk)))
 have HK := zK (Kept.refl w (fun k_ => P0_ k_))
 have HB := zK hB
 clear hB ho0
 have H' := zK (show laws_markFindS.l0 k l0 a1 0 = some (r1, r2) from h)
 clear h
 go_enter Try.func31, Try.ntmps31
 go_wp2
 go_loopg [1, 5] k (fun kq v1 v5 w' => ∃ (x0_1 : List (S126)) (x1_1 : Int) (x5_1 : Int), v1 = .int .i64 x1_1 ∧ v5 = .int .i64 x5_1 ∧ Aside0 (laws_markFindS.l0 kq x0_1 x1_1 x5_1 = some (r1, r2)) ∧ Aside0 (kq ≤ k) ∧ Aside0 (Kd.R k126 126 w' w0.heap.size (fun k_ => (P0_ k_ ∨ w.heap.size ≤ k_)) u9000_ x0_1) ∧ Aside0 (Kept w w' (fun k_ => P0_ k_)) ∧ Aside0 (Below w0.heap.size w0 w'))
 case atStart => exact ⟨l0, a1, 0, rfl, rfl, H', ⟨Nat.le_refl _⟩, HO0, HK, HB⟩
 case round =>
  clear H' HO0 HK HB
  obtain ⟨x0_1, x1_1, x5_1, rfl, rfl, HA, HK1, HQ, HK, HB⟩ := hrel
  cases gk with
  | zero => exact absurd HA.o (by simp [laws_markFindS.l0])
  | succ k1 =>
   have H := HA.o
   clear HA
   simp only [laws_markFindS.l0] at H
   by_cases c3 : x5_1 < (x0_1.length : Int)
   rotate_left
   ·rw [if_neg c3] at H
    have c3b0 : decide (x5_1 < (x0_1.length : Int)) = false := decide_eq_false c3
    simp only [Option.some.injEq, Prod.mk.injEq] at H
    obtain ⟨rfl, rfl⟩ := H
    obtain ⟨Ao9, co9, eo9⟩ := Kd.R_slice HQ.o
    subst eo9
    go_wp2
    go_ret
    exact ⟨rfl, HQ.o, HB.o, HK.o⟩
   rw [if_pos c3] at H
   have c3b0 : decide (x5_1 < (x0_1.length : Int)) = true := decide_eq_true c3
   by_cases c4 : 0 ≤ x5_1
   rotate_left
   ·rw [if_neg c4] at H
    exact absurd H (by simp)
   rw [if_pos c4] at H
   have c4b0 : decide (0 ≤ x5_1) = true := decide_eq_true c4
   have H' := zK H
   clear H
   obtain ⟨z0, hz0⟩ : ∃ z_, z_ = rd_T126 x0_1 x5_1 := ⟨_, rfl⟩
   obtain ⟨y1, hy1⟩ : ∃ y_ : List (S126), y_ = x0_1.set (x5_1 : Int).toNat (⟨⟨x1_1, z0.f0.f1, z0.f0.f2, z0.f0.f3, z0.f0.f4⟩, z0.f1, z0.f2, z0.f3⟩ : S126) := ⟨_, rfl⟩
   have Ny1 := zK hy1
   have hl1 : y1.length = x0_1.length := by rw [hy1, List.length_set]
   have hr1 : (⟨⟨x1_1, z0.f0.f1, z0.f0.f2, z0.f0.f3, z0.f0.f4⟩, z0.f1, z0.f2, z0.f3⟩ : S126) = rd_T126 y1 x5_1 := by rw [hy1]; exact (fRd c4 (c3) _).symm
   have Nx1 := zK (show (fCells (rd_T126 x0_1 x5_1)).take 0 ++ [.int .i64 x1_1] ++ (fCells (rd_T126 x0_1 x5_1)).drop 1 = fCells (⟨⟨x1_1, z0.f0.f1, z0.f0.f2, z0.f0.f3, z0.f0.f4⟩, z0.f1, z0.f2, z0.f3⟩ : S126) by rw [← hz0]; rfl)
   obtain ⟨y2, hy2⟩ : ∃ y_ : List (S126), y_ = y1.set (x5_1 : Int).toNat (⟨⟨x1_1, (wrap64 (x1_1 + 1)), z0.f0.f2, z0.f0.f3, z0.f0.f4⟩, z0.f1, z0.f2, z0.f3⟩ : S126) := ⟨_, rfl⟩
   have Ny2 := zK hy2
   have hl2 : y2.length = x0_1.length := by rw [hy2, List.length_set, hl1]
   have hr2 : (⟨⟨x1_1, (wrap64 (x1_1 + 1)), z0.f0.f2, z0.f0.f3, z0.f0.f4⟩, z0.f1, z0.f2, z0.f3⟩ : S126) = rd_T126 y2 x5_1 := by rw [hy2]; exact (fRd c4 (by omega) _).symm
   have Nx2 := zK (show (fCells (rd_T126 y1 x5_1)).take 1 ++ [.int .i64 (wrap64 (x1_1 + 1))] ++ (fCells (rd_T126 y1 x5_1)).drop 2 = fCells (⟨⟨x1_1, (wrap64 (x1_1 + 1)), z0.f0.f2, z0.f0.f3, z0.f0.f4⟩, z0.f1, z0.f2, z0.f3⟩ : S126) by rw [← hr1]; rfl)
   obtain ⟨y3, hy3⟩ : ∃ y_ : List (S126), y_ = y2.set (x5_1 : Int).toNat (⟨⟨x1_1, (wrap64 (x1_1 + 1)), (wrap64 ((wrap64 (x1_1 + 1)) + 1)), z0.f0.f3, z0.f0.f4⟩, z0.f1, z0.f2, z0.f3⟩ : S126) := ⟨_, rfl⟩
   have Ny3 := zK hy3
   have hl3 : y3.length = x0_1.length := by rw [hy3, List.length_set, hl2]
   have hr3 : (⟨⟨x1_1, (wrap64 (x1_1 + 1)), (wrap64 ((wrap64 (x1_1 + 1)) + 1)), z0.f0.f3, z0.f0.f4⟩, z0.f1, z0.f2, z0.f3⟩ : S126) = rd_T126 y3 x5_1 := by rw [hy3]; exact (fRd c4 (by omega) _).symm
   have Nx3 := zK (show (fCells (rd_T126 y2 x5_1)).take 2 ++ [.int .i64 (wrap64 ((wrap64 (x1_1 + 1)) + 1))] ++ (fCells (rd_T126 y2 x5_1)).drop 3 = fCells (⟨⟨x1_1, (wrap64 (x1_1 + 1)), (wrap64 ((wrap64 (x1_1 + 1)) + 1)), z0.f0.f3, z0.f0.f4⟩, z0.f1, z0.f2, z0.f3⟩ : S126) by rw [← hr2]; rfl)
   obtain ⟨y4, hy4⟩ : ∃ y_ : List (S126), y_ = y3.set (x5_1 : Int).toNat (⟨⟨x1_1, (wrap64 (x1_1 + 1)), (wrap64 ((wrap64 (x1_1 + 1)) + 1)), (wrap64 ((wrap64 ((wrap64 (x1_1 + 1)) + 1)) + 1)), z0.f0.f4⟩, z0.f1, z0.f2, z0.f3⟩ : S126) := ⟨_, rfl⟩
   have Ny4 := zK hy4
   have hl4 : y4.length = x0_1.length := by rw [hy4, List.length_set, hl3]
   have hr4 : (⟨⟨x1_1, (wrap64 (x1_1 + 1)), (wrap64 ((wrap64 (x1_1 + 1)) + 1)), (wrap64 ((wrap64 ((wrap64 (x1_1 + 1)) + 1)) + 1)), z0.f0.f4⟩, z0.f1, z0.f2, z0.f3⟩ : S126) = rd_T126 y4 x5_1 := by rw [hy4]; exact (fRd c4 (by omega) _).symm
   have Nx4 := zK (show (fCells (rd_T126 y3 x5_1)).take 3 ++ [.int .i64 (wrap64 ((wrap64 ((wrap64 (x1_1 + 1)) + 1)) + 1))] ++ (fCells (rd_T126 y3 x5_1)).drop 4 = fCells (⟨⟨x1_1, (wrap64 (x1_1 + 1)), (wrap64 ((wrap64 (x1_1 + 1)) + 1)), (wrap64 ((wrap64 ((wrap64 (x1_1 + 1)) + 1)) + 1)), z0.f0.f4⟩, z0.f1, z0.f2, z0.f3⟩ : S126) by rw [← hr3]; rfl)
   obtain ⟨y5, hy5⟩ : ∃ y_ : List (S126), y_ = y4.set (x5_1 : Int).toNat (⟨⟨x1_1, (wrap64 (x1_1 + 1)), (wrap64 ((wrap64 (x1_1 + 1)) + 1)), (wrap64 ((wrap64 ((wrap64 (x1_1 + 1)) + 1)) + 1)), (wrap64 ((wrap64 ((wrap64 ((wrap64 (x1_1 + 1)) + 1)) + 1)) + 1))⟩, z0.f1, z0.f2, z0.f3⟩ : S126) := ⟨_, rfl⟩
   have Ny5 := zK hy5
   have hl5 : y5.length = x0_1.length := by rw [hy5, List.length_set, hl4]
   have hr5 : (⟨⟨x1_1, (wrap64 (x1_1 + 1)), (wrap64 ((wrap64 (x1_1 + 1)) + 1)), (wrap64 ((wrap64 ((wrap64 (x1_1 + 1)) + 1)) + 1)), (wrap64 ((wrap64 ((wrap64 ((wrap64 (x1_1 + 1)) + 1)) + 1)) + 1))⟩, z0.f1, z0.f2, z0.f3⟩ : S126) = rd_T126 y5 x5_1 := by rw [hy5]; exact (fRd c4 (by omega) _).symm
   have Nx5 := zK (show (fCells (rd_T126 y4 x5_1)).take 4 ++ [.int .i64 (wrap64 ((wrap64 ((wrap64 ((wrap64 (x1_1 + 1)) + 1)) + 1)) + 1))] ++ (fCells (rd_T126 y4 x5_1)).drop 5 = fCells (⟨⟨x1_1, (wrap64 (x1_1 + 1)), (wrap64 ((wrap64 (x1_1 + 1)) + 1)), (wrap64 ((wrap64 ((wrap64 (x1_1 + 1)) + 1)) + 1)), (wrap64 ((wrap64 ((wrap64 ((wrap64 (x1_1 + 1)) + 1)) + 1)) + 1))⟩, z0.f1, z0.f2, z0.f3⟩ : S126) by rw [← hr4]; rfl)
   obtain ⟨y6, hy6⟩ : ∃ y_ : List (S126), y_ = y5.set (x5_1 : Int).toNat (⟨⟨x1_1, (wrap64 (x1_1 + 1)), (wrap64 ((wrap64 (x1_1 + 1)) + 1)), (wrap64 ((wrap64 ((wrap64 (x1_1 + 1)) + 1)) + 1)), (wrap64 ((wrap64 ((wrap64 ((wrap64 (x1_1 + 1)) + 1)) + 1)) + 1))⟩, (wrap64 ((wrap64 ((wrap64 ((wrap64 ((wrap64 (x1_1 + 1)) + 1)) + 1)) + 1)) + 1)), z0.f2, z0.f3⟩ : S126) := ⟨_, rfl⟩
   have Ny6 := zK hy6
   have hl6 : y6.length = x0_1.length := by rw [hy6, List.length_set, hl5]
   have hr6 : (⟨⟨x1_1, (wrap64 (x1_1 + 1)), (wrap64 ((wrap64 (x1_1 + 1)) + 1)), (wrap64 ((wrap64 ((wrap64 (x1_1 + 1)) + 1)) + 1)), (wrap64 ((wrap64 ((wrap64 ((wrap64 (x1_1 + 1)) + 1)) + 1)) + 1))⟩, (wrap64 ((wrap64 ((wrap64 ((wrap64 ((wrap64 (x1_1 + 1)) + 1)) + 1)) + 1)) + 1)), z0.f2, z0.f3⟩ : S126) = rd_T126 y6 x5_1 := by rw [hy6]; exact (fRd c4 (by omega) _).symm
   have Nx6 := zK (show (fCells (rd_T126 y5 x5_1)).take 5 ++ [.int .i64 (wrap64 ((wrap64 ((wrap64 ((wrap64 ((wrap64 (x1_1 + 1)) + 1)) + 1)) + 1)) + 1))] ++ (fCells (rd_T126 y5 x5_1)).drop 6 = fCells (⟨⟨x1_1, (wrap64 (x1_1 + 1)), (wrap64 ((wrap64 (x1_1 + 1)) + 1)), (wrap64 ((wrap64 ((wrap64 (x1_1 + 1)) + 1)) + 1)), (wrap64 ((wrap64 ((wrap64 ((wrap64 (x1_1 + 1)) + 1)) + 1)) + 1))⟩, (wrap64 ((wrap64 ((wrap64 ((wrap64 ((wrap64 (x1_1 + 1)) + 1)) + 1)) + 1)) + 1)), z0.f2, z0.f3⟩ : S126) by rw [← hr5]; rfl)
   obtain ⟨y7, hy7⟩ : ∃ y_ : List (S126), y_ = y6.set (x5_1 : Int).toNat (⟨⟨x1_1, (wrap64 (x1_1 + 1)), (wrap64 ((wrap64 (x1_1 + 1)) + 1)), (wrap64 ((wrap64 ((wrap64 (x1_1 + 1)) + 1)) + 1)), (wrap64 ((wrap64 ((wrap64 ((wrap64 (x1_1 + 1)) + 1)) + 1)) + 1))⟩, (wrap64 ((wrap64 ((wrap64 ((wrap64 ((wrap64 (x1_1 + 1)) + 1)) + 1)) + 1)) + 1)), (wrap64 ((wrap64 ((wrap64 ((wrap64 ((wrap64 ((wrap64 (x1_1 + 1)) + 1)) + 1)) + 1)) + 1)) + 1)), z0.f3⟩ : S126) := ⟨_, rfl⟩
   have Ny7 := zK hy7
   have hl7 : y7.length = x0_1.length := by rw [hy7, List.length_set, hl6]
   have hr7 : (⟨⟨x1_1, (wrap64 (x1_1 + 1)), (wrap64 ((wrap64 (x1_1 + 1)) + 1)), (wrap64 ((wrap64 ((wrap64 (x1_1 + 1)) + 1)) + 1)), (wrap64 ((wrap64 ((wrap64 ((wrap64 (x1_1 + 1)) + 1)) + 1)) + 1))⟩, (wrap64 ((wrap64 ((wrap64 ((wrap64 ((wrap64 (x1_1 + 1)) + 1)) + 1)) + 1)) + 1)), (wrap64 ((wrap64 ((wrap64 ((wrap64 ((wrap64 ((wrap64 (x1_1 + 1)) + 1)) + 1)) + 1)) + 1)) + 1)), z0.f3⟩ : S126) = rd_T126 y7 x5_1 := by rw [hy7]; exact (fRd c4 (by omega) _).symm
   have Nx7 := zK (show (fCells (rd_T126 y6 x5_1)).take 6 ++ [.int .i64 (wrap64 ((wrap64 ((wrap64 ((wrap64 ((wrap64 ((wrap64 (x1_1 + 1)) + 1)) + 1)) + 1)) + 1)) + 1))] ++ (fCells (rd_T126 y6 x5_1)).drop 7 = fCells (⟨⟨x1_1, (wrap64 (x1_1 + 1)), (wrap64 ((wrap64 (x1_1 + 1)) + 1)), (wrap64 ((wrap64 ((wrap64 (x1_1 + 1)) + 1)) + 1)), (wrap64 ((wrap64 ((wrap64 ((wrap64 (x1_1 + 1)) + 1)) + 1)) + 1))⟩, (wrap64 ((wrap64 ((wrap64 ((wrap64 ((wrap64 (x1_1 + 1)) + 1)) + 1)) + 1)) + 1)), (wrap64 ((wrap64 ((wrap64 ((wrap64 ((wrap64 ((wrap64 (x1_1 + 1)) + 1)) + 1)) + 1)) + 1)) + 1)), z0.f3⟩ : S126) by rw [← hr6]; rfl)
   obtain ⟨y8, hy8⟩ : ∃ y_ : List (S126), y_ = y7.set (x5_1 : Int).toNat (⟨⟨x1_1, (wrap64 (x1_1 + 1)), (wrap64 ((wrap64 (x1_1 + 1)) + 1)), (wrap64 ((wrap64 ((wrap64 (x1_1 + 1)) + 1)) + 1)), (wrap64 ((wrap64 ((wrap64 ((wrap64 (x1_1 + 1)) + 1)) + 1)) + 1))⟩, (wrap64 ((wrap64 ((wrap64 ((wrap64 ((wrap64 (x1_1 + 1)) + 1)) + 1)) + 1)) + 1)), (wrap64 ((wrap64 ((wrap64 ((wrap64 ((wrap64 ((wrap64 (x1_1 + 1)) + 1)) + 1)) + 1)) + 1)) + 1)), (wrap64 ((wrap64 ((wrap64 ((wrap64 ((wrap64 ((wrap64 ((wrap64 (x1_1 + 1)) + 1)) + 1)) + 1)) + 1)) + 1)) + 1))⟩ : S126) := ⟨_, rfl⟩
   have Ny8 := zK hy8
   have hl8 : y8.length = x0_1.length := by rw [hy8, List.length_set, hl7]
   have hr8 : (⟨⟨x1_1, (wrap64 (x1_1 + 1)), (wrap64 ((wrap64 (x1_1 + 1)) + 1)), (wrap64 ((wrap64 ((wrap64 (x1_1 + 1)) + 1)) + 1)), (wrap64 ((wrap64 ((wrap64 ((wrap64 (x1_1 + 1)) + 1)) + 1)) + 1))⟩, (wrap64 ((wrap64 ((wrap64 ((wrap64 ((wrap64 (x1_1 + 1)) + 1)) + 1)) + 1)) + 1)), (wrap64 ((wrap64 ((wrap64 ((wrap64 ((wrap64 ((wrap64 (x1_1 + 1)) + 1)) + 1)) + 1)) + 1)) + 1)), (wrap64 ((wrap64 ((wrap64 ((wrap64 ((wrap64 ((wrap64 ((wrap64 (x1_1 + 1)) + 1)) + 1)) + 1)) + 1)) + 1)) + 1))⟩ : S126) = rd_T126 y8 x5_1 := by rw [hy8]; exact (fRd c4 (by omega) _).symm
   have Nx8 := zK (show (fCells (rd_T126 y7 x5_1)).take 7 ++ [.int .i64 (wrap64 ((wrap64 ((wrap64 ((wrap64 ((wrap64 ((wrap64 ((wrap64 (x1_1 + 1)) + 1)) + 1)) + 1)) + 1)) + 1)) + 1))] ++ (fCells (rd_T126 y7 x5_1)).drop 8 = fCells (⟨⟨x1_1, (wrap64 (x1_1 + 1)), (wrap64 ((wrap64 (x1_1 + 1)) + 1)), (wrap64 ((wrap64 ((wrap64 (x1_1 + 1)) + 1)) + 1)), (wrap64 ((wrap64 ((wrap64 ((wrap64 (x1_1 + 1)) + 1)) + 1)) + 1))⟩, (wrap64 ((wrap64 ((wrap64 ((wrap64 ((wrap64 (x1_1 + 1)) + 1)) + 1)) + 1)) + 1)), (wrap64 ((wrap64 ((wrap64 ((wrap64 ((wrap64 ((wrap64 (x1_1 + 1)) + 1)) + 1)) + 1)) + 1)) + 1)), (wrap64 ((wrap64 ((wrap64 ((wrap64 ((wrap64 ((wrap64 ((wrap64 (x1_1 + 1)) + 1)) + 1)) + 1)) + 1)) + 1)) + 1))⟩ : S126) by rw [← hr7]; rfl)
   have hfin : y8 = x0_1.set (x5_1 : Int).toNat (laws_markFindS.all x1_1) := by rw [hy8, hy7, hy6, hy5, hy4, hy3, hy2, hy1]; simp only [List.set_set]; rfl
   have Nf := zK hfin
   clear hfin hz0 hr1 hr2 hr3 hr4 hr5 hr6 hr7 hr8 hl1 hl2 hl3 hl4 hl5 hl6 hl7 hl8 hy1 hy2 hy3 hy4 hy5 hy6 hy7 hy8
   obtain ⟨g, cap, e, gb, _, _⟩ := Kd.R_form HQ.o (by omega)
   subst e
   have GB5 := zK gb
   have HM5 := zK (HQ.o.1 g rfl)
   have HP5 := zK c4
   have HQ5 := zK c3
   obtain ⟨⟨u0, hx0⟩, hf0⟩ := fCell HQ.o x5_1 c4 c3 0 (by decide)
   replace hx0 : wr.cell? ⟨g, (x5_1 : Int).toNat * 8, none⟩ = some u0 := hx0
   replace hf0 : wr.frozen? ⟨g, (x5_1 : Int).toNat * 8, none⟩ = false := hf0
   have p5 := eq_true c4
   have q5 := eq_true c3
   clear gb c3 c4
   go_wp2_with (first | ((with_reducible refine gate_store (t := 3) (p := 17) rfl ?_); refine store_event (t := 3) (p := 17) (v := ?vo_w1) (w1 := (wr.setCell ⟨g, (x5_1 : Int).toNat * 8, none⟩ (.int .i64 x1_1))) ?hg ?ho ?hn ?hr ?_; (case ho => rfl); (case hg => rfl); (case hn => rfl); (case hr => first | (go_simp; done) | (go_simp; rfl)); intro w1 hw; have hs_ := fPut HQ.o x5_1 HP5.o HQ5.o 0 (by decide) x1_1 _ Nx1.o; have hg : wr.grownBy w1 (some g) := (by rw [hw]; exact hs_.2); have _ := zK (show Kd.R k126 126 w1 w0.heap.size (fun k_ => (P0_ k_ ∨ w.heap.size ≤ k_)) (.slice (some ⟨g, 0, none⟩) x0_1.length cap) y1 from (by rw [hw, Ny1.o]; exact hs_.1)); have _ := zK (show Below w0.heap.size w0 w1 from (by rw [hw]; exact bS (HB.o) GB5.o)); have _ := zK (Kept.of_grown (S := (fun k_ => P0_ k_)) hg HK.o (fun k_ e_ => M29)); clear HQ HB HK hs_ hg hw; rename_i HQ HB HK; obtain ⟨⟨u1, hx1⟩, hf1⟩ := fCell HQ.o x5_1 HP5.o HQ5.o 1 (by decide)) | ((with_reducible refine gate_store (t := 3) (p := 25) rfl ?_); refine store_event (t := 3) (p := 25) (v := ?vo_w2) (w1 := (w1.setCell ⟨g, (x5_1 : Int).toNat * 8 + 1, none⟩ (.int .i64 (wrap64 (x1_1 + 1))))) ?hg ?ho ?hn ?hr ?_; (case ho => rfl); (case hg => rfl); (case hn => rfl); (case hr => first | (go_simp; done) | (go_simp; rfl)); intro w2 hw; have hs_ := fPut HQ.o x5_1 HP5.o HQ5.o 1 (by decide) (wrap64 (x1_1 + 1)) _ Nx2.o; have hg : w1.grownBy w2 (some g) := (by rw [hw]; exact hs_.2); have _ := zK (show Kd.R k126 126 w2 w0.heap.size (fun k_ => (P0_ k_ ∨ w.heap.size ≤ k_)) (.slice (some ⟨g, 0, none⟩) x0_1.length cap) y2 from (by rw [hw, Ny2.o]; exact hs_.1)); have _ := zK (show Below w0.heap.size w0 w2 from (by rw [hw]; exact bS (HB.o) GB5.o)); have _ := zK (Kept.of_grown (S := (fun k_ => P0_ k_)) hg HK.o (fun k_ e_ => M29)); clear HQ HB HK hs_ hg hw; rename_i HQ HB HK; obtain ⟨⟨u2, hx2⟩, hf2⟩ := fCell HQ.o x5_1 HP5.o HQ5.o 2 (by decide)) | ((with_reducible refine gate_store (t := 3) (p := 33) rfl ?_); refine store_event (t := 3) (p := 33) (v := ?vo_w3) (w1 := (w2.setCell ⟨g, (x5_1 : Int).toNat * 8 + 2, none⟩ (.int .i64 (wrap64 ((wrap64 (x1_1 + 1)) + 1))))) ?hg ?ho ?hn ?hr ?_; (case ho => rfl); (case hg => rfl); (case hn => rfl); (case hr => first | (go_simp; done) | (go_simp; rfl)); intro w3 hw; have hs_ := fPut HQ.o x5_1 HP5.o HQ5.o 2 (by decide) (wrap64 ((wrap64 (x1_1 + 1)) + 1)) _ Nx3.o; have hg : w2.grownBy w3 (some g) := (by rw [hw]; exact hs_.2); have _ := zK (show Kd.R k126 126 w3 w0.heap.size (fun k_ => (P0_ k_ ∨ w.heap.size ≤ k_)) (.slice (some ⟨g, 0, none⟩) x0_1.length cap) y3 from (by rw [hw, Ny3.o]; exact hs_.1)); have _ := zK (show Below w0.heap.size w0 w3 from (by rw [hw]; exact bS (HB.o) GB5.o)); have _ := zK (Kept.of_grown (S := (fun k_ => P0_ k_)) hg HK.o (fun k_ e_ => M29)); clear HQ HB HK hs_ hg hw; rename_i HQ HB HK; obtain ⟨⟨u3, hx3⟩, hf3⟩ := fCell HQ.o x5_1 HP5.o HQ5.o 3 (by decide)) | ((with_reducible refine gate_store (t := 3) (p := 41) rfl ?_); refine store_event (t := 3) (p := 41) (v := ?vo_w4) (w1 := (w3.setCell ⟨g, (x5_1 : Int).toNat * 8 + 3, none⟩ (.int .i64 (wrap64 ((wrap64 ((wrap64 (x1_1 + 1)) + 1)) + 1))))) ?hg ?ho ?hn ?hr ?_; (case ho => rfl); (case hg => rfl); (case hn => rfl); (case hr => first | (go_simp; done) | (go_simp; rfl)); intro w4 hw; have hs_ := fPut HQ.o x5_1 HP5.o HQ5.o 3 (by decide) (wrap64 ((wrap64 ((wrap64 (x1_1 + 1)) + 1)) + 1)) _ Nx4.o; have hg : w3.grownBy w4 (some g) := (by rw [hw]; exact hs_.2); have _ := zK (show Kd.R k126 126 w4 w0.heap.size (fun k_ => (P0_ k_ ∨ w.heap.size ≤ k_)) (.slice (some ⟨g, 0, none⟩) x0_1.length cap) y4 from (by rw [hw, Ny4.o]; exact hs_.1)); have _ := zK (show Below w0.heap.size w0 w4 from (by rw [hw]; exact bS (HB.o) GB5.o)); have _ := zK (Kept.of_grown (S := (fun k_ => P0_ k_)) hg HK.o (fun k_ e_ => M29)); clear HQ HB HK hs_ hg hw; rename_i HQ HB HK; obtain ⟨⟨u4, hx4⟩, hf4⟩ := fCell HQ.o x5_1 HP5.o HQ5.o 4 (by decide)) | ((with_reducible refine gate_store (t := 3) (p := 49) rfl ?_); refine store_event (t := 3) (p := 49) (v := ?vo_w5) (w1 := (w4.setCell ⟨g, (x5_1 : Int).toNat * 8 + 4, none⟩ (.int .i64 (wrap64 ((wrap64 ((wrap64 ((wrap64 (x1_1 + 1)) + 1)) + 1)) + 1))))) ?hg ?ho ?hn ?hr ?_; (case ho => rfl); (case hg => rfl); (case hn => rfl); (case hr => first | (go_simp; done) | (go_simp; rfl)); intro w5 hw; have hs_ := fPut HQ.o x5_1 HP5.o HQ5.o 4 (by decide) (wrap64 ((wrap64 ((wrap64 ((wrap64 (x1_1 + 1)) + 1)) + 1)) + 1)) _ Nx5.o; have hg : w4.grownBy w5 (some g) := (by rw [hw]; exact hs_.2); have _ := zK (show Kd.R k126 126 w5 w0.heap.size (fun k_ => (P0_ k_ ∨ w.heap.size ≤ k_)) (.slice (some ⟨g, 0, none⟩) x0_1.length cap) y5 from (by rw [hw, Ny5.o]; exact hs_.1)); have _ := zK (show Below w0.heap.size w0 w5 from (by rw [hw]; exact bS (HB.o) GB5.o)); have _ := zK (Kept.of_grown (S := (fun k_ => P0_ k_)) hg HK.o (fun k_ e_ => M29)); clear HQ HB HK hs_ hg hw; rename_i HQ HB HK; obtain ⟨⟨u5, hx5⟩, hf5⟩ := fCell HQ.o x5_1 HP5.o HQ5.o 5 (by decide)) | ((with_reducible refine gate_store (t := 3) (p := 56) rfl ?_); refine store_event (t := 3) (p := 56) (v := ?vo_w6) (w1 := (w5.setCell ⟨g, (x5_1 : Int).toNat * 8 + 5, none⟩ (.int .i64 (wrap64 ((wrap64 ((wrap64 ((wrap64 ((wrap64 (x1_1 + 1)) + 1)) + 1)) + 1)) + 1))))) ?hg ?ho ?hn ?hr ?_; (case ho => rfl); (case hg => rfl); (case hn => rfl); (case hr => first | (go_simp; done) | (go_simp; rfl)); intro w6 hw; have hs_ := fPut HQ.o x5_1 HP5.o HQ5.o 5 (by decide) (wrap64 ((wrap64 ((wrap64 ((wrap64 ((wrap64 (x1_1 + 1)) + 1)) + 1)) + 1)) + 1)) _ Nx6.o; have hg : w5.grownBy w6 (some g) := (by rw [hw]; exact hs_.2); have _ := zK (show Kd.R k126 126 w6 w0.heap.size (fun k_ => (P0_ k_ ∨ w.heap.size ≤ k_)) (.slice (some ⟨g, 0, none⟩) x0_1.length cap) y6 from (by rw [hw, Ny6.o]; exact hs_.1)); have _ := zK (show Below w0.heap.size w0 w6 from (by rw [hw]; exact bS (HB.o) GB5.o)); have _ := zK (Kept.of_grown (S := (fun k_ => P0_ k_)) hg HK.o (fun k_ e_ => M29)); clear HQ HB HK hs_ hg hw; rename_i HQ HB HK; obtain ⟨⟨u6, hx6⟩, hf6⟩ := fCell HQ.o x5_1 HP5.o HQ5.o 6 (by decide)) | ((with_reducible refine gate_store (t := 3) (p := 63) rfl ?_); refine store_event (t := 3) (p := 63) (v := ?vo_w7) (w1 := (w6.setCell ⟨g, (x5_1 : Int).toNat * 8 + 6, none⟩ (.int .i64 (wrap64 ((wrap64 ((wrap64 ((wrap64 ((wrap64 ((wrap64 (x1_1 + 1)) + 1)) + 1)) + 1)) + 1)) + 1))))) ?hg ?ho ?hn ?hr ?_; (case ho => rfl); (case hg => rfl); (case hn => rfl); (case hr => first | (go_simp; done) | (go_simp; rfl)); intro w7 hw; have hs_ := fPut HQ.o x5_1 HP5.o HQ5.o 6 (by decide) (wrap64 ((wrap64 ((wrap64 ((wrap64 ((wrap64 ((wrap64 (x1_1 + 1)) + 1)) + 1)) + 1)) + 1)) + 1)) _ Nx7.o; have hg : w6.grownBy w7 (some g) := (by rw [hw]; exact hs_.2); have _ := zK (show Kd.R k126 126 w7 w0.heap.size (fun k_ => (P0_ k_ ∨ w.heap.size ≤ k_)) (.slice (some ⟨g, 0, none⟩) x0_1.length cap) y7 from (by rw [hw, Ny7.o]; exact hs_.1)); have _ := zK (show Below w0.heap.size w0 w7 from (by rw [hw]; exact bS (HB.o) GB5.o)); have _ := zK (Kept.of_grown (S := (fun k_ => P0_ k_)) hg HK.o (fun k_ e_ => M29)); clear HQ HB HK hs_ hg hw; rename_i HQ HB HK; obtain ⟨⟨u7, hx7⟩, hf7⟩ := fCell HQ.o x5_1 HP5.o HQ5.o 7 (by decide)) | ((with_reducible refine gate_store (t := 3) (p := 70) rfl ?_); refine store_event (t := 3) (p := 70) (v := ?vo_w8) (w1 := (w7.setCell ⟨g, (x5_1 : Int).toNat * 8 + 7, none⟩ (.int .i64 (wrap64 ((wrap64 ((wrap64 ((wrap64 ((wrap64 ((wrap64 ((wrap64 (x1_1 + 1)) + 1)) + 1)) + 1)) + 1)) + 1)) + 1))))) ?hg ?ho ?hn ?hr ?_; (case ho => rfl); (case hg => rfl); (case hn => rfl); (case hr => first | (go_simp; done) | (go_simp; rfl)); intro w8 hw; have hs_ := fPut HQ.o x5_1 HP5.o HQ5.o 7 (by decide) (wrap64 ((wrap64 ((wrap64 ((wrap64 ((wrap64 ((wrap64 ((wrap64 (x1_1 + 1)) + 1)) + 1)) + 1)) + 1)) + 1)) + 1)) _ Nx8.o; have hg : w7.grownBy w8 (some g) := (by rw [hw]; exact hs_.2); have _ := zK (show Kd.R k126 126 w8 w0.heap.size (fun k_ => (P0_ k_ ∨ w.heap.size ≤ k_)) (.slice (some ⟨g, 0, none⟩) x0_1.length cap) y8 from (by rw [hw, Ny8.o]; exact hs_.1)); have _ := zK (show Below w0.heap.size w0 w8 from (by rw [hw]; exact bS (HB.o) GB5.o)); have _ := zK (Kept.of_grown (S := (fun k_ => P0_ k_)) hg HK.o (fun k_ e_ => M29)); clear HQ HB HK hs_ hg hw; rename_i HQ HB HK))
   go_roundg k1
   case measure => have := HK1.o; omega
   case rel => exact ⟨_, _, (wrap64 (x5_1 + 1)), rfl, rfl, H', ⟨by have := HK1.o; omega⟩, ⟨by have hq := HQ.o; rw [Nf.o] at hq; exact hq⟩, HK, HB⟩
/-! ### impl_InRange: function 120 -/
def impl_InRange.f (a0 : Int) (a1 : Int) (a2 : Int) : Option (Bool) := if a1 ≤ a0 then (some (decide (a0 ≤ a2))) else (some false)
set_option maxHeartbeats 8000000 in
set_option maxRecDepth 100000 in
theorem impl_InRange.calls (a0 : Int) (a1 : Int) (a2 : Int) (r : Bool) (w : World) (h : impl_InRange.f a0 a1 a2 = some r) :
  Calls Try.prog 120 #[.int .i64 a0, .int .i64 a1, .int .i64 a2] w fun e w' => e = .returned (.bool r) ∧ Drawn0 w w' := by
 have H : (if a1 ≤ a0 then (some (decide (a0 ≤ a2))) else (some false)) = some r := h
 clear h
 by_cases c4 : a1 ≤ a0
 ·rw [if_pos c4] at H
  have c4b0 : decide (a1 ≤ a0) = true := decide_eq_true c4
  clear c4
  obtain rfl := Option.some.inj H
  go_enter Try.func120, Try.ntmps120
  go_wp2
  go_ret
  exact ⟨by first | rfl | (simp; done) | (simp [*]; done), by repeat (first | exact Drawn0.refl _ | apply Drawn0.step)⟩
 rw [if_neg c4] at H
 have c4b0 : decide (a1 ≤ a0) = false := decide_eq_false c4
 clear c4
 obtain rfl := Option.some.inj H
 go_enter Try.func120, Try.ntmps120
 go_wp2
 go_ret
 exact ⟨by first | rfl | (simp; done) | (simp [*]; done), by repeat (first | exact Drawn0.refl _ | apply Drawn0.step)⟩

end Go.Proofs.Ytpkdbkheggfkkaa.PFnExactLettersFor
