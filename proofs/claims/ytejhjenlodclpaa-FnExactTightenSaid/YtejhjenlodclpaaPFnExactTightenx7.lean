/- Walks of functions that FnExactTighten reaches: written by a tool of the kit for this claim, then shortened by a program of ours. -/
import Derived.Test.YtejhjenlodclpaaPFnExactTightenx0
/- narrow -/
namespace Go.Proofs.Ytejhjenlodclpaa.PFnExactTighten
open Go.RowKit Go.Proofs.YtejhjenlodclpaaW.PrintWords Go.Proofs.YtejhjenlodclpaaW.PrintLast Go.Proofs.YtejhjenlodclpaaW.PrintMore
attribute [local go_sem] max2_int min2_int max_two min_two max_three min_three max_four min_four   -- for this text's walks alone
set_option linter.unusedVariables false
set_option linter.unusedSimpArgs false

abbrev b7A0 : Array Bool := #[bo, bo, bo, bo, bo, bo, bo, bo, bo, bo, bo, bo, bo, bo, bo, bo]
abbrev b7A1 : Array Bool := #[bo, bi, bo, bo, bo, bo, bo, bo, bo, bo, bo, bo, bo, bo, bo, bo]
abbrev b7A2 : Array Bool := #[bo, bi, bi, bo, bo, bo, bo, bo, bo, bo, bo, bo, bo, bo, bo, bo]
abbrev b7A3 : Array Bool := #[bo, bi, bi, bi, bo, bo, bo, bo, bo, bo, bo, bo, bo, bo, bo, bo]
abbrev b7A4 : Array Bool := #[bo, bi, bi, bi, bo, bi, bo, bo, bo, bo, bo, bo, bo, bo, bo, bo]
abbrev b7A5 : Array Bool := #[bo, bi, bi, bi, bo, bi, bi, bo, bo, bo, bo, bo, bo, bo, bo, bo]
abbrev b7A6 : Array Bool := #[bo, bi, bi, bi, bo, bi, bi, bi, bo, bo, bo, bo, bo, bo, bo, bo]
abbrev b7A7 : Array Bool := #[bo, bi, bi, bi, bo, bi, bi, bi, bo, bo, bo, bi, bo, bo, bo, bo]
abbrev b7A8 : Array Bool := #[bo, bi, bi, bi, bo, bi, bi, bi, bo, bo, bo, bi, bi, bo, bo, bo]
abbrev b7A9 : Array Bool := #[bo, bi, bi, bi, bo, bi, bi, bi, bo, bo, bo, bi, bi, bi, bo, bo]
abbrev b7A10 : Array Bool := #[bo, bi, bi, bi, bo, bi, bi, bi, bi, bo, bo, bi, bi, bi, bo, bo]
abbrev b7A11 : Array Bool := #[bi, bi, bi, bi, bi, bi, bi, bi, bi, bi, bo, bi, bi, bi, bo, bo]
abbrev b7A12 : Array Bool := #[bi, bi, bi, bi, bo, bi, bi, bi, bi, bo, bo, bi, bi, bi, bo, bo]
abbrev b7A13 : Array Bool := #[bo, bi, bi, bi, bo, bi, bi, bi, bi, bi, bo, bi, bi, bi, bo, bo]
abbrev b7A14 : Array Bool := #[bi, bi, bi, bi, bi, bi, bi, bi, bi, bo, bo, bi, bi, bi, bo, bo]
abbrev b7A15 : Array Bool := #[bi, bi, bi, bi, bo, bi, bi, bi, bi, bi, bo, bi, bi, bi, bo, bo]
abbrev b7A16 : Array Bool := #[bi, bi, bi, bi, bi, bi, bi, bi, bi, bi, bi, bi, bi, bi, bo, bo]
abbrev b7A17 : Array Bool := #[bi, bi, bi, bi, bi, bi, bi, bi, bi, bi, bi, bi, bi, bi, bi, bo]
abbrev b7A18 : Array Bool := #[bi, bi, bi, bi, bi, bi, bi, bi, bi, bi, bi, bi, bi, bi, bi, bi]
/-! ### spec_l15Sorted: function 157: an insertion sort over slices that are made anew -/
def spec_l15Sorted.lt (x y : S111) : Bool := decide (y.f3 < x.f3)
def spec_l15Sorted.put (l0 : List (S111)) (l1 : List (S111)) (l2 : List (S111)) (l3 : List (S111)) (a4 : Int) (a5 : Int) : Option ((List (S111))) := (some (([] : List (S111)) : List (S111))).bind fun y176 => (if 0 ≤ a5 then (if a5 ≤ (l3.length : Int) then ((some (l3.take (a5 : Int).toNat : List (S111))).bind fun y179 => (if y176.length + y179.length < 3518437208883 then ((some (y176 ++ y179 : List (S111))).bind fun y183 => (if 0 ≤ a4 then (if a4 < (l0.length : Int) then ((some (([(⟨(rd_T111 l0 a4).f0, (rd_T111 l0 a4).f1, (rd_T111 l0 a4).f2, (rd_T111 l0 a4).f3, (rd_T111 l0 a4).f4⟩ : S111)] : List (S111)) : List (S111))).bind fun y187 => (if y183.length + y187.length < 3518437208883 then ((some (y183 ++ y187 : List (S111))).bind fun y190 => ((some (l3.drop (a5 : Int).toNat : List (S111))).bind fun y193 => (if y190.length + y193.length < 3518437208883 then (some (y190 ++ y193)) else (none)))) else (none))) else (none)) else (none))) else (none))) else (none)) else (none))
def spec_l15Sorted.T8 : Bool × List (List Nat × List Nat) := (true, [([], []), ([], []), ([], []), ([1, 2], [1, 2]), ([0, 3], [0, 3]), ([], []), ([], []), ([5, 6], [5, 6]), ([7], [7]), ([8], [8]), ([4, 9, 4], [4, 9]), ([], []), ([], []), ([11, 12], [11, 12]), ([10, 13, 10], [10, 13]), ([14, 14, 0, 1, 2, 3, 4, 5, 6, 7, 8, 9, 10, 11, 12, 13, 14], [1, 11, 14])])
def spec_l15Sorted.B8 : List Nat := [0, 0, 0, 6, 15, 0, 0, 96, 224, 480, 1023, 0, 0, 6144, 16383, 32767]
theorem spec_l15Sorted.tab8 : rtab .any (opsOf Try.f157 8) = spec_l15Sorted.T8 := by kernel_rfl
theorem spec_l15Sorted.bits8 : waitsOk spec_l15Sorted.T8.2 spec_l15Sorted.B8 = true := by kernel_rfl
theorem spec_l15Sorted.step (out : List (S111)) (x : S111) (j : Nat) (hj : j < out.length) (hl : (out.getD j z111).f3 < x.f3) : Go.Proofs.Ytejhjenlodclpaa.SlcK.insEnd spec_l15Sorted.lt (out.take (j + 1)) x ++ out.drop (j + 1) = Go.Proofs.Ytejhjenlodclpaa.SlcK.insEnd spec_l15Sorted.lt (out.take j) x ++ out.drop j := by
 have e : out.getD j z111 = out[j] := by rw [List.getD_eq_getElem?_getD, List.getElem?_eq_getElem hj]; rfl
 rw [e] at hl
 rw [List.take_succ_eq_append_getElem hj, List.drop_eq_getElem_cons hj]
 unfold Go.Proofs.Ytejhjenlodclpaa.SlcK.insEnd
 rw [List.reverse_append, List.reverse_singleton, List.singleton_append, Go.Proofs.Ytejhjenlodclpaa.SlcK.insRev, if_pos (show spec_l15Sorted.lt x out[j] = true from decide_eq_true hl)]
 simp
theorem spec_l15Sorted.stop (out : List (S111)) (x : S111) (j : Nat) (hj : j ≤ out.length) (hl : j = 0 ∨ ¬ (out.getD (j - 1) z111).f3 < x.f3) : Go.Proofs.Ytejhjenlodclpaa.SlcK.insEnd spec_l15Sorted.lt (out.take j) x ++ out.drop j = out.take j ++ [x] ++ out.drop j := by
 rcases Nat.eq_zero_or_pos j with rfl | hp
 ·simp [Go.Proofs.Ytejhjenlodclpaa.SlcK.insEnd, Go.Proofs.Ytejhjenlodclpaa.SlcK.insRev]
 ·obtain ⟨m, rfl⟩ : ∃ m, j = m + 1 := ⟨j - 1, by omega⟩
  rcases hl with hl | hl
  ·omega
  rw [Nat.add_sub_cancel] at hl
  have hm : m < out.length := by omega
  have e : out.getD m z111 = out[m] := by rw [List.getD_eq_getElem?_getD, List.getElem?_eq_getElem hm]; rfl
  rw [e] at hl
  have h2 : Go.Proofs.Ytejhjenlodclpaa.SlcK.insEnd spec_l15Sorted.lt (out.take (m + 1)) x = out.take (m + 1) ++ [x] := by
   rw [List.take_succ_eq_append_getElem hm]
   unfold Go.Proofs.Ytejhjenlodclpaa.SlcK.insEnd
   rw [List.reverse_append, List.reverse_singleton, List.singleton_append, Go.Proofs.Ytejhjenlodclpaa.SlcK.insRev, if_neg (show ¬ spec_l15Sorted.lt x out[m] = true from fun q => hl (oD q))]
   simp
  rw [h2]
theorem spec_l15Sorted.put_eq (l0 out : List (S111)) (i j : Nat) (hi : i < l0.length) (hj : j ≤ out.length) (ho : out.length < 1099511627776) : spec_l15Sorted.put l0 [] [] out (i : Int) (j : Int) = some (out.take j ++ [rd_T111 l0 (i : Int)] ++ out.drop j) := by
 unfold spec_l15Sorted.put
 simp only [Option.bind_some, Int.toNat_natCast, List.nil_append, List.length_nil, List.length_append, List.length_take, List.length_drop, List.length_singleton]
 repeat rw [if_pos (by omega)]
 all_goals rfl
theorem spec_l15Sorted.next (l0 : List (S111)) (i : Nat) (hi : i < l0.length) : Go.Proofs.Ytejhjenlodclpaa.SlcK.insEnd spec_l15Sorted.lt (Go.Proofs.Ytejhjenlodclpaa.SlcK.inSort spec_l15Sorted.lt (l0.take i)) (rd_T111 l0 (i : Int)) = Go.Proofs.Ytejhjenlodclpaa.SlcK.inSort spec_l15Sorted.lt (l0.take (i + 1)) := by
 have e : rd_T111 l0 (i : Int) = l0[i] := by
  unfold rd_T111
  rw [Int.toNat_natCast, List.getD_eq_getElem?_getD, List.getElem?_eq_getElem hi]; rfl
 rw [e, List.take_succ_eq_append_getElem hi]
 unfold Go.Proofs.Ytejhjenlodclpaa.SlcK.inSort
 rw [List.foldl_append]
 rfl
theorem in_len {α : Type} (lt : α → α → Bool) (l : List α) : (Go.Proofs.Ytejhjenlodclpaa.SlcK.inSort lt l).length = l.length := by
 cases l with
 | nil => rfl
 | cons x l => haveI : Inhabited α := ⟨x⟩; exact Go.Proofs.Ytejhjenlodclpaa.SlcK.inSort_length lt (x :: l)
def spec_l15Sorted.f (l0 : List (S111)) : Option (List (S111)) := if l0.length < 1099511627776 then some (Go.Proofs.Ytejhjenlodclpaa.SlcK.inSort spec_l15Sorted.lt l0) else none
set_option maxHeartbeats 16000000 in
set_option maxRecDepth 100000 in
theorem spec_l15Sorted.calls (A0 : Option Addr) (c0 : Nat) (l0 : List (S111)) (r : List (S111)) (w : World) (hr0 : Kd.C k111 w A0 l0.length l0) (hc0 : l0.length ≤ c0) (h : spec_l15Sorted.f l0 = some r) :
  Calls Try.prog 157 #[.slice A0 l0.length c0] w fun e w' => ∃ v0_ : Value, e = .returned (v0_) ∧ Kd.R k111 111 w' w.heap.size (fun _ => True) v0_ r ∧ Below w.heap.size w w' := by
 obtain ⟨wB, hwB⟩ : ∃ wB, wB = w := ⟨_, rfl⟩
 subst hwB
 have hu111 := Try.underlying111
 have HRB := zK hr0
 have HC0 := zK hc0
 clear hr0 hc0
 have HBw := zK (Below.refl wB.heap.size wB)
 unfold spec_l15Sorted.f at h
 split at h
 rotate_left
 ·cases h
 rename_i hl0
 have HRES := zK (Option.some.inj h)
 clear h
 have hl0z : (l0.length : Int) < 1099511627776 := by omega
 go_enter Try.func157, Try.ntmps157
 go_wp2_with ((with_reducible refine gate_dst (N := 6) rfl ?_); refine Kd.R_lit k111 _ 111 rfl (N := 6) rfl (xs := ([] : List (S111))) (inner := []) (ok := fun _ => True) (okp := fun _ => True) (by first | (go_simp; done) | (go_simp; rfl)) (Reps.none _ _) (fun _ hk => hk) trivial (Below.refl _ _) (Nat.le_refl _) (by simp) ?_; intro v0_ w1 ho hb hg_ hnew_; have HO := zK ho; have HBn := zK hb; clear ho hb hg_ hnew_ HBw; have HBw := HBn; clear HBn)
 go_loopg [3, 4] l0.length (fun gk v3 v4 w' => ∃ (out : List (S111)) (i : Nat) (a4 : Int), v4 = .int .i64 a4 ∧ Aside0 (a4 = (i : Int)) ∧ i ≤ l0.length ∧ l0.length - i ≤ gk ∧ Aside0 (Kd.R k111 111 w' wB.heap.size (fun _ => True) v3 out) ∧ Aside0 (out = Go.Proofs.Ytejhjenlodclpaa.SlcK.inSort spec_l15Sorted.lt (l0.take i)) ∧ Aside0 (Below wB.heap.size wB w'))
 case atStart => exact ⟨[], 0, 0, (by first | rfl | (simp; done)), ⟨rfl⟩, by omega, by omega, HO, ⟨rfl⟩, HBw⟩
 case round =>
  clear HO HBw
  obtain ⟨out, i, a4, rfl, HA4, hi, hg1, HO, HOUT, HBw⟩ := hrel
  obtain ⟨gka, hgka⟩ : ∃ g_, g_ = gk := ⟨_, rfl⟩
  obtain ⟨A3, c3, e3, hc3, hR3⟩ := Kd.R_reads HO.out
  subst e3
  have HC3 := zK hc3
  have HRO := zK hR3
  clear hc3 hR3
  have hlen : Aside0 (out.length = i) := ⟨by rw [HOUT.out, in_len, List.length_take]; omega⟩
  by_cases hlt : i < l0.length
  rotate_left
  ·have c1 : decide (a4 < (l0.length : Int)) = false := decide_eq_false (by have := HA4.out; omega)
   go_wp2
   go_ret
   have e : out = r := by rw [HOUT.out, ← HRES.out, List.take_of_length_le (by omega)]
   subst e
   exact ⟨_, rfl, HO.out, HBw.out⟩
  have c1 : decide (a4 < (l0.length : Int)) = true := decide_eq_true (by have := HA4.out; omega)
  obtain ⟨adx, ex, hx_0, hx_1, hx_2, hx_3, hx_4⟩ := at_T111 HRB.out a4 (by have := HA4.out; omega) (by have := HA4.out; omega)
  subst ex
  replace hx_0 := (HBw.out.cell (World.block_lt_of_cell? wB _ hx_0)).trans hx_0
  replace hx_1 := (HBw.out.cell (World.block_lt_of_cell? wB _ hx_1)).trans hx_1
  replace hx_2 := (HBw.out.cell (World.block_lt_of_cell? wB _ hx_2)).trans hx_2
  replace hx_3 := (HBw.out.cell (World.block_lt_of_cell? wB _ hx_3)).trans hx_3
  replace hx_4 := (HBw.out.cell (World.block_lt_of_cell? wB _ hx_4)).trans hx_4
  obtain ⟨x, hx⟩ : ∃ x, x = rd_T111 l0 a4 := ⟨_, rfl⟩
  have HX := zK hx
  clear hx
  have pi : (0 ≤ a4) = True := eq_true (by have := HA4.out; omega)
  have qi : (a4 < (l0.length : Int)) = True := eq_true (by have := HA4.out; omega)
  go_wp2
  go_loopg [5] out.length (fun g2 v5 w' => ∃ (j : Nat) (a5 : Int), v5 = .int .i64 a5 ∧ Aside0 (a5 = (j : Int)) ∧ Aside0 (j ≤ out.length) ∧ Aside0 (j ≤ g2) ∧ Aside0 (Go.Proofs.Ytejhjenlodclpaa.SlcK.insEnd spec_l15Sorted.lt out x = Go.Proofs.Ytejhjenlodclpaa.SlcK.insEnd spec_l15Sorted.lt (out.take j) x ++ out.drop j) ∧ Aside0 (Drawn0 wr w'))
  case atStart => exact ⟨out.length, out.length, (by first | rfl | (simp; done)), ⟨rfl⟩, ⟨Nat.le_refl _⟩, ⟨Nat.le_refl _⟩, ⟨by simp⟩, ⟨Drawn0.refl _⟩⟩
  case round =>
   obtain ⟨j, a5, rfl, HA5, HJ, HG2, HI, HD⟩ := hrel
   obtain ⟨nd, hnd⟩ := HD.out.out
   subst hnd
   rcases Nat.eq_zero_or_pos j with hp | hp
   case' inl =>
    have cj : decide (0 < a5) = false := decide_eq_false (by have := HA5.out; omega)
    have HST : Aside0 (j = 0 ∨ ¬ (out.getD (j - 1) z111).f3 < x.f3) := ⟨.inl (by omega)⟩
    go_wp2
    repeat (go_quiet (fail); try go_wp2)
   case' inr =>
    have cj : decide (0 < a5) = true := decide_eq_true (by have := HA5.out; omega)
    obtain ⟨q, hq⟩ : ∃ q : Int, q = a5 - 1 := ⟨_, rfl⟩
    have hq0 : q = (j : Int) - 1 := by have := HA5.out; omega
    have es : wrap64 (a5 - 1) = q := by have := hlen.out; have := HJ.out; have := HA5.out; unfold wrap64; omega
    have es2 : IntKind.i64.wrap (a5 - 1) = q := by rw [i64_w]; exact es
    have pj : (0 ≤ q) = True := eq_true (by omega)
    have qj : (q < (out.length : Int)) = True := eq_true (by have := HJ.out; omega)
    obtain ⟨ady, ey, hy_0, hy_1, hy_2, hy_3, hy_4⟩ := at_T111 HRO.out q (by omega) (by have := HJ.out; omega)
    have HQ := zK hq0
    clear hq hq0
    subst ey
    by_cases hl : (rd_T111 out q).f3 < (rd_T111 l0 a4).f3
    ·have cl : decide ((rd_T111 out q).f3 < (rd_T111 l0 a4).f3) = true := decide_eq_true hl
     go_wp2
     repeat (go_quiet (fail); try go_wp2)
     go_roundg (gk - 1)
     case measure => have := HG2.out; omega
     case rel => exact ⟨j - 1, q, (by first | rfl | (simp; done)), ⟨by have := HQ.out; omega⟩, ⟨by have := HJ.out; omega⟩, ⟨by have := HG2.out; omega⟩, ⟨by
      rw [HI.out]
      have h1 := spec_l15Sorted.step out x (j - 1) (by have := HJ.out; omega) (by rw [show j - 1 = q.toNat by have := HQ.out; omega, HX.out]; exact hl)
      rw [show j - 1 + 1 = j by omega] at h1
      exact h1⟩, ⟨by first | exact HD.out.step _ | exact ⟨⟨_, rfl⟩⟩⟩⟩
    have cl : decide ((rd_T111 out q).f3 < (rd_T111 l0 a4).f3) = false := decide_eq_false hl
    have HST : Aside0 (j = 0 ∨ ¬ (out.getD (j - 1) z111).f3 < x.f3) := ⟨.inr (by rw [show j - 1 = q.toNat by have := HQ.out; omega, HX.out]; exact hl)⟩
    go_wp2
    repeat (go_quiet (fail); try go_wp2)
    clear hy_0 hy_1 hy_2 hy_3 hy_4 pj qj es es2 cl hl
    generalize (some ady : Option Addr) = A3 at HRO ⊢
   all_goals
    clear cj hp
    obtain ⟨rn, hrn⟩ : ∃ r_ : List (S111), r_ = out.take j ++ [x] ++ out.drop j := ⟨_, rfl⟩
    have HN := zK (show rn = Go.Proofs.Ytejhjenlodclpaa.SlcK.inSort spec_l15Sorted.lt (l0.take (i + 1)) by
     rw [hrn, ← spec_l15Sorted.next l0 i hlt, ← HOUT.out, ← HA4.out, ← HX.out, HI.out]
     exact (spec_l15Sorted.stop out x j HJ.out (by have := HST.out; omega)).symm)
    have h : spec_l15Sorted.put l0 [] [] out a4 a5 = some rn := by
     rw [hrn, HX.out, HA4.out, HA5.out]
     exact spec_l15Sorted.put_eq l0 out i j hlt HJ.out (by have := hlen.out; omega)
    clear hrn HI HST
    generalize hw : (wr.drewN nd).drewN nq = w
    have HDW := zK (show Below wr.heap.size wr w by rw [← hw]; exact (HD.out.step nq).below)
    have HBb := zK (bT HBw.out HDW.out)
    have HR0 := zK (Kd.C_below HRB.out HBb.out)
    have HR3 := zK (Kd.C_below HRO.out HDW.out)
    have HB := zK (Below.refl w.heap.size w)
    clear hw HRO
    generalize hA0 : (some adx : Option Addr) = A0 at HR0 ⊢
    have H : ((some (([] : List (S111)) : List (S111))).bind fun y176 => (if 0 ≤ a5 then (if a5 ≤ (out.length : Int) then ((some (out.take (a5 : Int).toNat : List (S111))).bind fun y179 => (if y176.length + y179.length < 3518437208883 then ((some (y176 ++ y179 : List (S111))).bind fun y183 => (if 0 ≤ a4 then (if a4 < (l0.length : Int) then ((some (([(⟨(rd_T111 l0 a4).f0, (rd_T111 l0 a4).f1, (rd_T111 l0 a4).f2, (rd_T111 l0 a4).f3, (rd_T111 l0 a4).f4⟩ : S111)] : List (S111)) : List (S111))).bind fun y187 => (if y183.length + y187.length < 3518437208883 then ((some (y183 ++ y187 : List (S111))).bind fun y190 => ((some (out.drop (a5 : Int).toNat : List (S111))).bind fun y193 => (if y190.length + y193.length < 3518437208883 then (some (y190 ++ y193)) else (none)))) else (none))) else (none)) else (none))) else (none))) else (none)) else (none))) = some rn := h
    clear h
    obtain ⟨y176, hy176⟩ : ∃ y_ : List (S111), y_ = (([] : List (S111))) := ⟨_, rfl⟩
    replace H : (if 0 ≤ a5 then (if a5 ≤ (out.length : Int) then ((some (out.take (a5 : Int).toNat : List (S111))).bind fun y179 => (if y176.length + y179.length < 3518437208883 then ((some (y176 ++ y179 : List (S111))).bind fun y183 => (if 0 ≤ a4 then (if a4 < (l0.length : Int) then ((some (([(⟨(rd_T111 l0 a4).f0, (rd_T111 l0 a4).f1, (rd_T111 l0 a4).f2, (rd_T111 l0 a4).f3, (rd_T111 l0 a4).f4⟩ : S111)] : List (S111)) : List (S111))).bind fun y187 => (if y183.length + y187.length < 3518437208883 then ((some (y183 ++ y187 : List (S111))).bind fun y190 => ((some (out.drop (a5 : Int).toNat : List (S111))).bind fun y193 => (if y190.length + y193.length < 3518437208883 then (some (y190 ++ y193)) else (none)))) else (none))) else (none)) else (none))) else (none))) else (none)) else (none)) = some rn := by first | (rw [hy176]; with_reducible exact H) | (have H2_ := (Option.bind_some _ _).symm.trans H; rw [hy176]; with_reducible exact H2_) | (have H2_ := (Option.bind_some _ _).symm.trans H; with_reducible exact H2_) | with_reducible exact H | (rw [hy176]; exact H) | exact H
    have Ny176 := zK hy176
    clear hy176
    by_cases c7 : 0 ≤ a5
    rotate_left
    ·rw [if_neg c7] at H
     exact absurd H (by simp)

    rw [if_pos c7] at H
    have c7b0 := eq_true c7
    have c7b1 : decide (0 ≤ a5) = true := decide_eq_true c7
    clear c7
    by_cases c8 : a5 ≤ (out.length : Int)
    rotate_left
    ·rw [if_neg c8] at H
     exact absurd H (by simp)
    rw [if_pos c8] at H
    have c8b0 := eq_true c8
    have c8b1 : decide (a5 ≤ (out.length : Int)) = true := decide_eq_true c8
    clear c8
    obtain ⟨y179, hy179⟩ : ∃ y_ : List (S111), y_ = (out.take (a5 : Int).toNat) := ⟨_, rfl⟩
    replace H : (if y176.length + y179.length < 3518437208883 then ((some (y176 ++ y179 : List (S111))).bind fun y183 => (if 0 ≤ a4 then (if a4 < (l0.length : Int) then ((some (([(⟨(rd_T111 l0 a4).f0, (rd_T111 l0 a4).f1, (rd_T111 l0 a4).f2, (rd_T111 l0 a4).f3, (rd_T111 l0 a4).f4⟩ : S111)] : List (S111)) : List (S111))).bind fun y187 => (if y183.length + y187.length < 3518437208883 then ((some (y183 ++ y187 : List (S111))).bind fun y190 => ((some (out.drop (a5 : Int).toNat : List (S111))).bind fun y193 => (if y190.length + y193.length < 3518437208883 then (some (y190 ++ y193)) else (none)))) else (none))) else (none)) else (none))) else (none)) = some rn := by first | (rw [hy179]; with_reducible exact H) | (have H2_ := (Option.bind_some _ _).symm.trans H; rw [hy179]; with_reducible exact H2_) | (have H2_ := (Option.bind_some _ _).symm.trans H; with_reducible exact H2_) | with_reducible exact H | (rw [hy179]; exact H) | exact H
    have Ny179 := zK hy179
    clear hy179
    by_cases c9 : y176.length + y179.length < 3518437208883
    rotate_left
    ·rw [if_neg c9] at H
     exact absurd H (by simp)
    rw [if_pos c9] at H
    have LMc9 := zK c9
    clear c9
    obtain ⟨y183, hy183⟩ : ∃ y_ : List (S111), y_ = (y176 ++ y179) := ⟨_, rfl⟩
    replace H : (if 0 ≤ a4 then (if a4 < (l0.length : Int) then ((some (([(⟨(rd_T111 l0 a4).f0, (rd_T111 l0 a4).f1, (rd_T111 l0 a4).f2, (rd_T111 l0 a4).f3, (rd_T111 l0 a4).f4⟩ : S111)] : List (S111)) : List (S111))).bind fun y187 => (if y183.length + y187.length < 3518437208883 then ((some (y183 ++ y187 : List (S111))).bind fun y190 => ((some (out.drop (a5 : Int).toNat : List (S111))).bind fun y193 => (if y190.length + y193.length < 3518437208883 then (some (y190 ++ y193)) else (none)))) else (none))) else (none)) else (none)) = some rn := by first | (rw [hy183]; with_reducible exact H) | (have H2_ := (Option.bind_some _ _).symm.trans H; rw [hy183]; with_reducible exact H2_) | (have H2_ := (Option.bind_some _ _).symm.trans H; with_reducible exact H2_) | with_reducible exact H | (rw [hy183]; exact H) | exact H
    have Ny183 := zK hy183
    clear hy183
    by_cases c10 : 0 ≤ a4
    rotate_left
    ·rw [if_neg c10] at H
     exact absurd H (by simp)
    rw [if_pos c10] at H
    have c10b0 : decide (0 ≤ a4) = true := decide_eq_true c10
    clear c10
    by_cases c11 : a4 < (l0.length : Int)
    rotate_left
    ·rw [if_neg c11] at H
     exact absurd H (by simp)
    rw [if_pos c11] at H
    have c11b0 : decide (a4 < (l0.length : Int)) = true := decide_eq_true c11
    clear c11
    obtain ⟨y187, hy187⟩ : ∃ y_ : List (S111), y_ = (([(⟨(rd_T111 l0 a4).f0, (rd_T111 l0 a4).f1, (rd_T111 l0 a4).f2, (rd_T111 l0 a4).f3, (rd_T111 l0 a4).f4⟩ : S111)] : List (S111))) := ⟨_, rfl⟩
    replace H : (if y183.length + y187.length < 3518437208883 then ((some (y183 ++ y187 : List (S111))).bind fun y190 => ((some (out.drop (a5 : Int).toNat : List (S111))).bind fun y193 => (if y190.length + y193.length < 3518437208883 then (some (y190 ++ y193)) else (none)))) else (none)) = some rn := by first | (rw [hy187]; with_reducible exact H) | (have H2_ := (Option.bind_some _ _).symm.trans H; rw [hy187]; with_reducible exact H2_) | (have H2_ := (Option.bind_some _ _).symm.trans H; with_reducible exact H2_) | with_reducible exact H | (rw [hy187]; exact H) | exact H
    have Ny187 := zK hy187
    clear hy187
    by_cases c12 : y183.length + y187.length < 3518437208883
    rotate_left
    ·rw [if_neg c12] at H
     exact absurd H (by simp)
    rw [if_pos c12] at H
    have LMc12 := zK c12
    clear c12
    obtain ⟨y190, hy190⟩ : ∃ y_ : List (S111), y_ = (y183 ++ y187) := ⟨_, rfl⟩
    replace H : ((some (out.drop (a5 : Int).toNat : List (S111))).bind fun y193 => (if y190.length + y193.length < 3518437208883 then (some (y190 ++ y193)) else (none))) = some rn := by first | (rw [hy190]; with_reducible exact H) | (have H2_ := (Option.bind_some _ _).symm.trans H; rw [hy190]; with_reducible exact H2_) | (have H2_ := (Option.bind_some _ _).symm.trans H; with_reducible exact H2_) | with_reducible exact H | (rw [hy190]; exact H) | exact H
    have Ny190 := zK hy190
    clear hy190
    have c13b0 := eq_true (oD (by first | (with_reducible assumption) | assumption) : 0 ≤ a5)
    have c14b0 := eq_true (oD (by first | (with_reducible assumption) | assumption) : a5 ≤ (out.length : Int))
    obtain ⟨y193, hy193⟩ : ∃ y_ : List (S111), y_ = (out.drop (a5 : Int).toNat) := ⟨_, rfl⟩
    replace H : (if y190.length + y193.length < 3518437208883 then (some (y190 ++ y193)) else (none)) = some rn := by first | (rw [hy193]; with_reducible exact H) | (have H2_ := (Option.bind_some _ _).symm.trans H; rw [hy193]; with_reducible exact H2_) | (have H2_ := (Option.bind_some _ _).symm.trans H; with_reducible exact H2_) | with_reducible exact H | (rw [hy193]; exact H) | exact H
    have Ny193 := zK hy193
    clear hy193
    by_cases c15 : y190.length + y193.length < 3518437208883
    rotate_left
    ·rw [if_neg c15] at H
     exact absurd H (by simp)
    rw [if_pos c15] at H
    have LMc15 := zK c15
    clear c15
    obtain ⟨y197, hy197⟩ : ∃ y_ : List (S111), y_ = (y190 ++ y193) := ⟨_, rfl⟩
    replace H : (some y197) = some rn := by first | (rw [hy197]; with_reducible exact H) | (have H2_ := (Option.bind_some _ _).symm.trans H; rw [hy197]; with_reducible exact H2_) | (have H2_ := (Option.bind_some _ _).symm.trans H; with_reducible exact H2_) | with_reducible exact H | (rw [hy197]; exact H) | exact H
    have Ny197 := zK hy197
    clear hy197
    obtain rfl := Option.some.inj H
    try go_wp2
    have n0_ := zK (b1 HB.out)
    clear HB
    have HB := n0_
    clear n0_
    have q17 : (a5 : Int) ≤ ((out.length : Int) : Int) := oD (by first | (with_reducible assumption) | assumption)
    obtain ⟨i017, hi017, _, hsz17, _⟩ := info_parts info111
    have hroom17 : out.length ≤ c3 := HC3.out
    have hC17 : Kd.C k111 _ A3 out.length out := HR3.out
    have hcut17 := cut_to (P := Try.prog) 97 111 .i64 Try.underlying97 hi017 A3 out.length c3 a5 (oD (by first | (with_reducible assumption) | assumption)) q17 hroom17
    have hr17 := Kd.C_take (m := (a5 : Int).toNat) hC17 (by omega)
    have hy17 : y179.length = (a5 : Int).toNat := (by rw [Ny179.out, List.length_take]; omega)
    rw [← Ny179.out] at hr17
    rw [← hy17] at hcut17
    have HR182 := zK hr17
    have HC182 := zK (show y179.length ≤ c3 from by omega)
    clear hr17 hC17 hroom17 hi017 hsz17
    have KY17 := zK hy17
    clear hy17
    replace q17 := eq_true q17
    have p186 : 0 ≤ (a4 : Int) := oD (by first | (with_reducible assumption) | assumption)
    have q186 : a4 < (l0.length : Int) := oD (by first | (with_reducible assumption) | assumption)
    obtain ⟨ad186, e186, hx186_0, hx186_1, hx186_2, hx186_3, hx186_4⟩ := at_T111 HR0.out a4 p186 q186
    have hw186_4 := hx186_4
    have hw186_3 := hx186_3
    have hw186_2 := hx186_2
    have hw186_1 := hx186_1
    have hw186_0 := hx186_0
    cases e186
    replace hx186_0 := (HB.out.cell (bL w hx186_0)).trans hx186_0
    replace hx186_1 := (HB.out.cell (bL w hx186_1)).trans hx186_1
    replace hx186_2 := (HB.out.cell (bL w hx186_2)).trans hx186_2
    replace hx186_3 := (HB.out.cell (bL w hx186_3)).trans hx186_3
    replace hx186_4 := (HB.out.cell (bL w hx186_4)).trans hx186_4
    replace p186 := eq_true p186
    replace q186 := eq_true q186
    have q18 : (a5 : Int) ≤ ((out.length : Int) : Int) := oD (by first | (with_reducible assumption) | assumption)
    obtain ⟨i018, hi018, _, hsz18, _⟩ := info_parts info111
    have hroom18 : out.length ≤ c3 := HC3.out
    have hC18 : Kd.C k111 _ A3 out.length out := HR3.out
    have q018 : (0 : Int) ≤ (a5 : Int) := oD (by first | (with_reducible assumption) | assumption)
    have hcut18 := cut_from (P := Try.prog) 97 111 .i64 Try.underlying97 hi018 5 hsz18 A3 out.length c3 a5 q018 q18
    have hr18 := Kd.C_drop (m := (a5 : Int).toNat) (c := c3) hC18 (by omega) hroom18
    obtain ⟨A18, hA18⟩ : ∃ A1, A1 = (if c3 = (a5 : Int).toNat then A3 else (A3 : Option Addr).map (·.add ((a5 : Int).toNat * 5))) := ⟨_, rfl⟩
    obtain ⟨c18, hc18⟩ : ∃ c1, c1 = c3 - (a5 : Int).toNat := ⟨_, rfl⟩
    have hy18 : y193.length = out.length - (a5 : Int).toNat := (by rw [Ny193.out, List.length_drop] <;> omega)
    rw [show (out).drop (a5 : Int).toNat = y193 from Ny193.out.symm] at hr18
    replace hr18 : Kd.C k111 _ A18 y193.length y193 := (by rw [hA18]; exact hr18)
    rw [← hy18, ← hA18, ← hc18] at hcut18
    have HR196 := zK hr18
    have HC196 := zK (show y193.length ≤ c18 from by rw [hy18, hc18]; exact Nat.sub_le_sub_right hroom18 _)
    clear hr18 hC18 hroom18 hi018 hsz18 hc18
    have KY18 := zK hy18
    have KA18 := zK hA18
    clear hy18 hA18
    replace q18 := eq_true q18
    refine start_ (n := 16) (S := fun w' => w'.cell? (ad186.add ((a4).toNat * 5)) = some (.int .i64 ((rd_T111 l0 a4).f0)) ∧ w'.cell? ⟨(ad186.add ((a4).toNat * 5)).block, (ad186.add ((a4).toNat * 5)).off + 1, none⟩ = some (.int .i64 ((rd_T111 l0 a4).f1)) ∧ w'.cell? ⟨(ad186.add ((a4).toNat * 5)).block, (ad186.add ((a4).toNat * 5)).off + 2, none⟩ = some (.int .i64 ((rd_T111 l0 a4).f2)) ∧ w'.cell? ⟨(ad186.add ((a4).toNat * 5)).block, (ad186.add ((a4).toNat * 5)).off + 3, none⟩ = some (.int .i64 ((rd_T111 l0 a4).f3)) ∧ w'.cell? ⟨(ad186.add ((a4).toNat * 5)).block, (ad186.add ((a4).toNat * 5)).off + 4, none⟩ = some (.int .i64 ((rd_T111 l0 a4).f4))) (ds := []) b7A0 (by kernel_rfl) rfl rfl ⟨((HB.out.cell (bL w hw186_0)).trans hw186_0), ((HB.out.cell (bL w hw186_1)).trans hw186_1), ((HB.out.cell (bL w hw186_2)).trans hw186_2), ((HB.out.cell (bL w hw186_3)).trans hw186_3), ((HB.out.cell (bL w hw186_4)).trans hw186_4)⟩ (fun hHeld => ?_); refine with_tabW spec_l15Sorted.tab8 spec_l15Sorted.bits8 (fun HT_ HW_ => ?_)
    generalize w.drew = w16 at HB HR182 HR196 hx186_0 hx186_1 hx186_2 hx186_3 hx186_4 hHeld ⊢
    refine pI 1 (some 34) b7A1 HT_ ?_
    refine pI 2 (some 35) b7A2 HT_ ?_
    refine pI 3 (some 36) b7A3 HT_ ?_
    refine pI 5 (some 38) b7A4 HT_ ?_
    refine pI 6 (some 39) b7A5 HT_ ?_
    refine pI 7 (some 40) b7A6 HT_ ?_
    refine pI 11 (some 44) b7A7 HT_ ?_
    refine pI 12 (some 45) b7A8 HT_ ?_
    refine pI 13 (some 46) b7A9 HT_ ?_
    refine tI 8 (some 41) b7A10 HT_ HW_ hHeld rfl rfl (Or.inl ⟨by rfl, by rintro w' ⟨s0, s1, s2, s3, s4⟩; go_simp; with_reducible rfl⟩) ?_
    refine join_ (σ := Value × Value × Value) 3 b7A11 (fun s_ => [(33, s_.1), (37, s_.2.1), (42, s_.2.2)]) (fun s_ w' => (w'.cell? (ad186.add ((a4).toNat * 5)) = some (.int .i64 ((rd_T111 l0 a4).f0)) ∧ w'.cell? ⟨(ad186.add ((a4).toNat * 5)).block, (ad186.add ((a4).toNat * 5)).off + 1, none⟩ = some (.int .i64 ((rd_T111 l0 a4).f1)) ∧ w'.cell? ⟨(ad186.add ((a4).toNat * 5)).block, (ad186.add ((a4).toNat * 5)).off + 2, none⟩ = some (.int .i64 ((rd_T111 l0 a4).f2)) ∧ w'.cell? ⟨(ad186.add ((a4).toNat * 5)).block, (ad186.add ((a4).toNat * 5)).off + 3, none⟩ = some (.int .i64 ((rd_T111 l0 a4).f3)) ∧ w'.cell? ⟨(ad186.add ((a4).toNat * 5)).block, (ad186.add ((a4).toNat * 5)).off + 4, none⟩ = some (.int .i64 ((rd_T111 l0 a4).f4))) ∧ (Kd.R k111 111 w' w.heap.size (fun k_ => some k_ ≠ (s_.2.2 : Value).ownBlock) s_.2.1 y183) ∧ (Kd.R k111 111 w' w.heap.size (fun k_ => some k_ ≠ (s_.2.1 : Value).ownBlock) s_.2.2 y187) ∧ (Below w.heap.size w w')) ?_ ?_
    rotate_left
    ·intro hCont
     refine two_ (i := 0) (j := 9) (Ni := some 33) (Nj := some 42) b7A12 b7A13 rfl rfl rfl rfl (two_of HT_.out (by kernel_rfl)) (by decide) (by decide) (fun K hK => ?_) (fun K hK => ?_)
     rotate_left
     ·skip
      refine Kd.R_lit_step k111 _ 111 ?hg (N := 42) ?hd (xs := ([(⟨(rd_T111 l0 a4).f0, (rd_T111 l0 a4).f1, (rd_T111 l0 a4).f2, (rd_T111 l0 a4).f3, (rd_T111 l0 a4).f4⟩ : S111)] : List (S111))) (inner := [.int .i64 ((rd_T111 l0 a4).f0), .int .i64 ((rd_T111 l0 a4).f1), .int .i64 ((rd_T111 l0 a4).f2), .int .i64 ((rd_T111 l0 a4).f3), .int .i64 ((rd_T111 l0 a4).f4)]) (ok := fun _ => True) (okp := fun _ => True) ?hr ?hp (fun _ hk => hk) trivial (Below.refl _ _) (Nat.le_refl _) (by simp) ?_; (case hd => rfl); (case hg => rfl); (case hr => first | (go_simp; done) | (go_simp; rfl)); (case hp => exact (Reps.c5 (show Kd.M k111 _ _ _ (⟨(rd_T111 l0 a4).f0, (rd_T111 l0 a4).f1, (rd_T111 l0 a4).f2, (rd_T111 l0 a4).f3, (rd_T111 l0 a4).f4⟩ : S111) [.int .i64 ((rd_T111 l0 a4).f0), .int .i64 ((rd_T111 l0 a4).f1), .int .i64 ((rd_T111 l0 a4).f2), .int .i64 ((rd_T111 l0 a4).f3), .int .i64 ((rd_T111 l0 a4).f4)] from (k111_mkM _ _ _ (⟨(rd_T111 l0 a4).f0, (rd_T111 l0 a4).f1, (rd_T111 l0 a4).f2, (rd_T111 l0 a4).f3, (rd_T111 l0 a4).f4⟩ : S111) )) (Reps.none _ _)))
      intro v188 w19 ho20 hb hg_ hnew_
      clear hg_ hnew_
      (first | rw [← Ny187.out] at ho20 | (simp only [Int.reduceToNat] at ho20; rw [← Ny187.out] at ho20))
      have n0_ := zK (Kd.R_lower ho20 (bZ (qB HB.out)))
      have n1_ := zK (bT (qB HB.out) hb)
      clear HB
      have HO189 := n0_
      have HB := n1_
      clear n0_ n1_
      clear hb ho20
      refine hK.out _ _ ⟨((HB.out.cell (bL w hw186_0)).trans hw186_0), ((HB.out.cell (bL w hw186_1)).trans hw186_1), ((HB.out.cell (bL w hw186_2)).trans hw186_2), ((HB.out.cell (bL w hw186_3)).trans hw186_3), ((HB.out.cell (bL w hw186_4)).trans hw186_4)⟩ (fun hHeld => ?_)
      clear hK K
      refine norm_ (a' := ?_) ?_ ?_
      rotate_left
      ·show Act.put _ (some 42) _ = _
       simp only [Act.put, sA, sZ, sS, i64_w, i32_w]
       rfl
      refine one_ (i := 0) (N := some 33) b7A15 rfl rfl (one_of HT_.out (by kernel_rfl)) (by decide) (fun K hK => ?_)
      refine Kd.R_lit_step k111 _ 111 ?hg (N := 33) ?hd (xs := ([] : List (S111))) (inner := []) (ok := fun _ => True) (okp := fun _ => True) ?hr ?hp (fun _ hk => hk) trivial (Below.refl _ _) (Nat.le_refl _) (by simp) ?_; (case hd => rfl); (case hg => rfl); (case hr => first | (go_simp; done) | (go_simp; rfl)); (case hp => exact (Reps.none _ _))
      intro v177 w21 ho22 hb hg_ hnew_
      clear hg_ hnew_
      (first | rw [← Ny176.out] at ho22 | (simp only [Int.reduceToNat] at ho22; rw [← Ny176.out] at ho22))
      have n0_ := zK (Kd.R_elder' (Kd.qR HO189.out) (Kd.R_base ho22) hb)
      have n1_ := zK (Kd.R_lower (Kd.R_new' ho22 (Kd.R_lt (Kd.qR HO189.out))) (bZ (qB HB.out)))
      have n2_ := zK (bT (qB HB.out) hb)
      clear HO189
      clear HB
      have HO189 := n0_
      have HO178 := n1_
      have HB := n2_
      clear n0_ n1_ n2_
      clear hb ho22
      refine hK.out _ _ ⟨((HB.out.cell (bL w hw186_0)).trans hw186_0), ((HB.out.cell (bL w hw186_1)).trans hw186_1), ((HB.out.cell (bL w hw186_2)).trans hw186_2), ((HB.out.cell (bL w hw186_3)).trans hw186_3), ((HB.out.cell (bL w hw186_4)).trans hw186_4)⟩ (fun hHeld => ?_)
      clear hK K
      refine norm_ (a' := ?_) ?_ ?_
      rotate_left
      ·show Act.put _ (some 33) _ = _
       simp only [Act.put, sA, sZ, sS, i64_w, i32_w]
       rfl
      refine one_ (i := 4) (N := some 37) b7A11 rfl rfl (one_of HT_.out (by kernel_rfl)) (by decide) (fun K hK => ?_)
      refine Kd.R_append_rows_step k111 (w0 := w) w.heap.size (by rfl) (.tmp 33) (.tmp 36) 97 111 (.agg #[(.int .i64 0), (.int .i64 0), (.int .i64 0), (.int .i64 0), (.int .i64 0)]) 40 rfl Try.underlying97 info111 rfl (by decide) (by omega) v177 y176 y179 _ _ _ (fun k_ => some k_ ≠ (v188 : Value).ownBlock) (fun _ => False) rfl rfl ?aO ?aR (fun _ _ h => h) (fun _ h => h.elim) ?aF ?aB ?aS ?aL ?_
      (case aR => exact Kd.qC (Kd.C_below HR182.out HB.out))
      (case aB => exact (qB HB.out))
      (case aF => exact (fun k_ hk => Kd.fresh' (Kd.R_lt (Kd.qR HO189.out)) k_ hk))
      (case aO => exact (by (with_reducible repeat (first | apply Kd.RA | apply Kd.RN | apply Kd.RD)); exact Kd.R_mono HO178.out (fun _ hk => hk.2)))
      (case aS => exact (bZ (qB HB.out)))
      (case aL => have := LMc9.out; omega)
      intro v184 w23 ho hb hg hat
      rw [← Ny183.out] at ho
      have n0_ := zK (Kd.R_after (ok := (fun _ => True)) (Kd.qR HO189.out) hg hat)
      have n1_ := zK (hb)
      have n2_ := zK (ho)
      clear HO189
      clear HB
      clear HO178
      have HO189 := n0_
      have HB := n1_
      have HO185 := n2_
      clear n0_ n1_ n2_
      clear ho hb hg hat
      refine hK.out _ _ ⟨((HB.out.cell (bL w hw186_0)).trans hw186_0), ((HB.out.cell (bL w hw186_1)).trans hw186_1), ((HB.out.cell (bL w hw186_2)).trans hw186_2), ((HB.out.cell (bL w hw186_3)).trans hw186_3), ((HB.out.cell (bL w hw186_4)).trans hw186_4)⟩ (fun hHeld => ?_)
      clear hK K
      refine norm_ (a' := ?_) ?_ ?_
      rotate_left
      ·show Act.put _ (some 37) _ = _
       simp only [Act.put, sA, sZ, sS, i64_w, i32_w]
       rfl
      exact norm_ (by simp only [putAll, Act.put, sA, sZ, sS]) (hCont (v177, v184, v188) _ ⟨hHeld, (Kd.qR HO185.out), (by (with_reducible repeat (first | apply Kd.RA | apply Kd.RN | apply Kd.RD)); exact Kd.R_mono HO189.out (fun _ hk => hk.2)), (qB HB.out)⟩)
     skip
     refine Kd.R_lit_step k111 _ 111 ?hg (N := 33) ?hd (xs := ([] : List (S111))) (inner := []) (ok := fun _ => True) (okp := fun _ => True) ?hr ?hp (fun _ hk => hk) trivial (Below.refl _ _) (Nat.le_refl _) (by simp) ?_; (case hd => rfl); (case hg => rfl); (case hr => first | (go_simp; done) | (go_simp; rfl)); (case hp => exact (Reps.none _ _))
     intro v177 w19 ho20 hb hg_ hnew_
     clear hg_ hnew_
     (first | rw [← Ny176.out] at ho20 | (simp only [Int.reduceToNat] at ho20; rw [← Ny176.out] at ho20))
     have n0_ := zK (Kd.R_lower ho20 (bZ (qB HB.out)))
     have n1_ := zK (bT (qB HB.out) hb)
     clear HB
     have HO178 := n0_
     have HB := n1_
     clear n0_ n1_
     clear hb ho20
     refine hK.out _ _ ⟨((HB.out.cell (bL w hw186_0)).trans hw186_0), ((HB.out.cell (bL w hw186_1)).trans hw186_1), ((HB.out.cell (bL w hw186_2)).trans hw186_2), ((HB.out.cell (bL w hw186_3)).trans hw186_3), ((HB.out.cell (bL w hw186_4)).trans hw186_4)⟩ (fun hHeld => ?_)
     clear hK K
     refine norm_ (a' := ?_) ?_ ?_
     rotate_left
     ·show Act.put _ (some 33) _ = _
      simp only [Act.put, sA, sZ, sS, i64_w, i32_w]
      rfl
     refine two_ (i := 4) (j := 9) (Ni := some 37) (Nj := some 42) b7A14 b7A15 rfl rfl rfl rfl (two_of HT_.out (by kernel_rfl)) (by decide) (by decide) (fun K hK => ?_) (fun K hK => ?_)
     ·skip
      refine Kd.R_append_rows_step k111 (w0 := w) w.heap.size (by rfl) (.tmp 33) (.tmp 36) 97 111 (.agg #[(.int .i64 0), (.int .i64 0), (.int .i64 0), (.int .i64 0), (.int .i64 0)]) 40 rfl Try.underlying97 info111 rfl (by decide) (by omega) v177 y176 y179 _ _ _ (fun _ => True) (fun _ => False) rfl rfl ?aO ?aR (fun _ _ h => h) (fun _ h => h.elim) ?aF ?aB ?aS ?aL ?_
      (case aR => exact Kd.qC (Kd.C_below HR182.out HB.out))
      (case aB => exact (qB HB.out))
      (case aF => exact (fun _ _ => trivial))
      (case aO => exact (Kd.qR HO178.out))
      (case aS => exact (bZ (qB HB.out)))
      (case aL => have := LMc9.out; omega)
      intro v184 w21 ho hb hg hat
      rw [← Ny183.out] at ho
      have n0_ := zK (hb)
      have n1_ := zK (ho)
      clear HB
      clear HO178
      have HB := n0_
      have HO185 := n1_
      clear n0_ n1_
      clear ho hb hg hat
      refine hK.out _ _ ⟨((HB.out.cell (bL w hw186_0)).trans hw186_0), ((HB.out.cell (bL w hw186_1)).trans hw186_1), ((HB.out.cell (bL w hw186_2)).trans hw186_2), ((HB.out.cell (bL w hw186_3)).trans hw186_3), ((HB.out.cell (bL w hw186_4)).trans hw186_4)⟩ (fun hHeld => ?_)
      clear hK K
      refine norm_ (a' := ?_) ?_ ?_
      rotate_left
      ·show Act.put _ (some 37) _ = _
       simp only [Act.put, sA, sZ, sS, i64_w, i32_w]
       rfl
      refine one_ (i := 9) (N := some 42) b7A11 rfl rfl (one_of HT_.out (by kernel_rfl)) (by decide) (fun K hK => ?_)
      refine Kd.R_lit_step k111 _ 111 ?hg (N := 42) ?hd (xs := ([(⟨(rd_T111 l0 a4).f0, (rd_T111 l0 a4).f1, (rd_T111 l0 a4).f2, (rd_T111 l0 a4).f3, (rd_T111 l0 a4).f4⟩ : S111)] : List (S111))) (inner := [.int .i64 ((rd_T111 l0 a4).f0), .int .i64 ((rd_T111 l0 a4).f1), .int .i64 ((rd_T111 l0 a4).f2), .int .i64 ((rd_T111 l0 a4).f3), .int .i64 ((rd_T111 l0 a4).f4)]) (ok := fun _ => True) (okp := fun _ => True) ?hr ?hp (fun _ hk => hk) trivial (Below.refl _ _) (Nat.le_refl _) (by simp) ?_; (case hd => rfl); (case hg => rfl); (case hr => first | (go_simp; done) | (go_simp; rfl)); (case hp => exact (Reps.c5 (show Kd.M k111 _ _ _ (⟨(rd_T111 l0 a4).f0, (rd_T111 l0 a4).f1, (rd_T111 l0 a4).f2, (rd_T111 l0 a4).f3, (rd_T111 l0 a4).f4⟩ : S111) [.int .i64 ((rd_T111 l0 a4).f0), .int .i64 ((rd_T111 l0 a4).f1), .int .i64 ((rd_T111 l0 a4).f2), .int .i64 ((rd_T111 l0 a4).f3), .int .i64 ((rd_T111 l0 a4).f4)] from (k111_mkM _ _ _ (⟨(rd_T111 l0 a4).f0, (rd_T111 l0 a4).f1, (rd_T111 l0 a4).f2, (rd_T111 l0 a4).f3, (rd_T111 l0 a4).f4⟩ : S111) )) (Reps.none _ _)))
      intro v188 w22 ho23 hb hg_ hnew_
      clear hg_ hnew_
      (first | rw [← Ny187.out] at ho23 | (simp only [Int.reduceToNat] at ho23; rw [← Ny187.out] at ho23))
      have n0_ := zK (Kd.R_elder' (Kd.qR HO185.out) (Kd.R_base ho23) hb)
      have n1_ := zK (Kd.R_lower (Kd.R_new' ho23 (Kd.R_lt (Kd.qR HO185.out))) (bZ (qB HB.out)))
      have n2_ := zK (bT (qB HB.out) hb)
      clear HO185
      clear HB
      have HO185 := n0_
      have HO189 := n1_
      have HB := n2_
      clear n0_ n1_ n2_
      clear hb ho23
      refine hK.out _ _ ⟨((HB.out.cell (bL w hw186_0)).trans hw186_0), ((HB.out.cell (bL w hw186_1)).trans hw186_1), ((HB.out.cell (bL w hw186_2)).trans hw186_2), ((HB.out.cell (bL w hw186_3)).trans hw186_3), ((HB.out.cell (bL w hw186_4)).trans hw186_4)⟩ (fun hHeld => ?_)
      clear hK K
      refine norm_ (a' := ?_) ?_ ?_
      rotate_left
      ·show Act.put _ (some 42) _ = _
       simp only [Act.put, sA, sZ, sS, i64_w, i32_w]
       rfl
      exact norm_ (by simp only [putAll, Act.put, sA, sZ, sS]) (hCont (v177, v184, v188) _ ⟨hHeld, (by (with_reducible repeat (first | apply Kd.RA | apply Kd.RN | apply Kd.RD)); exact Kd.R_mono HO185.out (fun _ hk => hk.2)), (by (with_reducible repeat (first | apply Kd.RA | apply Kd.RN | apply Kd.RD)); exact Kd.R_mono HO189.out (fun _ hk => hk.2)), (qB HB.out)⟩)
     skip
     refine Kd.R_lit_step k111 _ 111 ?hg (N := 42) ?hd (xs := ([(⟨(rd_T111 l0 a4).f0, (rd_T111 l0 a4).f1, (rd_T111 l0 a4).f2, (rd_T111 l0 a4).f3, (rd_T111 l0 a4).f4⟩ : S111)] : List (S111))) (inner := [.int .i64 ((rd_T111 l0 a4).f0), .int .i64 ((rd_T111 l0 a4).f1), .int .i64 ((rd_T111 l0 a4).f2), .int .i64 ((rd_T111 l0 a4).f3), .int .i64 ((rd_T111 l0 a4).f4)]) (ok := fun _ => True) (okp := fun _ => True) ?hr ?hp (fun _ hk => hk) trivial (Below.refl _ _) (Nat.le_refl _) (by simp) ?_; (case hd => rfl); (case hg => rfl); (case hr => first | (go_simp; done) | (go_simp; rfl)); (case hp => exact (Reps.c5 (show Kd.M k111 _ _ _ (⟨(rd_T111 l0 a4).f0, (rd_T111 l0 a4).f1, (rd_T111 l0 a4).f2, (rd_T111 l0 a4).f3, (rd_T111 l0 a4).f4⟩ : S111) [.int .i64 ((rd_T111 l0 a4).f0), .int .i64 ((rd_T111 l0 a4).f1), .int .i64 ((rd_T111 l0 a4).f2), .int .i64 ((rd_T111 l0 a4).f3), .int .i64 ((rd_T111 l0 a4).f4)] from (k111_mkM _ _ _ (⟨(rd_T111 l0 a4).f0, (rd_T111 l0 a4).f1, (rd_T111 l0 a4).f2, (rd_T111 l0 a4).f3, (rd_T111 l0 a4).f4⟩ : S111) )) (Reps.none _ _)))
     intro v188 w21 ho22 hb hg_ hnew_
     clear hg_ hnew_
     (first | rw [← Ny187.out] at ho22 | (simp only [Int.reduceToNat] at ho22; rw [← Ny187.out] at ho22))
     have n0_ := zK (Kd.R_elder' (Kd.qR HO178.out) (Kd.R_base ho22) hb)
     have n1_ := zK (Kd.R_lower (Kd.R_new' ho22 (Kd.R_lt (Kd.qR HO178.out))) (bZ (qB HB.out)))
     have n2_ := zK (bT (qB HB.out) hb)
     clear HO178
     clear HB
     have HO178 := n0_
     have HO189 := n1_
     have HB := n2_
     clear n0_ n1_ n2_
     clear hb ho22
     refine hK.out _ _ ⟨((HB.out.cell (bL w hw186_0)).trans hw186_0), ((HB.out.cell (bL w hw186_1)).trans hw186_1), ((HB.out.cell (bL w hw186_2)).trans hw186_2), ((HB.out.cell (bL w hw186_3)).trans hw186_3), ((HB.out.cell (bL w hw186_4)).trans hw186_4)⟩ (fun hHeld => ?_)
     clear hK K
     refine norm_ (a' := ?_) ?_ ?_
     rotate_left
     ·show Act.put _ (some 42) _ = _
      simp only [Act.put, sA, sZ, sS, i64_w, i32_w]
      rfl
     refine one_ (i := 4) (N := some 37) b7A11 rfl rfl (one_of HT_.out (by kernel_rfl)) (by decide) (fun K hK => ?_)
     refine Kd.R_append_rows_step k111 (w0 := w) w.heap.size (by rfl) (.tmp 33) (.tmp 36) 97 111 (.agg #[(.int .i64 0), (.int .i64 0), (.int .i64 0), (.int .i64 0), (.int .i64 0)]) 40 rfl Try.underlying97 info111 rfl (by decide) (by omega) v177 y176 y179 _ _ _ (fun k_ => some k_ ≠ (v188 : Value).ownBlock) (fun _ => False) rfl rfl ?aO ?aR (fun _ _ h => h) (fun _ h => h.elim) ?aF ?aB ?aS ?aL ?_
     (case aR => exact Kd.qC (Kd.C_below HR182.out HB.out))
     (case aB => exact (qB HB.out))
     (case aF => exact (fun k_ hk => Kd.fresh' (Kd.R_lt (Kd.qR HO189.out)) k_ hk))
     (case aO => exact (by (with_reducible repeat (first | apply Kd.RA | apply Kd.RN | apply Kd.RD)); exact Kd.R_mono HO178.out (fun _ hk => hk.2)))
     (case aS => exact (bZ (qB HB.out)))
     (case aL => have := LMc9.out; omega)
     intro v184 w23 ho hb hg hat
     rw [← Ny183.out] at ho
     have n0_ := zK (Kd.R_after (ok := (fun _ => True)) (Kd.qR HO189.out) hg hat)
     have n1_ := zK (hb)
     have n2_ := zK (ho)
     clear HO189
     clear HB
     clear HO178
     have HO189 := n0_
     have HB := n1_
     have HO185 := n2_
     clear n0_ n1_ n2_
     clear ho hb hg hat
     refine hK.out _ _ ⟨((HB.out.cell (bL w hw186_0)).trans hw186_0), ((HB.out.cell (bL w hw186_1)).trans hw186_1), ((HB.out.cell (bL w hw186_2)).trans hw186_2), ((HB.out.cell (bL w hw186_3)).trans hw186_3), ((HB.out.cell (bL w hw186_4)).trans hw186_4)⟩ (fun hHeld => ?_)
     clear hK K
     refine norm_ (a' := ?_) ?_ ?_
     rotate_left
     ·show Act.put _ (some 37) _ = _
      simp only [Act.put, sA, sZ, sS, i64_w, i32_w]
      rfl
     exact norm_ (by simp only [putAll, Act.put, sA, sZ, sS]) (hCont (v177, v184, v188) _ ⟨hHeld, (Kd.qR HO185.out), (by (with_reducible repeat (first | apply Kd.RA | apply Kd.RN | apply Kd.RD)); exact Kd.R_mono HO189.out (fun _ hk => hk.2)), (qB HB.out)⟩)
    rintro ⟨v177, v184, v188⟩ w24 ⟨hS_, h0_, h1_, h2_⟩
    have n0_ : Aside0 (Kd.R k111 111 w24 w.heap.size (fun k_ => some k_ ≠ (v188 : Value).ownBlock) v184 y183) := ⟨h0_⟩
    have n1_ : Aside0 (Kd.R k111 111 w24 w.heap.size (fun k_ => some k_ ≠ (v184 : Value).ownBlock) v188 y187) := ⟨h1_⟩
    have n2_ : Aside0 (Below w.heap.size w w24) := ⟨h2_⟩
    clear HB
    clear h0_ h1_ h2_
    have HO185 := n0_
    have HO189 := n1_
    have HB := n2_
    clear n0_ n1_ n2_
    have hHeld : w24.cell? (ad186.add ((a4).toNat * 5)) = some (.int .i64 ((rd_T111 l0 a4).f0)) ∧ w24.cell? ⟨(ad186.add ((a4).toNat * 5)).block, (ad186.add ((a4).toNat * 5)).off + 1, none⟩ = some (.int .i64 ((rd_T111 l0 a4).f1)) ∧ w24.cell? ⟨(ad186.add ((a4).toNat * 5)).block, (ad186.add ((a4).toNat * 5)).off + 2, none⟩ = some (.int .i64 ((rd_T111 l0 a4).f2)) ∧ w24.cell? ⟨(ad186.add ((a4).toNat * 5)).block, (ad186.add ((a4).toNat * 5)).off + 3, none⟩ = some (.int .i64 ((rd_T111 l0 a4).f3)) ∧ w24.cell? ⟨(ad186.add ((a4).toNat * 5)).block, (ad186.add ((a4).toNat * 5)).off + 4, none⟩ = some (.int .i64 ((rd_T111 l0 a4).f4)) := hS_
    obtain ⟨Ao26, co26, eo26⟩ := Kd.R_slice HO189.out
    (first | subst eo26 | (injection eo26 with f1_ f2_ f3_; have f4_ := f1_.symm; have f5_ := f3_.symm; clear f1_ f2_ f3_; subst f4_; subst f5_))
    refine norm_ (a' := ?_) ?_ ?_
    rotate_left
    ·simp only [putAll, Act.put, sA, sZ, sS]
     rfl
    refine one_ (i := 10) (N := some 43) b7A16 rfl rfl (one_of HT_.out (by kernel_rfl)) (by decide) (fun K hK => ?_)
    refine Kd.R_append_rows_step k111 (w0 := w) w.heap.size (by rfl) (.tmp 37) (.tmp 42) 97 111 (.agg #[(.int .i64 0), (.int .i64 0), (.int .i64 0), (.int .i64 0), (.int .i64 0)]) 40 rfl Try.underlying97 info111 rfl (by decide) (by omega) v184 y183 y187 _ _ _ (fun k_ => some k_ ≠ (.slice Ao26 y187.length co26 : Value).ownBlock) (fun _ => False) rfl rfl ?aO ?aR (fun _ _ h => h) (fun _ h => h.elim) ?aF ?aB ?aS ?aL ?_
    (case aR => repeat (first | exact (Kd.R_reads' HO189.out).2.2 | (with_reducible refine Kd.CA ?_ _) | (with_reducible refine Kd.CN ?_ _) | (with_reducible refine Kd.CD ?_)))
    (case aB => exact (qB HB.out))
    (case aF => exact (fun k_ hk => Kd.fresh' (Kd.R_lt (Kd.qR HO189.out)) k_ hk))
    (case aO => exact (Kd.qR HO185.out))
    (case aS => exact (bZ (qB HB.out)))
    (case aL => have := LMc12.out; omega)
    intro v191 w25 ho hb hg hat
    rw [← Ny190.out] at ho
    have n0_ := zK (Kd.R_after (ok := (fun _ => True)) (by (with_reducible repeat (first | apply Kd.RA | apply Kd.RN | apply Kd.RD)); exact Kd.R_mono HO189.out (fun _ hk => ⟨trivial, hk⟩)) hg hat)
    have n1_ := zK (hb)
    have n2_ := zK (ho)
    clear HO189
    clear HB
    clear HO185
    have HO189 := n0_
    have HB := n1_
    have HO192 := n2_
    clear n0_ n1_ n2_
    clear ho hb hg hat
    refine hK.out _ _ ⟨((HB.out.cell (bL w hw186_0)).trans hw186_0), ((HB.out.cell (bL w hw186_1)).trans hw186_1), ((HB.out.cell (bL w hw186_2)).trans hw186_2), ((HB.out.cell (bL w hw186_3)).trans hw186_3), ((HB.out.cell (bL w hw186_4)).trans hw186_4)⟩ (fun hHeld => ?_)
    clear hK K
    refine norm_ (a' := ?_) ?_ ?_
    rotate_left
    ·show Act.put _ (some 43) _ = _
     simp only [Act.put, sA, sZ, sS, i64_w, i32_w]
     rfl
    refine one_ (i := 14) (N := some 47) b7A17 rfl rfl (one_of HT_.out (by kernel_rfl)) (by decide) (fun K hK => ?_)
    refine Kd.R_append_rows_step k111 (w0 := w) w.heap.size (by rfl) (.tmp 43) (.tmp 46) 97 111 (.agg #[(.int .i64 0), (.int .i64 0), (.int .i64 0), (.int .i64 0), (.int .i64 0)]) 40 rfl Try.underlying97 info111 rfl (by decide) (by omega) v191 y190 y193 _ _ _ (fun k_ => some k_ ≠ (.slice Ao26 y187.length co26 : Value).ownBlock) (fun _ => False) rfl rfl ?aO ?aR (fun _ _ h => h) (fun _ h => h.elim) ?aF ?aB ?aS ?aL ?_
    (case aR => exact Kd.qC (Kd.C_below HR196.out HB.out))
    (case aB => exact (qB HB.out))
    (case aF => exact (fun k_ hk => Kd.fresh' (Kd.R_lt (Kd.qR HO189.out)) k_ hk))
    (case aO => exact (Kd.qR HO192.out))
    (case aS => exact (bZ (qB HB.out)))
    (case aL => have := LMc15.out; omega)
    intro v198 w27 ho hb hg hat
    rw [← Ny197.out] at ho
    have n0_ := zK (Kd.R_after (ok := (fun _ => True)) (Kd.qR HO189.out) hg hat)
    have n1_ := zK (hb)
    have n2_ := zK (ho)
    clear HO189
    clear HB
    clear HO192
    have HO189 := n0_
    have HB := n1_
    have HO199 := n2_
    clear n0_ n1_ n2_
    clear ho hb hg hat
    refine hK.out _ _ ⟨((HB.out.cell (bL w hw186_0)).trans hw186_0), ((HB.out.cell (bL w hw186_1)).trans hw186_1), ((HB.out.cell (bL w hw186_2)).trans hw186_2), ((HB.out.cell (bL w hw186_3)).trans hw186_3), ((HB.out.cell (bL w hw186_4)).trans hw186_4)⟩ (fun hHeld => ?_)
    clear hK K
    refine norm_ (a' := ?_) ?_ ?_
    rotate_left
    ·show Act.put _ (some 47) _ = _
     simp only [Act.put, sA, sZ, sS, i64_w, i32_w]
     rfl
    refine pI 15 (some 3) b7A18 HT_ ?_
    refine done_ (done_of HT_.out (by kernel_rfl)) ?_
    try go_wp2
    obtain rfl := Option.some.inj hA0
    go_roundg (gka - 1)
    case measure => omega
    case rel => exact ⟨_, i + 1, wrap64 (a4 + 1), (by first | rfl | (simp; done) | (simp [*]; done)), ⟨by have := HA4.out; unfold wrap64; omega⟩, by omega, by omega, ⟨Kd.R_lower (by (with_reducible repeat (first | apply Kd.RA | apply Kd.RN | apply Kd.RD)); exact Kd.R_mono HO199.out (fun _ hk => trivial)) HBb.out.size⟩, HN, ⟨below_weaken HBb.out HBb.out.size (qB HB.out)⟩⟩
end Go.Proofs.Ytejhjenlodclpaa.PFnExactTighten
