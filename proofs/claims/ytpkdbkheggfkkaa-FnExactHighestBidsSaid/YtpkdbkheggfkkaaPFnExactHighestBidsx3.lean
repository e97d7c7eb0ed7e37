/- Walks of functions that FnExactHighestBids reaches: written by a tool of the kit for this claim, with contracts of ours for the functions that it does not take. -/
import Derived.Test.YtpkdbkheggfkkaaPFnExactHighestBidsx0
namespace Go.Proofs.Ytpkdbkheggfkkaa.PFnExactHighestBids
open Go.RowKit Go.Proofs.YtpkdbkheggfkkaaW.PrintWords Go.Proofs.YtpkdbkheggfkkaaW.PrintLast Go.Proofs.YtpkdbkheggfkkaaW.PrintMore
attribute [local go_sem] max2_int min2_int max_two min_two max_three min_three max_four min_four   -- for this text's walks alone
set_option linter.unusedVariables false
set_option linter.unusedSimpArgs false

/-! ### spec_l19Sorted: function 81: an insertion sort over slices that are made anew -/
def spec_l19Sorted.lt (x y : S56) : Bool := decide (y.f1 < x.f1)
def spec_l19Sorted.put (l0 : List (S56)) (l1 : List (S56)) (l2 : List (S56)) (l3 : List (S56)) (a4 : Int) (a5 : Int) : Option ((List (S56))) := (some (([] : List (S56)) : List (S56))).bind fun y107 => (if 0 ≤ a5 then (if a5 ≤ (l3.length : Int) then ((some (l3.take (a5 : Int).toNat : List (S56))).bind fun y110 => (if y107.length + y110.length < 5864062014805 then ((some (y107 ++ y110 : List (S56))).bind fun y114 => (if 0 ≤ a4 then (if a4 < (l0.length : Int) then ((some (([(⟨(rd_T56 l0 a4).f0, (rd_T56 l0 a4).f1, (rd_T56 l0 a4).f2⟩ : S56)] : List (S56)) : List (S56))).bind fun y118 => (if y114.length + y118.length < 5864062014805 then ((some (y114 ++ y118 : List (S56))).bind fun y121 => ((some (l3.drop (a5 : Int).toNat : List (S56))).bind fun y124 => (if y121.length + y124.length < 5864062014805 then (some (y121 ++ y124)) else (none)))) else (none))) else (none)) else (none))) else (none))) else (none)) else (none))
def spec_l19Sorted.T8 : Bool × List (List Nat × List Nat) := (true, [([], []), ([], []), ([], []), ([1, 2], [1, 2]), ([0, 3], [0, 3]), ([], []), ([], []), ([5, 6], [5, 6]), ([7], [7]), ([8], [8]), ([4, 9, 4], [4, 9]), ([], []), ([], []), ([11, 12], [11, 12]), ([10, 13, 10], [10, 13]), ([14, 14, 0, 1, 2, 3, 4, 5, 6, 7, 8, 9, 10, 11, 12, 13, 14], [1, 11, 14])])
def spec_l19Sorted.B8 : List Nat := [0, 0, 0, 6, 15, 0, 0, 96, 224, 480, 1023, 0, 0, 6144, 16383, 32767]
theorem spec_l19Sorted.tab8 : rtab .any (opsOf Try.f81 8) = spec_l19Sorted.T8 := by kernel_rfl
theorem spec_l19Sorted.bits8 : waitsOk spec_l19Sorted.T8.2 spec_l19Sorted.B8 = true := by kernel_rfl
theorem spec_l19Sorted.step (out : List (S56)) (x : S56) (j : Nat) (hj : j < out.length) (hl : (out.getD j z56).f1 < x.f1) : Go.Proofs.Ytpkdbkheggfkkaa.SlcK.insEnd spec_l19Sorted.lt (out.take (j + 1)) x ++ out.drop (j + 1) = Go.Proofs.Ytpkdbkheggfkkaa.SlcK.insEnd spec_l19Sorted.lt (out.take j) x ++ out.drop j := by
  have e : out.getD j z56 = out[j] := by rw [List.getD_eq_getElem?_getD, List.getElem?_eq_getElem hj]; rfl
  rw [e] at hl
  rw [List.take_succ_eq_append_getElem hj, List.drop_eq_getElem_cons hj]
  unfold Go.Proofs.Ytpkdbkheggfkkaa.SlcK.insEnd
  rw [List.reverse_append, List.reverse_singleton, List.singleton_append, Go.Proofs.Ytpkdbkheggfkkaa.SlcK.insRev, if_pos (show spec_l19Sorted.lt x out[j] = true from decide_eq_true hl)]
  simp
theorem spec_l19Sorted.stop (out : List (S56)) (x : S56) (j : Nat) (hj : j ≤ out.length) (hl : j = 0 ∨ ¬ (out.getD (j - 1) z56).f1 < x.f1) : Go.Proofs.Ytpkdbkheggfkkaa.SlcK.insEnd spec_l19Sorted.lt (out.take j) x ++ out.drop j = out.take j ++ [x] ++ out.drop j := by
  rcases Nat.eq_zero_or_pos j with rfl | hp
  · simp [Go.Proofs.Ytpkdbkheggfkkaa.SlcK.insEnd, Go.Proofs.Ytpkdbkheggfkkaa.SlcK.insRev]
  · obtain ⟨m, rfl⟩ : ∃ m, j = m + 1 := ⟨j - 1, by omega⟩
    rcases hl with hl | hl
    · omega
    rw [Nat.add_sub_cancel] at hl
    have hm : m < out.length := by omega
    have e : out.getD m z56 = out[m] := by rw [List.getD_eq_getElem?_getD, List.getElem?_eq_getElem hm]; rfl
    rw [e] at hl
    have h2 : Go.Proofs.Ytpkdbkheggfkkaa.SlcK.insEnd spec_l19Sorted.lt (out.take (m + 1)) x = out.take (m + 1) ++ [x] := by
      rw [List.take_succ_eq_append_getElem hm]
      unfold Go.Proofs.Ytpkdbkheggfkkaa.SlcK.insEnd
      rw [List.reverse_append, List.reverse_singleton, List.singleton_append, Go.Proofs.Ytpkdbkheggfkkaa.SlcK.insRev, if_neg (show ¬ spec_l19Sorted.lt x out[m] = true from fun q => hl (of_decide_eq_true q))]
      simp
    rw [h2]
theorem spec_l19Sorted.put_eq (l0 out : List (S56)) (i j : Nat) (hi : i < l0.length) (hj : j ≤ out.length) (ho : out.length < 1099511627776) : spec_l19Sorted.put l0 [] [] out (i : Int) (j : Int) = some (out.take j ++ [rd_T56 l0 (i : Int)] ++ out.drop j) := by
  unfold spec_l19Sorted.put
  simp only [Option.bind_some, Int.toNat_natCast, List.nil_append, List.length_nil, List.length_append, List.length_take, List.length_drop, List.length_singleton]
  repeat rw [if_pos (by omega)]
  all_goals rfl
theorem spec_l19Sorted.next (l0 : List (S56)) (i : Nat) (hi : i < l0.length) : Go.Proofs.Ytpkdbkheggfkkaa.SlcK.insEnd spec_l19Sorted.lt (Go.Proofs.Ytpkdbkheggfkkaa.SlcK.inSort spec_l19Sorted.lt (l0.take i)) (rd_T56 l0 (i : Int)) = Go.Proofs.Ytpkdbkheggfkkaa.SlcK.inSort spec_l19Sorted.lt (l0.take (i + 1)) := by
  have e : rd_T56 l0 (i : Int) = l0[i] := by
    unfold rd_T56
    rw [Int.toNat_natCast, List.getD_eq_getElem?_getD, List.getElem?_eq_getElem hi]; rfl
  rw [e, List.take_succ_eq_append_getElem hi]
  unfold Go.Proofs.Ytpkdbkheggfkkaa.SlcK.inSort
  rw [List.foldl_append]
  rfl
theorem in_len {α : Type} (lt : α → α → Bool) (l : List α) : (Go.Proofs.Ytpkdbkheggfkkaa.SlcK.inSort lt l).length = l.length := by
  cases l with
  | nil => rfl
  | cons x l => haveI : Inhabited α := ⟨x⟩; exact Go.Proofs.Ytpkdbkheggfkkaa.SlcK.inSort_length lt (x :: l)
def spec_l19Sorted.f (l0 : List (S56)) : Option (List (S56)) := if l0.length < 1099511627776 then some (Go.Proofs.Ytpkdbkheggfkkaa.SlcK.inSort spec_l19Sorted.lt l0) else none
set_option maxHeartbeats 16000000 in
set_option maxRecDepth 100000 in
theorem spec_l19Sorted.calls (A0 : Option Addr) (c0 : Nat) (l0 : List (S56)) (r : List (S56)) (w : World) (hr0 : Kd.C k56 w A0 l0.length l0) (hc0 : l0.length ≤ c0) (h : spec_l19Sorted.f l0 = some r) :
    Calls Try.prog 81 #[.slice A0 l0.length c0] w fun e w' => ∃ v0_ : Value, e = .returned (v0_) ∧ Kd.R k56 56 w' w.heap.size (fun _ => True) v0_ r ∧ Below w.heap.size w w' := by
  obtain ⟨wB, hwB⟩ : ∃ wB, wB = w := ⟨_, rfl⟩
  subst hwB
  have hu56 := Try.underlying56
  have HRB := Aside0.mk hr0
  have HC0 := Aside0.mk hc0
  clear hr0 hc0
  have HBw := Aside0.mk (Below.refl wB.heap.size wB)
  unfold spec_l19Sorted.f at h
  split at h
  rotate_left
  · cases h
  rename_i hl0
  have HRES := Aside0.mk (Option.some.inj h)
  clear h
  have hl0z : (l0.length : Int) < 1099511627776 := by omega
  go_enter Try.func81, Try.ntmps81
  go_wp2_with ((with_reducible refine gate_dst (N := 6) rfl ?_); refine Kd.R_lit k56 _ 56 rfl (N := 6) rfl (xs := ([] : List (S56))) (inner := []) (ok := fun _ => True) (okp := fun _ => True) (by first | (go_simp; done) | (go_simp; rfl)) (Reps.none _ _) (fun _ hk => hk) trivial (Below.refl _ _) (Nat.le_refl _) (by simp) ?_; intro v0_ w1 ho hb hg_ hnew_; have HO := Aside0.mk ho; have HBn := Aside0.mk hb; clear ho hb hg_ hnew_ HBw; have HBw := HBn; clear HBn)
  go_loopg [3, 4] l0.length (fun gk v3 v4 w' => ∃ (out : List (S56)) (i : Nat) (a4 : Int), v4 = .int .i64 a4 ∧ Aside0 (a4 = (i : Int)) ∧ i ≤ l0.length ∧ l0.length - i ≤ gk ∧ Aside0 (Kd.R k56 56 w' wB.heap.size (fun _ => True) v3 out) ∧ Aside0 (out = Go.Proofs.Ytpkdbkheggfkkaa.SlcK.inSort spec_l19Sorted.lt (l0.take i)) ∧ Aside0 (Below wB.heap.size wB w'))
  case atStart => exact ⟨[], 0, 0, (by first | rfl | (simp; done)), ⟨rfl⟩, by omega, by omega, HO, ⟨rfl⟩, HBw⟩
  case round =>
    clear HO HBw
    obtain ⟨out, i, a4, rfl, HA4, hi, hg1, HO, HOUT, HBw⟩ := hrel
    obtain ⟨gka, hgka⟩ : ∃ g_, g_ = gk := ⟨_, rfl⟩
    obtain ⟨A3, c3, e3, hc3, hR3⟩ := Kd.R_reads HO.out
    subst e3
    have HC3 := Aside0.mk hc3
    have HRO := Aside0.mk hR3
    clear hc3 hR3
    have hlen : Aside0 (out.length = i) := ⟨by rw [HOUT.out, in_len, List.length_take]; omega⟩
    by_cases hlt : i < l0.length
    rotate_left
    · have c1 : decide (a4 < (l0.length : Int)) = false := decide_eq_false (by have := HA4.out; omega)
      go_wp2
      go_ret
      have e : out = r := by rw [HOUT.out, ← HRES.out, List.take_of_length_le (by omega)]
      subst e
      exact ⟨_, rfl, HO.out, HBw.out⟩
    have c1 : decide (a4 < (l0.length : Int)) = true := decide_eq_true (by have := HA4.out; omega)
    obtain ⟨adx, ex, hx_0, hx_1, hx_2⟩ := at_T56 HRB.out a4 (by have := HA4.out; omega) (by have := HA4.out; omega)
    subst ex
    replace hx_0 := (HBw.out.cell (World.block_lt_of_cell? wB _ hx_0)).trans hx_0
    replace hx_1 := (HBw.out.cell (World.block_lt_of_cell? wB _ hx_1)).trans hx_1
    replace hx_2 := (HBw.out.cell (World.block_lt_of_cell? wB _ hx_2)).trans hx_2
    obtain ⟨x, hx⟩ : ∃ x, x = rd_T56 l0 a4 := ⟨_, rfl⟩
    have HX := Aside0.mk hx
    clear hx
    have pi : (0 ≤ a4) = True := eq_true (by have := HA4.out; omega)
    have qi : (a4 < (l0.length : Int)) = True := eq_true (by have := HA4.out; omega)
    go_wp2
    go_loopg [5] out.length (fun g2 v5 w' => ∃ (j : Nat) (a5 : Int), v5 = .int .i64 a5 ∧ Aside0 (a5 = (j : Int)) ∧ Aside0 (j ≤ out.length) ∧ Aside0 (j ≤ g2) ∧ Aside0 (Go.Proofs.Ytpkdbkheggfkkaa.SlcK.insEnd spec_l19Sorted.lt out x = Go.Proofs.Ytpkdbkheggfkkaa.SlcK.insEnd spec_l19Sorted.lt (out.take j) x ++ out.drop j) ∧ Aside0 (Drawn0 wr w'))
    case atStart => exact ⟨out.length, out.length, (by first | rfl | (simp; done)), ⟨rfl⟩, ⟨Nat.le_refl _⟩, ⟨Nat.le_refl _⟩, ⟨by simp⟩, ⟨Drawn0.refl _⟩⟩
    case round =>
      obtain ⟨j, a5, rfl, HA5, HJ, HG2, HI, HD⟩ := hrel
      obtain ⟨nd, hnd⟩ := HD.out.out
      subst hnd
      by_cases hp : 0 < j
      · have cj : decide (0 < a5) = true := decide_eq_true (by have := HA5.out; omega)
        obtain ⟨q, hq⟩ : ∃ q : Int, q = a5 - 1 := ⟨_, rfl⟩
        have hq0 : q = (j : Int) - 1 := by have := HA5.out; omega
        have es : wrap64 (a5 - 1) = q := by have := hlen.out; have := HJ.out; have := HA5.out; unfold wrap64; omega
        have es2 : IntKind.i64.wrap (a5 - 1) = q := by rw [i64_w]; exact es
        have pj : (0 ≤ q) = True := eq_true (by omega)
        have qj : (q < (out.length : Int)) = True := eq_true (by have := HJ.out; omega)
        obtain ⟨ady, ey, hy_0, hy_1, hy_2⟩ := at_T56 HRO.out q (by omega) (by have := HJ.out; omega)
        have HQ := Aside0.mk hq0
        clear hq hq0
        subst ey
        by_cases hl : (rd_T56 out q).f1 < (rd_T56 l0 a4).f1
        · have cl : decide ((rd_T56 out q).f1 < (rd_T56 l0 a4).f1) = true := decide_eq_true hl
          go_wp2
          repeat (go_quiet (fail); try go_wp2)
          go_roundg (gk - 1)
          case measure => have := HG2.out; omega
          case rel => exact ⟨j - 1, q, (by first | rfl | (simp; done)), ⟨by have := HQ.out; omega⟩, ⟨by have := HJ.out; omega⟩, ⟨by have := HG2.out; omega⟩, ⟨by
            rw [HI.out]
            have h1 := spec_l19Sorted.step out x (j - 1) (by have := HJ.out; omega) (by rw [show j - 1 = q.toNat by have := HQ.out; omega, HX.out]; exact hl)
            rw [show j - 1 + 1 = j by omega] at h1
            exact h1⟩, ⟨by first | exact HD.out.step _ | exact ⟨⟨_, rfl⟩⟩⟩⟩
        · have cl : decide ((rd_T56 out q).f1 < (rd_T56 l0 a4).f1) = false := decide_eq_false hl
          have HST : Aside0 (j = 0 ∨ ¬ (out.getD (j - 1) z56).f1 < x.f1) := ⟨.inr (by rw [show j - 1 = q.toNat by have := HQ.out; omega, HX.out]; exact hl)⟩
          go_wp2
          repeat (go_quiet (fail); try go_wp2)
          clear hy_0 hy_1 hy_2 pj qj es es2 cl hl
          generalize (some ady : Option Addr) = A3 at HRO ⊢
          clear cj hp
          obtain ⟨rn, hrn⟩ : ∃ r_ : List (S56), r_ = out.take j ++ [x] ++ out.drop j := ⟨_, rfl⟩
          have HN := Aside0.mk (show rn = Go.Proofs.Ytpkdbkheggfkkaa.SlcK.inSort spec_l19Sorted.lt (l0.take (i + 1)) by
            rw [hrn, ← spec_l19Sorted.next l0 i hlt, ← HOUT.out, ← HA4.out, ← HX.out, HI.out]
            exact (spec_l19Sorted.stop out x j HJ.out (by have := HST.out; omega)).symm)
          have h : spec_l19Sorted.put l0 [] [] out a4 a5 = some rn := by
            rw [hrn, HX.out, HA4.out, HA5.out]
            exact spec_l19Sorted.put_eq l0 out i j hlt HJ.out (by have := hlen.out; omega)
          clear hrn HI HST
          generalize hw : (wr.drewN nd).drewN nq = w
          have HDW := Aside0.mk (show Below wr.heap.size wr w by rw [← hw]; exact (HD.out.step nq).below)
          have HBb := Aside0.mk (below_step HBw.out HDW.out)
          have HR0 := Aside0.mk (Kd.C_below HRB.out HBb.out)
          have HR3 := Aside0.mk (Kd.C_below HRO.out HDW.out)
          have HB := Aside0.mk (Below.refl w.heap.size w)
          clear hw HRO
          generalize hA0 : (some adx : Option Addr) = A0 at HR0 ⊢
          have H : ((some (([] : List (S56)) : List (S56))).bind fun y107 => (if 0 ≤ a5 then (if a5 ≤ (out.length : Int) then ((some (out.take (a5 : Int).toNat : List (S56))).bind fun y110 => (if y107.length + y110.length < 5864062014805 then ((some (y107 ++ y110 : List (S56))).bind fun y114 => (if 0 ≤ a4 then (if a4 < (l0.length : Int) then ((some (([(⟨(rd_T56 l0 a4).f0, (rd_T56 l0 a4).f1, (rd_T56 l0 a4).f2⟩ : S56)] : List (S56)) : List (S56))).bind fun y118 => (if y114.length + y118.length < 5864062014805 then ((some (y114 ++ y118 : List (S56))).bind fun y121 => ((some (out.drop (a5 : Int).toNat : List (S56))).bind fun y124 => (if y121.length + y124.length < 5864062014805 then (some (y121 ++ y124)) else (none)))) else (none))) else (none)) else (none))) else (none))) else (none)) else (none))) = some rn := h
          clear h
          obtain ⟨y107, hy107⟩ : ∃ y_ : List (S56), y_ = (([] : List (S56))) := ⟨_, rfl⟩
          replace H : (if 0 ≤ a5 then (if a5 ≤ (out.length : Int) then ((some (out.take (a5 : Int).toNat : List (S56))).bind fun y110 => (if y107.length + y110.length < 5864062014805 then ((some (y107 ++ y110 : List (S56))).bind fun y114 => (if 0 ≤ a4 then (if a4 < (l0.length : Int) then ((some (([(⟨(rd_T56 l0 a4).f0, (rd_T56 l0 a4).f1, (rd_T56 l0 a4).f2⟩ : S56)] : List (S56)) : List (S56))).bind fun y118 => (if y114.length + y118.length < 5864062014805 then ((some (y114 ++ y118 : List (S56))).bind fun y121 => ((some (out.drop (a5 : Int).toNat : List (S56))).bind fun y124 => (if y121.length + y124.length < 5864062014805 then (some (y121 ++ y124)) else (none)))) else (none))) else (none)) else (none))) else (none))) else (none)) else (none)) = some rn := by first | (rw [hy107]; with_reducible exact H) | (have H2_ := (Option.bind_some _ _).symm.trans H; rw [hy107]; with_reducible exact H2_) | (have H2_ := (Option.bind_some _ _).symm.trans H; with_reducible exact H2_) | with_reducible exact H | (rw [hy107]; exact H) | exact H
          have Ny107 := Aside0.mk hy107
          clear hy107
          by_cases c7 : 0 ≤ a5
          · rw [if_pos c7] at H
            have c7b0 := eq_true c7
            have c7b1 : decide (0 ≤ a5) = true := decide_eq_true c7
            clear c7
            by_cases c8 : a5 ≤ (out.length : Int)
            · rw [if_pos c8] at H
              have c8b0 := eq_true c8
              have c8b1 : decide (a5 ≤ (out.length : Int)) = true := decide_eq_true c8
              clear c8
              obtain ⟨y110, hy110⟩ : ∃ y_ : List (S56), y_ = (out.take (a5 : Int).toNat) := ⟨_, rfl⟩
              replace H : (if y107.length + y110.length < 5864062014805 then ((some (y107 ++ y110 : List (S56))).bind fun y114 => (if 0 ≤ a4 then (if a4 < (l0.length : Int) then ((some (([(⟨(rd_T56 l0 a4).f0, (rd_T56 l0 a4).f1, (rd_T56 l0 a4).f2⟩ : S56)] : List (S56)) : List (S56))).bind fun y118 => (if y114.length + y118.length < 5864062014805 then ((some (y114 ++ y118 : List (S56))).bind fun y121 => ((some (out.drop (a5 : Int).toNat : List (S56))).bind fun y124 => (if y121.length + y124.length < 5864062014805 then (some (y121 ++ y124)) else (none)))) else (none))) else (none)) else (none))) else (none)) = some rn := by first | (rw [hy110]; with_reducible exact H) | (have H2_ := (Option.bind_some _ _).symm.trans H; rw [hy110]; with_reducible exact H2_) | (have H2_ := (Option.bind_some _ _).symm.trans H; with_reducible exact H2_) | with_reducible exact H | (rw [hy110]; exact H) | exact H
              have Ny110 := Aside0.mk hy110
              clear hy110
              by_cases c9 : y107.length + y110.length < 5864062014805
              · rw [if_pos c9] at H
                have LMc9 := Aside0.mk c9
                clear c9
                obtain ⟨y114, hy114⟩ : ∃ y_ : List (S56), y_ = (y107 ++ y110) := ⟨_, rfl⟩
                replace H : (if 0 ≤ a4 then (if a4 < (l0.length : Int) then ((some (([(⟨(rd_T56 l0 a4).f0, (rd_T56 l0 a4).f1, (rd_T56 l0 a4).f2⟩ : S56)] : List (S56)) : List (S56))).bind fun y118 => (if y114.length + y118.length < 5864062014805 then ((some (y114 ++ y118 : List (S56))).bind fun y121 => ((some (out.drop (a5 : Int).toNat : List (S56))).bind fun y124 => (if y121.length + y124.length < 5864062014805 then (some (y121 ++ y124)) else (none)))) else (none))) else (none)) else (none)) = some rn := by first | (rw [hy114]; with_reducible exact H) | (have H2_ := (Option.bind_some _ _).symm.trans H; rw [hy114]; with_reducible exact H2_) | (have H2_ := (Option.bind_some _ _).symm.trans H; with_reducible exact H2_) | with_reducible exact H | (rw [hy114]; exact H) | exact H
                have Ny114 := Aside0.mk hy114
                clear hy114
                by_cases c10 : 0 ≤ a4
                · rw [if_pos c10] at H
                  have c10b0 : decide (0 ≤ a4) = true := decide_eq_true c10
                  clear c10
                  by_cases c11 : a4 < (l0.length : Int)
                  · rw [if_pos c11] at H
                    have c11b0 : decide (a4 < (l0.length : Int)) = true := decide_eq_true c11
                    clear c11
                    obtain ⟨y118, hy118⟩ : ∃ y_ : List (S56), y_ = (([(⟨(rd_T56 l0 a4).f0, (rd_T56 l0 a4).f1, (rd_T56 l0 a4).f2⟩ : S56)] : List (S56))) := ⟨_, rfl⟩
                    replace H : (if y114.length + y118.length < 5864062014805 then ((some (y114 ++ y118 : List (S56))).bind fun y121 => ((some (out.drop (a5 : Int).toNat : List (S56))).bind fun y124 => (if y121.length + y124.length < 5864062014805 then (some (y121 ++ y124)) else (none)))) else (none)) = some rn := by first | (rw [hy118]; with_reducible exact H) | (have H2_ := (Option.bind_some _ _).symm.trans H; rw [hy118]; with_reducible exact H2_) | (have H2_ := (Option.bind_some _ _).symm.trans H; with_reducible exact H2_) | with_reducible exact H | (rw [hy118]; exact H) | exact H
                    have Ny118 := Aside0.mk hy118
                    clear hy118
                    by_cases c12 : y114.length + y118.length < 5864062014805
                    · rw [if_pos c12] at H
                      have LMc12 := Aside0.mk c12
                      clear c12
                      obtain ⟨y121, hy121⟩ : ∃ y_ : List (S56), y_ = (y114 ++ y118) := ⟨_, rfl⟩
                      replace H : ((some (out.drop (a5 : Int).toNat : List (S56))).bind fun y124 => (if y121.length + y124.length < 5864062014805 then (some (y121 ++ y124)) else (none))) = some rn := by first | (rw [hy121]; with_reducible exact H) | (have H2_ := (Option.bind_some _ _).symm.trans H; rw [hy121]; with_reducible exact H2_) | (have H2_ := (Option.bind_some _ _).symm.trans H; with_reducible exact H2_) | with_reducible exact H | (rw [hy121]; exact H) | exact H
                      have Ny121 := Aside0.mk hy121
                      clear hy121
                      have c13b0 := eq_true (of_decide_eq_true (by first | (with_reducible assumption) | assumption) : 0 ≤ a5)
                      have c14b0 := eq_true (of_decide_eq_true (by first | (with_reducible assumption) | assumption) : a5 ≤ (out.length : Int))
                      obtain ⟨y124, hy124⟩ : ∃ y_ : List (S56), y_ = (out.drop (a5 : Int).toNat) := ⟨_, rfl⟩
                      replace H : (if y121.length + y124.length < 5864062014805 then (some (y121 ++ y124)) else (none)) = some rn := by first | (rw [hy124]; with_reducible exact H) | (have H2_ := (Option.bind_some _ _).symm.trans H; rw [hy124]; with_reducible exact H2_) | (have H2_ := (Option.bind_some _ _).symm.trans H; with_reducible exact H2_) | with_reducible exact H | (rw [hy124]; exact H) | exact H
                      have Ny124 := Aside0.mk hy124
                      clear hy124
                      by_cases c15 : y121.length + y124.length < 5864062014805
                      · rw [if_pos c15] at H
                        have LMc15 := Aside0.mk c15
                        clear c15
                        obtain ⟨y128, hy128⟩ : ∃ y_ : List (S56), y_ = (y121 ++ y124) := ⟨_, rfl⟩
                        replace H : (some y128) = some rn := by first | (rw [hy128]; with_reducible exact H) | (have H2_ := (Option.bind_some _ _).symm.trans H; rw [hy128]; with_reducible exact H2_) | (have H2_ := (Option.bind_some _ _).symm.trans H; with_reducible exact H2_) | with_reducible exact H | (rw [hy128]; exact H) | exact H
                        have Ny128 := Aside0.mk hy128
                        clear hy128
                        obtain rfl := Option.some.inj H
                        try go_wp2
                        have n0_ := Aside0.mk (below_drew1 HB.out)
                        clear HB
                        have HB := n0_
                        clear n0_
                        have q17 : (a5 : Int) ≤ ((out.length : Int) : Int) := of_decide_eq_true (by first | (with_reducible assumption) | assumption)
                        obtain ⟨i017, hi017, _, hsz17, _⟩ := info_parts info56
                        have hroom17 : out.length ≤ c3 := HC3.out
                        have hC17 : Kd.C k56 _ A3 out.length out := HR3.out
                        have hcut17 := cut_to (P := Try.prog) 26 56 .i64 Try.underlying26 hi017 A3 out.length c3 a5 (of_decide_eq_true (by first | (with_reducible assumption) | assumption)) q17 hroom17
                        have hr17 := Kd.C_take (m := (a5 : Int).toNat) hC17 (by omega)
                        have hy17 : y110.length = (a5 : Int).toNat := (by rw [Ny110.out, List.length_take]; omega)
                        rw [← Ny110.out] at hr17
                        rw [← hy17] at hcut17
                        have HR113 := Aside0.mk hr17
                        have HC113 := Aside0.mk (show y110.length ≤ c3 from by omega)
                        clear hr17 hC17 hroom17 hi017 hsz17
                        have KY17 := Aside0.mk hy17
                        clear hy17
                        replace q17 := eq_true q17
                        have p117 : 0 ≤ (a4 : Int) := of_decide_eq_true (by first | (with_reducible assumption) | assumption)
                        have q117 : a4 < (l0.length : Int) := of_decide_eq_true (by first | (with_reducible assumption) | assumption)
                        obtain ⟨ad117, e117, hx117_0, hx117_1, hx117_2⟩ := at_T56 HR0.out a4 p117 q117
                        have hw117_2 := hx117_2
                        have hw117_1 := hx117_1
                        have hw117_0 := hx117_0
                        cases e117
                        replace hx117_0 := (HB.out.cell (World.block_lt_of_cell? w _ hx117_0)).trans hx117_0
                        replace hx117_1 := (HB.out.cell (World.block_lt_of_cell? w _ hx117_1)).trans hx117_1
                        replace hx117_2 := (HB.out.cell (World.block_lt_of_cell? w _ hx117_2)).trans hx117_2
                        replace p117 := eq_true p117
                        replace q117 := eq_true q117
                        have q18 : (a5 : Int) ≤ ((out.length : Int) : Int) := of_decide_eq_true (by first | (with_reducible assumption) | assumption)
                        obtain ⟨i018, hi018, _, hsz18, _⟩ := info_parts info56
                        have hroom18 : out.length ≤ c3 := HC3.out
                        have hC18 : Kd.C k56 _ A3 out.length out := HR3.out
                        have q018 : (0 : Int) ≤ (a5 : Int) := of_decide_eq_true (by first | (with_reducible assumption) | assumption)
                        have hcut18 := cut_from (P := Try.prog) 26 56 .i64 Try.underlying26 hi018 3 hsz18 A3 out.length c3 a5 q018 q18
                        have hr18 := Kd.C_drop (m := (a5 : Int).toNat) (c := c3) hC18 (by omega) hroom18
                        obtain ⟨A18, hA18⟩ : ∃ A1, A1 = (if c3 = (a5 : Int).toNat then A3 else (A3 : Option Addr).map (·.add ((a5 : Int).toNat * 3))) := ⟨_, rfl⟩
                        obtain ⟨c18, hc18⟩ : ∃ c1, c1 = c3 - (a5 : Int).toNat := ⟨_, rfl⟩
                        have hy18 : y124.length = out.length - (a5 : Int).toNat := (by rw [Ny124.out, List.length_drop] <;> omega)
                        rw [show (out).drop (a5 : Int).toNat = y124 from Ny124.out.symm] at hr18
                        replace hr18 : Kd.C k56 _ A18 y124.length y124 := (by rw [hA18]; exact hr18)
                        rw [← hy18, ← hA18, ← hc18] at hcut18
                        have HR127 := Aside0.mk hr18
                        have HC127 := Aside0.mk (show y124.length ≤ c18 from by rw [hy18, hc18]; exact Nat.sub_le_sub_right hroom18 _)
                        clear hr18 hC18 hroom18 hi018 hsz18 hc18
                        have KY18 := Aside0.mk hy18
                        have KA18 := Aside0.mk hA18
                        clear hy18 hA18
                        replace q18 := eq_true q18
                        refine start_ (n := 16) (S := fun w' => w'.cell? (ad117.add ((a4).toNat * 3)) = some (.int .i64 ((rd_T56 l0 a4).f0)) ∧ w'.cell? ⟨(ad117.add ((a4).toNat * 3)).block, (ad117.add ((a4).toNat * 3)).off + 1, none⟩ = some (.int .i64 ((rd_T56 l0 a4).f1)) ∧ w'.cell? ⟨(ad117.add ((a4).toNat * 3)).block, (ad117.add ((a4).toNat * 3)).off + 2, none⟩ = some (.int .i64 ((rd_T56 l0 a4).f2))) (ds := []) #[false, false, false, false, false, false, false, false, false, false, false, false, false, false, false, false] (by kernel_rfl) rfl rfl ⟨((HB.out.cell (World.block_lt_of_cell? w _ hw117_0)).trans hw117_0), ((HB.out.cell (World.block_lt_of_cell? w _ hw117_1)).trans hw117_1), ((HB.out.cell (World.block_lt_of_cell? w _ hw117_2)).trans hw117_2)⟩ (fun hHeld => ?_); refine with_tabW spec_l19Sorted.tab8 spec_l19Sorted.bits8 (fun HT_ HW_ => ?_)
                        generalize w.drew = w16 at HB HR113 HR127 hx117_0 hx117_1 hx117_2 hHeld ⊢
                        refine pure_ (i := 1) (N := some 34) (v := ?_) (a' := ?_) #[false, true, false, false, false, false, false, false, false, false, false, false, false, false, false, false] rfl rfl (any_of HT_.out (by kernel_rfl)) (fun _ _ _ h => h) (Or.inl ⟨by rfl, ?_⟩) ?_ ?_
                        rotate_left
                        · intro w'
                          go_simp
                          with_reducible rfl
                        rotate_left
                        · simp only [Act.put, List.setIfInBounds_toArray, List.set_cons_zero, List.set_cons_succ, i64_w, i32_w]
                          rfl
                        refine pure_ (i := 2) (N := some 35) (v := ?_) (a' := ?_) #[false, true, true, false, false, false, false, false, false, false, false, false, false, false, false, false] rfl rfl (any_of HT_.out (by kernel_rfl)) (fun _ _ _ h => h) (Or.inl ⟨by rfl, ?_⟩) ?_ ?_
                        rotate_left
                        · intro w'
                          go_simp
                          with_reducible rfl
                        rotate_left
                        · simp only [Act.put, List.setIfInBounds_toArray, List.set_cons_zero, List.set_cons_succ, i64_w, i32_w]
                          rfl
                        refine pure_ (i := 3) (N := some 36) (v := ?_) (a' := ?_) #[false, true, true, true, false, false, false, false, false, false, false, false, false, false, false, false] rfl rfl (any_of HT_.out (by kernel_rfl)) (fun _ _ _ h => h) (Or.inl ⟨by rfl, ?_⟩) ?_ ?_
                        rotate_left
                        · intro w'
                          go_simp
                          with_reducible rfl
                        rotate_left
                        · simp only [Act.put, List.setIfInBounds_toArray, List.set_cons_zero, List.set_cons_succ, i64_w, i32_w]
                          rfl
                        refine pure_ (i := 5) (N := some 38) (v := ?_) (a' := ?_) #[false, true, true, true, false, true, false, false, false, false, false, false, false, false, false, false] rfl rfl (any_of HT_.out (by kernel_rfl)) (fun _ _ _ h => h) (Or.inl ⟨by rfl, ?_⟩) ?_ ?_
                        rotate_left
                        · intro w'
                          go_simp
                          with_reducible rfl
                        rotate_left
                        · simp only [Act.put, List.setIfInBounds_toArray, List.set_cons_zero, List.set_cons_succ, i64_w, i32_w]
                          rfl
                        refine pure_ (i := 6) (N := some 39) (v := ?_) (a' := ?_) #[false, true, true, true, false, true, true, false, false, false, false, false, false, false, false, false] rfl rfl (any_of HT_.out (by kernel_rfl)) (fun _ _ _ h => h) (Or.inl ⟨by rfl, ?_⟩) ?_ ?_
                        rotate_left
                        · intro w'
                          go_simp
                          with_reducible rfl
                        rotate_left
                        · simp only [Act.put, List.setIfInBounds_toArray, List.set_cons_zero, List.set_cons_succ, i64_w, i32_w]
                          rfl
                        refine pure_ (i := 7) (N := some 40) (v := ?_) (a' := ?_) #[false, true, true, true, false, true, true, true, false, false, false, false, false, false, false, false] rfl rfl (any_of HT_.out (by kernel_rfl)) (fun _ _ _ h => h) (Or.inl ⟨by rfl, ?_⟩) ?_ ?_
                        rotate_left
                        · intro w'
                          go_simp
                          with_reducible rfl
                        rotate_left
                        · simp only [Act.put, List.setIfInBounds_toArray, List.set_cons_zero, List.set_cons_succ, i64_w, i32_w]
                          rfl
                        refine pure_ (i := 11) (N := some 44) (v := ?_) (a' := ?_) #[false, true, true, true, false, true, true, true, false, false, false, true, false, false, false, false] rfl rfl (any_of HT_.out (by kernel_rfl)) (fun _ _ _ h => h) (Or.inl ⟨by rfl, ?_⟩) ?_ ?_
                        rotate_left
                        · intro w'
                          go_simp
                          with_reducible rfl
                        rotate_left
                        · simp only [Act.put, List.setIfInBounds_toArray, List.set_cons_zero, List.set_cons_succ, i64_w, i32_w]
                          rfl
                        refine pure_ (i := 12) (N := some 45) (v := ?_) (a' := ?_) #[false, true, true, true, false, true, true, true, false, false, false, true, true, false, false, false] rfl rfl (any_of HT_.out (by kernel_rfl)) (fun _ _ _ h => h) (Or.inl ⟨by rfl, ?_⟩) ?_ ?_
                        rotate_left
                        · intro w'
                          go_simp
                          with_reducible rfl
                        rotate_left
                        · simp only [Act.put, List.setIfInBounds_toArray, List.set_cons_zero, List.set_cons_succ, i64_w, i32_w]
                          rfl
                        refine pure_ (i := 13) (N := some 46) (v := ?_) (a' := ?_) #[false, true, true, true, false, true, true, true, false, false, false, true, true, true, false, false] rfl rfl (any_of HT_.out (by kernel_rfl)) (fun _ _ _ h => h) (Or.inl ⟨by rfl, ?_⟩) ?_ ?_
                        rotate_left
                        · intro w'
                          go_simp
                          with_reducible rfl
                        rotate_left
                        · simp only [Act.put, List.setIfInBounds_toArray, List.set_cons_zero, List.set_cons_succ, i64_w, i32_w]
                          rfl
                        refine take_ (i := 8) (N := some 41) (v := ?_) (a' := ?_) #[false, true, true, true, false, true, true, true, true, false, false, true, true, true, false, false] rfl rfl (take_ofW HT_.out HW_.out (by kernel_rfl)) (fun _ _ _ h => h) (Or.inl ⟨by rfl, ?_⟩) hHeld ?_ ?_
                        rotate_left
                        · rintro w' ⟨s0, s1, s2⟩
                          go_simp
                          with_reducible rfl
                        rotate_left
                        · simp only [Act.put, List.setIfInBounds_toArray, List.set_cons_zero, List.set_cons_succ, i64_w, i32_w]
                          rfl
                        refine join_ (σ := Value × Value × Value) 3 #[true, true, true, true, true, true, true, true, true, true, false, true, true, true, false, false] (fun s_ => [(33, s_.1), (37, s_.2.1), (42, s_.2.2)]) (fun s_ w' => (w'.cell? (ad117.add ((a4).toNat * 3)) = some (.int .i64 ((rd_T56 l0 a4).f0)) ∧ w'.cell? ⟨(ad117.add ((a4).toNat * 3)).block, (ad117.add ((a4).toNat * 3)).off + 1, none⟩ = some (.int .i64 ((rd_T56 l0 a4).f1)) ∧ w'.cell? ⟨(ad117.add ((a4).toNat * 3)).block, (ad117.add ((a4).toNat * 3)).off + 2, none⟩ = some (.int .i64 ((rd_T56 l0 a4).f2))) ∧ (Kd.R k56 56 w' w.heap.size (fun k_ => some k_ ≠ (s_.2.2 : Value).ownBlock) s_.2.1 y114) ∧ (Kd.R k56 56 w' w.heap.size (fun k_ => some k_ ≠ (s_.2.1 : Value).ownBlock) s_.2.2 y118) ∧ (Below w.heap.size w w')) ?_ ?_
                        rotate_left
                        · intro hCont
                          refine two_ (i := 0) (j := 9) (Ni := some 33) (Nj := some 42) #[true, true, true, true, false, true, true, true, true, false, false, true, true, true, false, false] #[false, true, true, true, false, true, true, true, true, true, false, true, true, true, false, false] rfl rfl rfl rfl (two_of HT_.out (by kernel_rfl)) (by decide) (by decide) (fun K hK => ?_) (fun K hK => ?_)
                          · skip
                            refine Kd.R_lit_step k56 _ 56 ?hg (N := 33) ?hd (xs := ([] : List (S56))) (inner := []) (ok := fun _ => True) (okp := fun _ => True) ?hr ?hp (fun _ hk => hk) trivial (Below.refl _ _) (Nat.le_refl _) (by simp) ?_; (case hd => rfl); (case hg => rfl); (case hr => first | (go_simp; done) | (go_simp; rfl)); (case hp => exact (Reps.none _ _))
                            intro v108 w19 ho20 hb hg_ hnew_
                            clear hg_ hnew_
                            (first | rw [← Ny107.out] at ho20 | (simp only [Int.reduceToNat] at ho20; rw [← Ny107.out] at ho20))
                            have n0_ := Aside0.mk (Kd.R_lower ho20 (below_size (by repeat (first | (with_reducible first | exact HB.out | apply below_alloc | apply pw_below_drewN | apply below_drew1) | exact HB.out))))
                            have n1_ := Aside0.mk (below_step (by repeat (first | (with_reducible first | exact HB.out | apply below_alloc | apply pw_below_drewN | apply below_drew1) | exact HB.out)) hb)
                            clear HB
                            have HO109 := n0_
                            have HB := n1_
                            clear n0_ n1_
                            clear hb ho20
                            refine hK.out _ _ ⟨((HB.out.cell (World.block_lt_of_cell? w _ hw117_0)).trans hw117_0), ((HB.out.cell (World.block_lt_of_cell? w _ hw117_1)).trans hw117_1), ((HB.out.cell (World.block_lt_of_cell? w _ hw117_2)).trans hw117_2)⟩ (fun hHeld => ?_)
                            clear hK K
                            refine norm_ (a' := ?_) ?_ ?_
                            rotate_left
                            · show Act.put _ (some 33) _ = _
                              simp only [Act.put, List.setIfInBounds_toArray, List.set_cons_zero, List.set_cons_succ, i64_w, i32_w]
                              rfl
                            refine two_ (i := 4) (j := 9) (Ni := some 37) (Nj := some 42) #[true, true, true, true, true, true, true, true, true, false, false, true, true, true, false, false] #[true, true, true, true, false, true, true, true, true, true, false, true, true, true, false, false] rfl rfl rfl rfl (two_of HT_.out (by kernel_rfl)) (by decide) (by decide) (fun K hK => ?_) (fun K hK => ?_)
                            · skip
                              refine Kd.R_append_rows_step k56 (w0 := w) w.heap.size (by rfl) (.tmp 33) (.tmp 36) 26 56 (.agg #[(.int .i64 0), (.int .i64 0), (.int .i64 0)]) 24 rfl Try.underlying26 info56 rfl (by decide) (by omega) v108 y107 y110 _ _ _ (fun _ => True) (fun _ => False) rfl rfl ?aO ?aR (fun _ _ h => h) (fun _ h => h.elim) ?aF ?aB ?aS ?aL ?_
                              (case aR => repeat (first | exact (Kd.C_below HR113.out HB.out) | (with_reducible refine Kd.C_alloc ?_ _) | (with_reducible refine Kd.C_drewN ?_ _) | (with_reducible refine Kd.C_drew ?_)))
                              (case aB => exact (by repeat (first | (with_reducible first | exact HB.out | apply below_alloc | apply pw_below_drewN | apply below_drew1) | exact HB.out)))
                              (case aF => exact (fun _ _ => trivial))
                              (case aO => exact (by (with_reducible repeat (first | apply Kd.R_alloc | apply Kd.R_drewN | apply Kd.R_drew)); exact HO109.out))
                              (case aS => exact (below_size (by repeat (first | (with_reducible first | exact HB.out | apply below_alloc | apply pw_below_drewN | apply below_drew1) | exact HB.out))))
                              (case aL => have := LMc9.out; omega)
                              intro v115 w21 ho hb hg hat
                              rw [← Ny114.out] at ho
                              have n0_ := Aside0.mk (hb)
                              have n1_ := Aside0.mk (ho)
                              clear HB
                              clear HO109
                              have HB := n0_
                              have HO116 := n1_
                              clear n0_ n1_
                              clear ho hb hg hat
                              refine hK.out _ _ ⟨((HB.out.cell (World.block_lt_of_cell? w _ hw117_0)).trans hw117_0), ((HB.out.cell (World.block_lt_of_cell? w _ hw117_1)).trans hw117_1), ((HB.out.cell (World.block_lt_of_cell? w _ hw117_2)).trans hw117_2)⟩ (fun hHeld => ?_)
                              clear hK K
                              refine norm_ (a' := ?_) ?_ ?_
                              rotate_left
                              · show Act.put _ (some 37) _ = _
                                simp only [Act.put, List.setIfInBounds_toArray, List.set_cons_zero, List.set_cons_succ, i64_w, i32_w]
                                rfl
                              refine one_ (i := 9) (N := some 42) #[true, true, true, true, true, true, true, true, true, true, false, true, true, true, false, false] rfl rfl (one_of HT_.out (by kernel_rfl)) (by decide) (fun K hK => ?_)
                              refine Kd.R_lit_step k56 _ 56 ?hg (N := 42) ?hd (xs := ([(⟨(rd_T56 l0 a4).f0, (rd_T56 l0 a4).f1, (rd_T56 l0 a4).f2⟩ : S56)] : List (S56))) (inner := [.int .i64 ((rd_T56 l0 a4).f0), .int .i64 ((rd_T56 l0 a4).f1), .int .i64 ((rd_T56 l0 a4).f2)]) (ok := fun _ => True) (okp := fun _ => True) ?hr ?hp (fun _ hk => hk) trivial (Below.refl _ _) (Nat.le_refl _) (by simp) ?_; (case hd => rfl); (case hg => rfl); (case hr => first | (go_simp; done) | (go_simp; rfl)); (case hp => exact (Reps.c3 (show Kd.M k56 _ _ _ (⟨(rd_T56 l0 a4).f0, (rd_T56 l0 a4).f1, (rd_T56 l0 a4).f2⟩ : S56) [.int .i64 ((rd_T56 l0 a4).f0), .int .i64 ((rd_T56 l0 a4).f1), .int .i64 ((rd_T56 l0 a4).f2)] from (k56_mkM _ _ _ (⟨(rd_T56 l0 a4).f0, (rd_T56 l0 a4).f1, (rd_T56 l0 a4).f2⟩ : S56) )) (Reps.none _ _)))
                              intro v119 w22 ho23 hb hg_ hnew_
                              clear hg_ hnew_
                              (first | rw [← Ny118.out] at ho23 | (simp only [Int.reduceToNat] at ho23; rw [← Ny118.out] at ho23))
                              have n0_ := Aside0.mk (Kd.R_elder' (by (with_reducible repeat (first | apply Kd.R_alloc | apply Kd.R_drewN | apply Kd.R_drew)); exact HO116.out) (Kd.R_base ho23) hb)
                              have n1_ := Aside0.mk (Kd.R_lower (Kd.R_new' ho23 (Kd.R_lt (by (with_reducible repeat (first | apply Kd.R_alloc | apply Kd.R_drewN | apply Kd.R_drew)); exact HO116.out))) (below_size (by repeat (first | (with_reducible first | exact HB.out | apply below_alloc | apply pw_below_drewN | apply below_drew1) | exact HB.out))))
                              have n2_ := Aside0.mk (below_step (by repeat (first | (with_reducible first | exact HB.out | apply below_alloc | apply pw_below_drewN | apply below_drew1) | exact HB.out)) hb)
                              clear HO116
                              clear HB
                              have HO116 := n0_
                              have HO120 := n1_
                              have HB := n2_
                              clear n0_ n1_ n2_
                              clear hb ho23
                              refine hK.out _ _ ⟨((HB.out.cell (World.block_lt_of_cell? w _ hw117_0)).trans hw117_0), ((HB.out.cell (World.block_lt_of_cell? w _ hw117_1)).trans hw117_1), ((HB.out.cell (World.block_lt_of_cell? w _ hw117_2)).trans hw117_2)⟩ (fun hHeld => ?_)
                              clear hK K
                              refine norm_ (a' := ?_) ?_ ?_
                              rotate_left
                              · show Act.put _ (some 42) _ = _
                                simp only [Act.put, List.setIfInBounds_toArray, List.set_cons_zero, List.set_cons_succ, i64_w, i32_w]
                                rfl
                              exact norm_ (by simp only [putAll, Act.put, List.setIfInBounds_toArray, List.set_cons_zero, List.set_cons_succ]) (hCont (v108, v115, v119) _ ⟨hHeld, (by (with_reducible repeat (first | apply Kd.R_alloc | apply Kd.R_drewN | apply Kd.R_drew)); exact Kd.R_mono HO116.out (fun _ hk => hk.2)), (by (with_reducible repeat (first | apply Kd.R_alloc | apply Kd.R_drewN | apply Kd.R_drew)); exact Kd.R_mono HO120.out (fun _ hk => hk.2)), (by repeat (first | (with_reducible first | exact HB.out | apply below_alloc | apply pw_below_drewN | apply below_drew1) | exact HB.out))⟩)
                            · skip
                              refine Kd.R_lit_step k56 _ 56 ?hg (N := 42) ?hd (xs := ([(⟨(rd_T56 l0 a4).f0, (rd_T56 l0 a4).f1, (rd_T56 l0 a4).f2⟩ : S56)] : List (S56))) (inner := [.int .i64 ((rd_T56 l0 a4).f0), .int .i64 ((rd_T56 l0 a4).f1), .int .i64 ((rd_T56 l0 a4).f2)]) (ok := fun _ => True) (okp := fun _ => True) ?hr ?hp (fun _ hk => hk) trivial (Below.refl _ _) (Nat.le_refl _) (by simp) ?_; (case hd => rfl); (case hg => rfl); (case hr => first | (go_simp; done) | (go_simp; rfl)); (case hp => exact (Reps.c3 (show Kd.M k56 _ _ _ (⟨(rd_T56 l0 a4).f0, (rd_T56 l0 a4).f1, (rd_T56 l0 a4).f2⟩ : S56) [.int .i64 ((rd_T56 l0 a4).f0), .int .i64 ((rd_T56 l0 a4).f1), .int .i64 ((rd_T56 l0 a4).f2)] from (k56_mkM _ _ _ (⟨(rd_T56 l0 a4).f0, (rd_T56 l0 a4).f1, (rd_T56 l0 a4).f2⟩ : S56) )) (Reps.none _ _)))
                              intro v119 w21 ho22 hb hg_ hnew_
                              clear hg_ hnew_
                              (first | rw [← Ny118.out] at ho22 | (simp only [Int.reduceToNat] at ho22; rw [← Ny118.out] at ho22))
                              have n0_ := Aside0.mk (Kd.R_elder' (by (with_reducible repeat (first | apply Kd.R_alloc | apply Kd.R_drewN | apply Kd.R_drew)); exact HO109.out) (Kd.R_base ho22) hb)
                              have n1_ := Aside0.mk (Kd.R_lower (Kd.R_new' ho22 (Kd.R_lt (by (with_reducible repeat (first | apply Kd.R_alloc | apply Kd.R_drewN | apply Kd.R_drew)); exact HO109.out))) (below_size (by repeat (first | (with_reducible first | exact HB.out | apply below_alloc | apply pw_below_drewN | apply below_drew1) | exact HB.out))))
                              have n2_ := Aside0.mk (below_step (by repeat (first | (with_reducible first | exact HB.out | apply below_alloc | apply pw_below_drewN | apply below_drew1) | exact HB.out)) hb)
                              clear HO109
                              clear HB
                              have HO109 := n0_
                              have HO120 := n1_
                              have HB := n2_
                              clear n0_ n1_ n2_
                              clear hb ho22
                              refine hK.out _ _ ⟨((HB.out.cell (World.block_lt_of_cell? w _ hw117_0)).trans hw117_0), ((HB.out.cell (World.block_lt_of_cell? w _ hw117_1)).trans hw117_1), ((HB.out.cell (World.block_lt_of_cell? w _ hw117_2)).trans hw117_2)⟩ (fun hHeld => ?_)
                              clear hK K
                              refine norm_ (a' := ?_) ?_ ?_
                              rotate_left
                              · show Act.put _ (some 42) _ = _
                                simp only [Act.put, List.setIfInBounds_toArray, List.set_cons_zero, List.set_cons_succ, i64_w, i32_w]
                                rfl
                              refine one_ (i := 4) (N := some 37) #[true, true, true, true, true, true, true, true, true, true, false, true, true, true, false, false] rfl rfl (one_of HT_.out (by kernel_rfl)) (by decide) (fun K hK => ?_)
                              refine Kd.R_append_rows_step k56 (w0 := w) w.heap.size (by rfl) (.tmp 33) (.tmp 36) 26 56 (.agg #[(.int .i64 0), (.int .i64 0), (.int .i64 0)]) 24 rfl Try.underlying26 info56 rfl (by decide) (by omega) v108 y107 y110 _ _ _ (fun k_ => some k_ ≠ (v119 : Value).ownBlock) (fun _ => False) rfl rfl ?aO ?aR (fun _ _ h => h) (fun _ h => h.elim) ?aF ?aB ?aS ?aL ?_
                              (case aR => repeat (first | exact (Kd.C_below HR113.out HB.out) | (with_reducible refine Kd.C_alloc ?_ _) | (with_reducible refine Kd.C_drewN ?_ _) | (with_reducible refine Kd.C_drew ?_)))
                              (case aB => exact (by repeat (first | (with_reducible first | exact HB.out | apply below_alloc | apply pw_below_drewN | apply below_drew1) | exact HB.out)))
                              (case aF => exact (fun k_ hk => Kd.fresh' (Kd.R_lt (by (with_reducible repeat (first | apply Kd.R_alloc | apply Kd.R_drewN | apply Kd.R_drew)); exact HO120.out)) k_ hk))
                              (case aO => exact (by (with_reducible repeat (first | apply Kd.R_alloc | apply Kd.R_drewN | apply Kd.R_drew)); exact Kd.R_mono HO109.out (fun _ hk => hk.2)))
                              (case aS => exact (below_size (by repeat (first | (with_reducible first | exact HB.out | apply below_alloc | apply pw_below_drewN | apply below_drew1) | exact HB.out))))
                              (case aL => have := LMc9.out; omega)
                              intro v115 w23 ho hb hg hat
                              rw [← Ny114.out] at ho
                              have n0_ := Aside0.mk (Kd.R_after (ok := (fun _ => True)) (by (with_reducible repeat (first | apply Kd.R_alloc | apply Kd.R_drewN | apply Kd.R_drew)); exact HO120.out) hg hat)
                              have n1_ := Aside0.mk (hb)
                              have n2_ := Aside0.mk (ho)
                              clear HO120
                              clear HB
                              clear HO109
                              have HO120 := n0_
                              have HB := n1_
                              have HO116 := n2_
                              clear n0_ n1_ n2_
                              clear ho hb hg hat
                              refine hK.out _ _ ⟨((HB.out.cell (World.block_lt_of_cell? w _ hw117_0)).trans hw117_0), ((HB.out.cell (World.block_lt_of_cell? w _ hw117_1)).trans hw117_1), ((HB.out.cell (World.block_lt_of_cell? w _ hw117_2)).trans hw117_2)⟩ (fun hHeld => ?_)
                              clear hK K
                              refine norm_ (a' := ?_) ?_ ?_
                              rotate_left
                              · show Act.put _ (some 37) _ = _
                                simp only [Act.put, List.setIfInBounds_toArray, List.set_cons_zero, List.set_cons_succ, i64_w, i32_w]
                                rfl
                              exact norm_ (by simp only [putAll, Act.put, List.setIfInBounds_toArray, List.set_cons_zero, List.set_cons_succ]) (hCont (v108, v115, v119) _ ⟨hHeld, (by (with_reducible repeat (first | apply Kd.R_alloc | apply Kd.R_drewN | apply Kd.R_drew)); exact HO116.out), (by (with_reducible repeat (first | apply Kd.R_alloc | apply Kd.R_drewN | apply Kd.R_drew)); exact Kd.R_mono HO120.out (fun _ hk => hk.2)), (by repeat (first | (with_reducible first | exact HB.out | apply below_alloc | apply pw_below_drewN | apply below_drew1) | exact HB.out))⟩)
                          · skip
                            refine Kd.R_lit_step k56 _ 56 ?hg (N := 42) ?hd (xs := ([(⟨(rd_T56 l0 a4).f0, (rd_T56 l0 a4).f1, (rd_T56 l0 a4).f2⟩ : S56)] : List (S56))) (inner := [.int .i64 ((rd_T56 l0 a4).f0), .int .i64 ((rd_T56 l0 a4).f1), .int .i64 ((rd_T56 l0 a4).f2)]) (ok := fun _ => True) (okp := fun _ => True) ?hr ?hp (fun _ hk => hk) trivial (Below.refl _ _) (Nat.le_refl _) (by simp) ?_; (case hd => rfl); (case hg => rfl); (case hr => first | (go_simp; done) | (go_simp; rfl)); (case hp => exact (Reps.c3 (show Kd.M k56 _ _ _ (⟨(rd_T56 l0 a4).f0, (rd_T56 l0 a4).f1, (rd_T56 l0 a4).f2⟩ : S56) [.int .i64 ((rd_T56 l0 a4).f0), .int .i64 ((rd_T56 l0 a4).f1), .int .i64 ((rd_T56 l0 a4).f2)] from (k56_mkM _ _ _ (⟨(rd_T56 l0 a4).f0, (rd_T56 l0 a4).f1, (rd_T56 l0 a4).f2⟩ : S56) )) (Reps.none _ _)))
                            intro v119 w19 ho20 hb hg_ hnew_
                            clear hg_ hnew_
                            (first | rw [← Ny118.out] at ho20 | (simp only [Int.reduceToNat] at ho20; rw [← Ny118.out] at ho20))
                            have n0_ := Aside0.mk (Kd.R_lower ho20 (below_size (by repeat (first | (with_reducible first | exact HB.out | apply below_alloc | apply pw_below_drewN | apply below_drew1) | exact HB.out))))
                            have n1_ := Aside0.mk (below_step (by repeat (first | (with_reducible first | exact HB.out | apply below_alloc | apply pw_below_drewN | apply below_drew1) | exact HB.out)) hb)
                            clear HB
                            have HO120 := n0_
                            have HB := n1_
                            clear n0_ n1_
                            clear hb ho20
                            refine hK.out _ _ ⟨((HB.out.cell (World.block_lt_of_cell? w _ hw117_0)).trans hw117_0), ((HB.out.cell (World.block_lt_of_cell? w _ hw117_1)).trans hw117_1), ((HB.out.cell (World.block_lt_of_cell? w _ hw117_2)).trans hw117_2)⟩ (fun hHeld => ?_)
                            clear hK K
                            refine norm_ (a' := ?_) ?_ ?_
                            rotate_left
                            · show Act.put _ (some 42) _ = _
                              simp only [Act.put, List.setIfInBounds_toArray, List.set_cons_zero, List.set_cons_succ, i64_w, i32_w]
                              rfl
                            refine one_ (i := 0) (N := some 33) #[true, true, true, true, false, true, true, true, true, true, false, true, true, true, false, false] rfl rfl (one_of HT_.out (by kernel_rfl)) (by decide) (fun K hK => ?_)
                            refine Kd.R_lit_step k56 _ 56 ?hg (N := 33) ?hd (xs := ([] : List (S56))) (inner := []) (ok := fun _ => True) (okp := fun _ => True) ?hr ?hp (fun _ hk => hk) trivial (Below.refl _ _) (Nat.le_refl _) (by simp) ?_; (case hd => rfl); (case hg => rfl); (case hr => first | (go_simp; done) | (go_simp; rfl)); (case hp => exact (Reps.none _ _))
                            intro v108 w21 ho22 hb hg_ hnew_
                            clear hg_ hnew_
                            (first | rw [← Ny107.out] at ho22 | (simp only [Int.reduceToNat] at ho22; rw [← Ny107.out] at ho22))
                            have n0_ := Aside0.mk (Kd.R_elder' (by (with_reducible repeat (first | apply Kd.R_alloc | apply Kd.R_drewN | apply Kd.R_drew)); exact HO120.out) (Kd.R_base ho22) hb)
                            have n1_ := Aside0.mk (Kd.R_lower (Kd.R_new' ho22 (Kd.R_lt (by (with_reducible repeat (first | apply Kd.R_alloc | apply Kd.R_drewN | apply Kd.R_drew)); exact HO120.out))) (below_size (by repeat (first | (with_reducible first | exact HB.out | apply below_alloc | apply pw_below_drewN | apply below_drew1) | exact HB.out))))
                            have n2_ := Aside0.mk (below_step (by repeat (first | (with_reducible first | exact HB.out | apply below_alloc | apply pw_below_drewN | apply below_drew1) | exact HB.out)) hb)
                            clear HO120
                            clear HB
                            have HO120 := n0_
                            have HO109 := n1_
                            have HB := n2_
                            clear n0_ n1_ n2_
                            clear hb ho22
                            refine hK.out _ _ ⟨((HB.out.cell (World.block_lt_of_cell? w _ hw117_0)).trans hw117_0), ((HB.out.cell (World.block_lt_of_cell? w _ hw117_1)).trans hw117_1), ((HB.out.cell (World.block_lt_of_cell? w _ hw117_2)).trans hw117_2)⟩ (fun hHeld => ?_)
                            clear hK K
                            refine norm_ (a' := ?_) ?_ ?_
                            rotate_left
                            · show Act.put _ (some 33) _ = _
                              simp only [Act.put, List.setIfInBounds_toArray, List.set_cons_zero, List.set_cons_succ, i64_w, i32_w]
                              rfl
                            refine one_ (i := 4) (N := some 37) #[true, true, true, true, true, true, true, true, true, true, false, true, true, true, false, false] rfl rfl (one_of HT_.out (by kernel_rfl)) (by decide) (fun K hK => ?_)
                            refine Kd.R_append_rows_step k56 (w0 := w) w.heap.size (by rfl) (.tmp 33) (.tmp 36) 26 56 (.agg #[(.int .i64 0), (.int .i64 0), (.int .i64 0)]) 24 rfl Try.underlying26 info56 rfl (by decide) (by omega) v108 y107 y110 _ _ _ (fun k_ => some k_ ≠ (v119 : Value).ownBlock) (fun _ => False) rfl rfl ?aO ?aR (fun _ _ h => h) (fun _ h => h.elim) ?aF ?aB ?aS ?aL ?_
                            (case aR => repeat (first | exact (Kd.C_below HR113.out HB.out) | (with_reducible refine Kd.C_alloc ?_ _) | (with_reducible refine Kd.C_drewN ?_ _) | (with_reducible refine Kd.C_drew ?_)))
                            (case aB => exact (by repeat (first | (with_reducible first | exact HB.out | apply below_alloc | apply pw_below_drewN | apply below_drew1) | exact HB.out)))
                            (case aF => exact (fun k_ hk => Kd.fresh' (Kd.R_lt (by (with_reducible repeat (first | apply Kd.R_alloc | apply Kd.R_drewN | apply Kd.R_drew)); exact HO120.out)) k_ hk))
                            (case aO => exact (by (with_reducible repeat (first | apply Kd.R_alloc | apply Kd.R_drewN | apply Kd.R_drew)); exact Kd.R_mono HO109.out (fun _ hk => hk.2)))
                            (case aS => exact (below_size (by repeat (first | (with_reducible first | exact HB.out | apply below_alloc | apply pw_below_drewN | apply below_drew1) | exact HB.out))))
                            (case aL => have := LMc9.out; omega)
                            intro v115 w23 ho hb hg hat
                            rw [← Ny114.out] at ho
                            have n0_ := Aside0.mk (Kd.R_after (ok := (fun _ => True)) (by (with_reducible repeat (first | apply Kd.R_alloc | apply Kd.R_drewN | apply Kd.R_drew)); exact HO120.out) hg hat)
                            have n1_ := Aside0.mk (hb)
                            have n2_ := Aside0.mk (ho)
                            clear HO120
                            clear HB
                            clear HO109
                            have HO120 := n0_
                            have HB := n1_
                            have HO116 := n2_
                            clear n0_ n1_ n2_
                            clear ho hb hg hat
                            refine hK.out _ _ ⟨((HB.out.cell (World.block_lt_of_cell? w _ hw117_0)).trans hw117_0), ((HB.out.cell (World.block_lt_of_cell? w _ hw117_1)).trans hw117_1), ((HB.out.cell (World.block_lt_of_cell? w _ hw117_2)).trans hw117_2)⟩ (fun hHeld => ?_)
                            clear hK K
                            refine norm_ (a' := ?_) ?_ ?_
                            rotate_left
                            · show Act.put _ (some 37) _ = _
                              simp only [Act.put, List.setIfInBounds_toArray, List.set_cons_zero, List.set_cons_succ, i64_w, i32_w]
                              rfl
                            exact norm_ (by simp only [putAll, Act.put, List.setIfInBounds_toArray, List.set_cons_zero, List.set_cons_succ]) (hCont (v108, v115, v119) _ ⟨hHeld, (by (with_reducible repeat (first | apply Kd.R_alloc | apply Kd.R_drewN | apply Kd.R_drew)); exact HO116.out), (by (with_reducible repeat (first | apply Kd.R_alloc | apply Kd.R_drewN | apply Kd.R_drew)); exact Kd.R_mono HO120.out (fun _ hk => hk.2)), (by repeat (first | (with_reducible first | exact HB.out | apply below_alloc | apply pw_below_drewN | apply below_drew1) | exact HB.out))⟩)
                        rintro ⟨v108, v115, v119⟩ w24 ⟨hS_, h0_, h1_, h2_⟩
                        have n0_ : Aside0 (Kd.R k56 56 w24 w.heap.size (fun k_ => some k_ ≠ (v119 : Value).ownBlock) v115 y114) := ⟨h0_⟩
                        have n1_ : Aside0 (Kd.R k56 56 w24 w.heap.size (fun k_ => some k_ ≠ (v115 : Value).ownBlock) v119 y118) := ⟨h1_⟩
                        have n2_ : Aside0 (Below w.heap.size w w24) := ⟨h2_⟩
                        clear HB
                        clear h0_ h1_ h2_
                        have HO116 := n0_
                        have HO120 := n1_
                        have HB := n2_
                        clear n0_ n1_ n2_
                        have hHeld : w24.cell? (ad117.add ((a4).toNat * 3)) = some (.int .i64 ((rd_T56 l0 a4).f0)) ∧ w24.cell? ⟨(ad117.add ((a4).toNat * 3)).block, (ad117.add ((a4).toNat * 3)).off + 1, none⟩ = some (.int .i64 ((rd_T56 l0 a4).f1)) ∧ w24.cell? ⟨(ad117.add ((a4).toNat * 3)).block, (ad117.add ((a4).toNat * 3)).off + 2, none⟩ = some (.int .i64 ((rd_T56 l0 a4).f2)) := hS_
                        obtain ⟨Ao26, co26, eo26⟩ := Kd.R_slice HO120.out
                        (first | subst eo26 | (injection eo26 with f1_ f2_ f3_; have f4_ := f1_.symm; have f5_ := f3_.symm; clear f1_ f2_ f3_; subst f4_; subst f5_))
                        refine norm_ (a' := ?_) ?_ ?_
                        rotate_left
                        · simp only [putAll, Act.put, List.setIfInBounds_toArray, List.set_cons_zero, List.set_cons_succ]
                          rfl
                        refine one_ (i := 10) (N := some 43) #[true, true, true, true, true, true, true, true, true, true, true, true, true, true, false, false] rfl rfl (one_of HT_.out (by kernel_rfl)) (by decide) (fun K hK => ?_)
                        refine Kd.R_append_rows_step k56 (w0 := w) w.heap.size (by rfl) (.tmp 37) (.tmp 42) 26 56 (.agg #[(.int .i64 0), (.int .i64 0), (.int .i64 0)]) 24 rfl Try.underlying26 info56 rfl (by decide) (by omega) v115 y114 y118 _ _ _ (fun k_ => some k_ ≠ (.slice Ao26 y118.length co26 : Value).ownBlock) (fun _ => False) rfl rfl ?aO ?aR (fun _ _ h => h) (fun _ h => h.elim) ?aF ?aB ?aS ?aL ?_
                        (case aR => repeat (first | exact (Kd.R_reads' HO120.out).2.2 | (with_reducible refine Kd.C_alloc ?_ _) | (with_reducible refine Kd.C_drewN ?_ _) | (with_reducible refine Kd.C_drew ?_)))
                        (case aB => exact (by repeat (first | (with_reducible first | exact HB.out | apply below_alloc | apply pw_below_drewN | apply below_drew1) | exact HB.out)))
                        (case aF => exact (fun k_ hk => Kd.fresh' (Kd.R_lt (by (with_reducible repeat (first | apply Kd.R_alloc | apply Kd.R_drewN | apply Kd.R_drew)); exact HO120.out)) k_ hk))
                        (case aO => exact (by (with_reducible repeat (first | apply Kd.R_alloc | apply Kd.R_drewN | apply Kd.R_drew)); exact HO116.out))
                        (case aS => exact (below_size (by repeat (first | (with_reducible first | exact HB.out | apply below_alloc | apply pw_below_drewN | apply below_drew1) | exact HB.out))))
                        (case aL => have := LMc12.out; omega)
                        intro v122 w25 ho hb hg hat
                        rw [← Ny121.out] at ho
                        have n0_ := Aside0.mk (Kd.R_after (ok := (fun _ => True)) (by (with_reducible repeat (first | apply Kd.R_alloc | apply Kd.R_drewN | apply Kd.R_drew)); exact Kd.R_mono HO120.out (fun _ hk => ⟨trivial, hk⟩)) hg hat)
                        have n1_ := Aside0.mk (hb)
                        have n2_ := Aside0.mk (ho)
                        clear HO120
                        clear HB
                        clear HO116
                        have HO120 := n0_
                        have HB := n1_
                        have HO123 := n2_
                        clear n0_ n1_ n2_
                        clear ho hb hg hat
                        refine hK.out _ _ ⟨((HB.out.cell (World.block_lt_of_cell? w _ hw117_0)).trans hw117_0), ((HB.out.cell (World.block_lt_of_cell? w _ hw117_1)).trans hw117_1), ((HB.out.cell (World.block_lt_of_cell? w _ hw117_2)).trans hw117_2)⟩ (fun hHeld => ?_)
                        clear hK K
                        refine norm_ (a' := ?_) ?_ ?_
                        rotate_left
                        · show Act.put _ (some 43) _ = _
                          simp only [Act.put, List.setIfInBounds_toArray, List.set_cons_zero, List.set_cons_succ, i64_w, i32_w]
                          rfl
                        refine one_ (i := 14) (N := some 47) #[true, true, true, true, true, true, true, true, true, true, true, true, true, true, true, false] rfl rfl (one_of HT_.out (by kernel_rfl)) (by decide) (fun K hK => ?_)
                        refine Kd.R_append_rows_step k56 (w0 := w) w.heap.size (by rfl) (.tmp 43) (.tmp 46) 26 56 (.agg #[(.int .i64 0), (.int .i64 0), (.int .i64 0)]) 24 rfl Try.underlying26 info56 rfl (by decide) (by omega) v122 y121 y124 _ _ _ (fun k_ => some k_ ≠ (.slice Ao26 y118.length co26 : Value).ownBlock) (fun _ => False) rfl rfl ?aO ?aR (fun _ _ h => h) (fun _ h => h.elim) ?aF ?aB ?aS ?aL ?_
                        (case aR => repeat (first | exact (Kd.C_below HR127.out HB.out) | (with_reducible refine Kd.C_alloc ?_ _) | (with_reducible refine Kd.C_drewN ?_ _) | (with_reducible refine Kd.C_drew ?_)))
                        (case aB => exact (by repeat (first | (with_reducible first | exact HB.out | apply below_alloc | apply pw_below_drewN | apply below_drew1) | exact HB.out)))
                        (case aF => exact (fun k_ hk => Kd.fresh' (Kd.R_lt (by (with_reducible repeat (first | apply Kd.R_alloc | apply Kd.R_drewN | apply Kd.R_drew)); exact HO120.out)) k_ hk))
                        (case aO => exact (by (with_reducible repeat (first | apply Kd.R_alloc | apply Kd.R_drewN | apply Kd.R_drew)); exact HO123.out))
                        (case aS => exact (below_size (by repeat (first | (with_reducible first | exact HB.out | apply below_alloc | apply pw_below_drewN | apply below_drew1) | exact HB.out))))
                        (case aL => have := LMc15.out; omega)
                        intro v129 w27 ho hb hg hat
                        rw [← Ny128.out] at ho
                        have n0_ := Aside0.mk (Kd.R_after (ok := (fun _ => True)) (by (with_reducible repeat (first | apply Kd.R_alloc | apply Kd.R_drewN | apply Kd.R_drew)); exact HO120.out) hg hat)
                        have n1_ := Aside0.mk (hb)
                        have n2_ := Aside0.mk (ho)
                        clear HO120
                        clear HB
                        clear HO123
                        have HO120 := n0_
                        have HB := n1_
                        have HO130 := n2_
                        clear n0_ n1_ n2_
                        clear ho hb hg hat
                        refine hK.out _ _ ⟨((HB.out.cell (World.block_lt_of_cell? w _ hw117_0)).trans hw117_0), ((HB.out.cell (World.block_lt_of_cell? w _ hw117_1)).trans hw117_1), ((HB.out.cell (World.block_lt_of_cell? w _ hw117_2)).trans hw117_2)⟩ (fun hHeld => ?_)
                        clear hK K
                        refine norm_ (a' := ?_) ?_ ?_
                        rotate_left
                        · show Act.put _ (some 47) _ = _
                          simp only [Act.put, List.setIfInBounds_toArray, List.set_cons_zero, List.set_cons_succ, i64_w, i32_w]
                          rfl
                        refine pure_ (i := 15) (N := some 3) (v := ?_) (a' := ?_) #[true, true, true, true, true, true, true, true, true, true, true, true, true, true, true, true] rfl rfl (any_of HT_.out (by kernel_rfl)) (fun _ _ _ h => h) (Or.inl ⟨by rfl, ?_⟩) ?_ ?_
                        rotate_left
                        · intro w'
                          go_simp
                          with_reducible rfl
                        rotate_left
                        · simp only [Act.put, List.setIfInBounds_toArray, List.set_cons_zero, List.set_cons_succ, i64_w, i32_w]
                          rfl
                        refine done_ (done_of HT_.out (by kernel_rfl)) ?_
                        try go_wp2
                        obtain rfl := Option.some.inj hA0
                        go_roundg (gka - 1)
                        case measure => omega
                        case rel => exact ⟨_, i + 1, wrap64 (a4 + 1), (by first | rfl | (simp; done) | (simp [*]; done)), ⟨by have := HA4.out; unfold wrap64; omega⟩, by omega, by omega, ⟨Kd.R_lower (by (with_reducible repeat (first | apply Kd.R_alloc | apply Kd.R_drewN | apply Kd.R_drew)); exact Kd.R_mono HO130.out (fun _ hk => trivial)) HBb.out.size⟩, HN, ⟨below_weaken HBb.out HBb.out.size (by repeat (first | (with_reducible first | exact HB.out | apply below_alloc | apply pw_below_drewN | apply below_drew1) | exact HB.out))⟩⟩
                      · rw [if_neg c15] at H
                        exact absurd H (by simp)
                    · rw [if_neg c12] at H
                      exact absurd H (by simp)
                  · rw [if_neg c11] at H
                    exact absurd H (by simp)
                · rw [if_neg c10] at H
                  exact absurd H (by simp)
              · rw [if_neg c9] at H
                exact absurd H (by simp)
            · rw [if_neg c8] at H
              exact absurd H (by simp)
          · rw [if_neg c7] at H
            exact absurd H (by simp)
      · have cj : decide (0 < a5) = false := decide_eq_false (by have := HA5.out; omega)
        have HST : Aside0 (j = 0 ∨ ¬ (out.getD (j - 1) z56).f1 < x.f1) := ⟨.inl (by omega)⟩
        go_wp2
        repeat (go_quiet (fail); try go_wp2)
        clear cj hp
        obtain ⟨rn, hrn⟩ : ∃ r_ : List (S56), r_ = out.take j ++ [x] ++ out.drop j := ⟨_, rfl⟩
        have HN := Aside0.mk (show rn = Go.Proofs.Ytpkdbkheggfkkaa.SlcK.inSort spec_l19Sorted.lt (l0.take (i + 1)) by
          rw [hrn, ← spec_l19Sorted.next l0 i hlt, ← HOUT.out, ← HA4.out, ← HX.out, HI.out]
          exact (spec_l19Sorted.stop out x j HJ.out (by have := HST.out; omega)).symm)
        have h : spec_l19Sorted.put l0 [] [] out a4 a5 = some rn := by
          rw [hrn, HX.out, HA4.out, HA5.out]
          exact spec_l19Sorted.put_eq l0 out i j hlt HJ.out (by have := hlen.out; omega)
        clear hrn HI HST
        generalize hw : (wr.drewN nd).drewN nq = w
        have HDW := Aside0.mk (show Below wr.heap.size wr w by rw [← hw]; exact (HD.out.step nq).below)
        have HBb := Aside0.mk (below_step HBw.out HDW.out)
        have HR0 := Aside0.mk (Kd.C_below HRB.out HBb.out)
        have HR3 := Aside0.mk (Kd.C_below HRO.out HDW.out)
        have HB := Aside0.mk (Below.refl w.heap.size w)
        clear hw HRO
        generalize hA0 : (some adx : Option Addr) = A0 at HR0 ⊢
        have H : ((some (([] : List (S56)) : List (S56))).bind fun y107 => (if 0 ≤ a5 then (if a5 ≤ (out.length : Int) then ((some (out.take (a5 : Int).toNat : List (S56))).bind fun y110 => (if y107.length + y110.length < 5864062014805 then ((some (y107 ++ y110 : List (S56))).bind fun y114 => (if 0 ≤ a4 then (if a4 < (l0.length : Int) then ((some (([(⟨(rd_T56 l0 a4).f0, (rd_T56 l0 a4).f1, (rd_T56 l0 a4).f2⟩ : S56)] : List (S56)) : List (S56))).bind fun y118 => (if y114.length + y118.length < 5864062014805 then ((some (y114 ++ y118 : List (S56))).bind fun y121 => ((some (out.drop (a5 : Int).toNat : List (S56))).bind fun y124 => (if y121.length + y124.length < 5864062014805 then (some (y121 ++ y124)) else (none)))) else (none))) else (none)) else (none))) else (none))) else (none)) else (none))) = some rn := h
        clear h
        obtain ⟨y107, hy107⟩ : ∃ y_ : List (S56), y_ = (([] : List (S56))) := ⟨_, rfl⟩
        replace H : (if 0 ≤ a5 then (if a5 ≤ (out.length : Int) then ((some (out.take (a5 : Int).toNat : List (S56))).bind fun y110 => (if y107.length + y110.length < 5864062014805 then ((some (y107 ++ y110 : List (S56))).bind fun y114 => (if 0 ≤ a4 then (if a4 < (l0.length : Int) then ((some (([(⟨(rd_T56 l0 a4).f0, (rd_T56 l0 a4).f1, (rd_T56 l0 a4).f2⟩ : S56)] : List (S56)) : List (S56))).bind fun y118 => (if y114.length + y118.length < 5864062014805 then ((some (y114 ++ y118 : List (S56))).bind fun y121 => ((some (out.drop (a5 : Int).toNat : List (S56))).bind fun y124 => (if y121.length + y124.length < 5864062014805 then (some (y121 ++ y124)) else (none)))) else (none))) else (none)) else (none))) else (none))) else (none)) else (none)) = some rn := by first | (rw [hy107]; with_reducible exact H) | (have H2_ := (Option.bind_some _ _).symm.trans H; rw [hy107]; with_reducible exact H2_) | (have H2_ := (Option.bind_some _ _).symm.trans H; with_reducible exact H2_) | with_reducible exact H | (rw [hy107]; exact H) | exact H
        have Ny107 := Aside0.mk hy107
        clear hy107
        by_cases c7 : 0 ≤ a5
        · rw [if_pos c7] at H
          have c7b0 := eq_true c7
          have c7b1 : decide (0 ≤ a5) = true := decide_eq_true c7
          clear c7
          by_cases c8 : a5 ≤ (out.length : Int)
          · rw [if_pos c8] at H
            have c8b0 := eq_true c8
            have c8b1 : decide (a5 ≤ (out.length : Int)) = true := decide_eq_true c8
            clear c8
            obtain ⟨y110, hy110⟩ : ∃ y_ : List (S56), y_ = (out.take (a5 : Int).toNat) := ⟨_, rfl⟩
            replace H : (if y107.length + y110.length < 5864062014805 then ((some (y107 ++ y110 : List (S56))).bind fun y114 => (if 0 ≤ a4 then (if a4 < (l0.length : Int) then ((some (([(⟨(rd_T56 l0 a4).f0, (rd_T56 l0 a4).f1, (rd_T56 l0 a4).f2⟩ : S56)] : List (S56)) : List (S56))).bind fun y118 => (if y114.length + y118.length < 5864062014805 then ((some (y114 ++ y118 : List (S56))).bind fun y121 => ((some (out.drop (a5 : Int).toNat : List (S56))).bind fun y124 => (if y121.length + y124.length < 5864062014805 then (some (y121 ++ y124)) else (none)))) else (none))) else (none)) else (none))) else (none)) = some rn := by first | (rw [hy110]; with_reducible exact H) | (have H2_ := (Option.bind_some _ _).symm.trans H; rw [hy110]; with_reducible exact H2_) | (have H2_ := (Option.bind_some _ _).symm.trans H; with_reducible exact H2_) | with_reducible exact H | (rw [hy110]; exact H) | exact H
            have Ny110 := Aside0.mk hy110
            clear hy110
            by_cases c9 : y107.length + y110.length < 5864062014805
            · rw [if_pos c9] at H
              have LMc9 := Aside0.mk c9
              clear c9
              obtain ⟨y114, hy114⟩ : ∃ y_ : List (S56), y_ = (y107 ++ y110) := ⟨_, rfl⟩
              replace H : (if 0 ≤ a4 then (if a4 < (l0.length : Int) then ((some (([(⟨(rd_T56 l0 a4).f0, (rd_T56 l0 a4).f1, (rd_T56 l0 a4).f2⟩ : S56)] : List (S56)) : List (S56))).bind fun y118 => (if y114.length + y118.length < 5864062014805 then ((some (y114 ++ y118 : List (S56))).bind fun y121 => ((some (out.drop (a5 : Int).toNat : List (S56))).bind fun y124 => (if y121.length + y124.length < 5864062014805 then (some (y121 ++ y124)) else (none)))) else (none))) else (none)) else (none)) = some rn := by first | (rw [hy114]; with_reducible exact H) | (have H2_ := (Option.bind_some _ _).symm.trans H; rw [hy114]; with_reducible exact H2_) | (have H2_ := (Option.bind_some _ _).symm.trans H; with_reducible exact H2_) | with_reducible exact H | (rw [hy114]; exact H) | exact H
              have Ny114 := Aside0.mk hy114
              clear hy114
              by_cases c10 : 0 ≤ a4
              · rw [if_pos c10] at H
                have c10b0 : decide (0 ≤ a4) = true := decide_eq_true c10
                clear c10
                by_cases c11 : a4 < (l0.length : Int)
                · rw [if_pos c11] at H
                  have c11b0 : decide (a4 < (l0.length : Int)) = true := decide_eq_true c11
                  clear c11
                  obtain ⟨y118, hy118⟩ : ∃ y_ : List (S56), y_ = (([(⟨(rd_T56 l0 a4).f0, (rd_T56 l0 a4).f1, (rd_T56 l0 a4).f2⟩ : S56)] : List (S56))) := ⟨_, rfl⟩
                  replace H : (if y114.length + y118.length < 5864062014805 then ((some (y114 ++ y118 : List (S56))).bind fun y121 => ((some (out.drop (a5 : Int).toNat : List (S56))).bind fun y124 => (if y121.length + y124.length < 5864062014805 then (some (y121 ++ y124)) else (none)))) else (none)) = some rn := by first | (rw [hy118]; with_reducible exact H) | (have H2_ := (Option.bind_some _ _).symm.trans H; rw [hy118]; with_reducible exact H2_) | (have H2_ := (Option.bind_some _ _).symm.trans H; with_reducible exact H2_) | with_reducible exact H | (rw [hy118]; exact H) | exact H
                  have Ny118 := Aside0.mk hy118
                  clear hy118
                  by_cases c12 : y114.length + y118.length < 5864062014805
                  · rw [if_pos c12] at H
                    have LMc12 := Aside0.mk c12
                    clear c12
                    obtain ⟨y121, hy121⟩ : ∃ y_ : List (S56), y_ = (y114 ++ y118) := ⟨_, rfl⟩
                    replace H : ((some (out.drop (a5 : Int).toNat : List (S56))).bind fun y124 => (if y121.length + y124.length < 5864062014805 then (some (y121 ++ y124)) else (none))) = some rn := by first | (rw [hy121]; with_reducible exact H) | (have H2_ := (Option.bind_some _ _).symm.trans H; rw [hy121]; with_reducible exact H2_) | (have H2_ := (Option.bind_some _ _).symm.trans H; with_reducible exact H2_) | with_reducible exact H | (rw [hy121]; exact H) | exact H
                    have Ny121 := Aside0.mk hy121
                    clear hy121
                    have c13b0 := eq_true (of_decide_eq_true (by first | (with_reducible assumption) | assumption) : 0 ≤ a5)
                    have c14b0 := eq_true (of_decide_eq_true (by first | (with_reducible assumption) | assumption) : a5 ≤ (out.length : Int))
                    obtain ⟨y124, hy124⟩ : ∃ y_ : List (S56), y_ = (out.drop (a5 : Int).toNat) := ⟨_, rfl⟩
                    replace H : (if y121.length + y124.length < 5864062014805 then (some (y121 ++ y124)) else (none)) = some rn := by first | (rw [hy124]; with_reducible exact H) | (have H2_ := (Option.bind_some _ _).symm.trans H; rw [hy124]; with_reducible exact H2_) | (have H2_ := (Option.bind_some _ _).symm.trans H; with_reducible exact H2_) | with_reducible exact H | (rw [hy124]; exact H) | exact H
                    have Ny124 := Aside0.mk hy124
                    clear hy124
                    by_cases c15 : y121.length + y124.length < 5864062014805
                    · rw [if_pos c15] at H
                      have LMc15 := Aside0.mk c15
                      clear c15
                      obtain ⟨y128, hy128⟩ : ∃ y_ : List (S56), y_ = (y121 ++ y124) := ⟨_, rfl⟩
                      replace H : (some y128) = some rn := by first | (rw [hy128]; with_reducible exact H) | (have H2_ := (Option.bind_some _ _).symm.trans H; rw [hy128]; with_reducible exact H2_) | (have H2_ := (Option.bind_some _ _).symm.trans H; with_reducible exact H2_) | with_reducible exact H | (rw [hy128]; exact H) | exact H
                      have Ny128 := Aside0.mk hy128
                      clear hy128
                      obtain rfl := Option.some.inj H
                      try go_wp2
                      have n0_ := Aside0.mk (below_drew1 HB.out)
                      clear HB
                      have HB := n0_
                      clear n0_
                      have q17 : (a5 : Int) ≤ ((out.length : Int) : Int) := of_decide_eq_true (by first | (with_reducible assumption) | assumption)
                      obtain ⟨i017, hi017, _, hsz17, _⟩ := info_parts info56
                      have hroom17 : out.length ≤ c3 := HC3.out
                      have hC17 : Kd.C k56 _ A3 out.length out := HR3.out
                      have hcut17 := cut_to (P := Try.prog) 26 56 .i64 Try.underlying26 hi017 A3 out.length c3 a5 (of_decide_eq_true (by first | (with_reducible assumption) | assumption)) q17 hroom17
                      have hr17 := Kd.C_take (m := (a5 : Int).toNat) hC17 (by omega)
                      have hy17 : y110.length = (a5 : Int).toNat := (by rw [Ny110.out, List.length_take]; omega)
                      rw [← Ny110.out] at hr17
                      rw [← hy17] at hcut17
                      have HR113 := Aside0.mk hr17
                      have HC113 := Aside0.mk (show y110.length ≤ c3 from by omega)
                      clear hr17 hC17 hroom17 hi017 hsz17
                      have KY17 := Aside0.mk hy17
                      clear hy17
                      replace q17 := eq_true q17
                      have p117 : 0 ≤ (a4 : Int) := of_decide_eq_true (by first | (with_reducible assumption) | assumption)
                      have q117 : a4 < (l0.length : Int) := of_decide_eq_true (by first | (with_reducible assumption) | assumption)
                      obtain ⟨ad117, e117, hx117_0, hx117_1, hx117_2⟩ := at_T56 HR0.out a4 p117 q117
                      have hw117_2 := hx117_2
                      have hw117_1 := hx117_1
                      have hw117_0 := hx117_0
                      cases e117
                      replace hx117_0 := (HB.out.cell (World.block_lt_of_cell? w _ hx117_0)).trans hx117_0
                      replace hx117_1 := (HB.out.cell (World.block_lt_of_cell? w _ hx117_1)).trans hx117_1
                      replace hx117_2 := (HB.out.cell (World.block_lt_of_cell? w _ hx117_2)).trans hx117_2
                      replace p117 := eq_true p117
                      replace q117 := eq_true q117
                      have q18 : (a5 : Int) ≤ ((out.length : Int) : Int) := of_decide_eq_true (by first | (with_reducible assumption) | assumption)
                      obtain ⟨i018, hi018, _, hsz18, _⟩ := info_parts info56
                      have hroom18 : out.length ≤ c3 := HC3.out
                      have hC18 : Kd.C k56 _ A3 out.length out := HR3.out
                      have q018 : (0 : Int) ≤ (a5 : Int) := of_decide_eq_true (by first | (with_reducible assumption) | assumption)
                      have hcut18 := cut_from (P := Try.prog) 26 56 .i64 Try.underlying26 hi018 3 hsz18 A3 out.length c3 a5 q018 q18
                      have hr18 := Kd.C_drop (m := (a5 : Int).toNat) (c := c3) hC18 (by omega) hroom18
                      obtain ⟨A18, hA18⟩ : ∃ A1, A1 = (if c3 = (a5 : Int).toNat then A3 else (A3 : Option Addr).map (·.add ((a5 : Int).toNat * 3))) := ⟨_, rfl⟩
                      obtain ⟨c18, hc18⟩ : ∃ c1, c1 = c3 - (a5 : Int).toNat := ⟨_, rfl⟩
                      have hy18 : y124.length = out.length - (a5 : Int).toNat := (by rw [Ny124.out, List.length_drop] <;> omega)
                      rw [show (out).drop (a5 : Int).toNat = y124 from Ny124.out.symm] at hr18
                      replace hr18 : Kd.C k56 _ A18 y124.length y124 := (by rw [hA18]; exact hr18)
                      rw [← hy18, ← hA18, ← hc18] at hcut18
                      have HR127 := Aside0.mk hr18
                      have HC127 := Aside0.mk (show y124.length ≤ c18 from by rw [hy18, hc18]; exact Nat.sub_le_sub_right hroom18 _)
                      clear hr18 hC18 hroom18 hi018 hsz18 hc18
                      have KY18 := Aside0.mk hy18
                      have KA18 := Aside0.mk hA18
                      clear hy18 hA18
                      replace q18 := eq_true q18
                      refine start_ (n := 16) (S := fun w' => w'.cell? (ad117.add ((a4).toNat * 3)) = some (.int .i64 ((rd_T56 l0 a4).f0)) ∧ w'.cell? ⟨(ad117.add ((a4).toNat * 3)).block, (ad117.add ((a4).toNat * 3)).off + 1, none⟩ = some (.int .i64 ((rd_T56 l0 a4).f1)) ∧ w'.cell? ⟨(ad117.add ((a4).toNat * 3)).block, (ad117.add ((a4).toNat * 3)).off + 2, none⟩ = some (.int .i64 ((rd_T56 l0 a4).f2))) (ds := []) #[false, false, false, false, false, false, false, false, false, false, false, false, false, false, false, false] (by kernel_rfl) rfl rfl ⟨((HB.out.cell (World.block_lt_of_cell? w _ hw117_0)).trans hw117_0), ((HB.out.cell (World.block_lt_of_cell? w _ hw117_1)).trans hw117_1), ((HB.out.cell (World.block_lt_of_cell? w _ hw117_2)).trans hw117_2)⟩ (fun hHeld => ?_); refine with_tabW spec_l19Sorted.tab8 spec_l19Sorted.bits8 (fun HT_ HW_ => ?_)
                      generalize w.drew = w16 at HB HR113 HR127 hx117_0 hx117_1 hx117_2 hHeld ⊢
                      refine pure_ (i := 1) (N := some 34) (v := ?_) (a' := ?_) #[false, true, false, false, false, false, false, false, false, false, false, false, false, false, false, false] rfl rfl (any_of HT_.out (by kernel_rfl)) (fun _ _ _ h => h) (Or.inl ⟨by rfl, ?_⟩) ?_ ?_
                      rotate_left
                      · intro w'
                        go_simp
                        with_reducible rfl
                      rotate_left
                      · simp only [Act.put, List.setIfInBounds_toArray, List.set_cons_zero, List.set_cons_succ, i64_w, i32_w]
                        rfl
                      refine pure_ (i := 2) (N := some 35) (v := ?_) (a' := ?_) #[false, true, true, false, false, false, false, false, false, false, false, false, false, false, false, false] rfl rfl (any_of HT_.out (by kernel_rfl)) (fun _ _ _ h => h) (Or.inl ⟨by rfl, ?_⟩) ?_ ?_
                      rotate_left
                      · intro w'
                        go_simp
                        with_reducible rfl
                      rotate_left
                      · simp only [Act.put, List.setIfInBounds_toArray, List.set_cons_zero, List.set_cons_succ, i64_w, i32_w]
                        rfl
                      refine pure_ (i := 3) (N := some 36) (v := ?_) (a' := ?_) #[false, true, true, true, false, false, false, false, false, false, false, false, false, false, false, false] rfl rfl (any_of HT_.out (by kernel_rfl)) (fun _ _ _ h => h) (Or.inl ⟨by rfl, ?_⟩) ?_ ?_
                      rotate_left
                      · intro w'
                        go_simp
                        with_reducible rfl
                      rotate_left
                      · simp only [Act.put, List.setIfInBounds_toArray, List.set_cons_zero, List.set_cons_succ, i64_w, i32_w]
                        rfl
                      refine pure_ (i := 5) (N := some 38) (v := ?_) (a' := ?_) #[false, true, true, true, false, true, false, false, false, false, false, false, false, false, false, false] rfl rfl (any_of HT_.out (by kernel_rfl)) (fun _ _ _ h => h) (Or.inl ⟨by rfl, ?_⟩) ?_ ?_
                      rotate_left
                      · intro w'
                        go_simp
                        with_reducible rfl
                      rotate_left
                      · simp only [Act.put, List.setIfInBounds_toArray, List.set_cons_zero, List.set_cons_succ, i64_w, i32_w]
                        rfl
                      refine pure_ (i := 6) (N := some 39) (v := ?_) (a' := ?_) #[false, true, true, true, false, true, true, false, false, false, false, false, false, false, false, false] rfl rfl (any_of HT_.out (by kernel_rfl)) (fun _ _ _ h => h) (Or.inl ⟨by rfl, ?_⟩) ?_ ?_
                      rotate_left
                      · intro w'
                        go_simp
                        with_reducible rfl
                      rotate_left
                      · simp only [Act.put, List.setIfInBounds_toArray, List.set_cons_zero, List.set_cons_succ, i64_w, i32_w]
                        rfl
                      refine pure_ (i := 7) (N := some 40) (v := ?_) (a' := ?_) #[false, true, true, true, false, true, true, true, false, false, false, false, false, false, false, false] rfl rfl (any_of HT_.out (by kernel_rfl)) (fun _ _ _ h => h) (Or.inl ⟨by rfl, ?_⟩) ?_ ?_
                      rotate_left
                      · intro w'
                        go_simp
                        with_reducible rfl
                      rotate_left
                      · simp only [Act.put, List.setIfInBounds_toArray, List.set_cons_zero, List.set_cons_succ, i64_w, i32_w]
                        rfl
                      refine pure_ (i := 11) (N := some 44) (v := ?_) (a' := ?_) #[false, true, true, true, false, true, true, true, false, false, false, true, false, false, false, false] rfl rfl (any_of HT_.out (by kernel_rfl)) (fun _ _ _ h => h) (Or.inl ⟨by rfl, ?_⟩) ?_ ?_
                      rotate_left
                      · intro w'
                        go_simp
                        with_reducible rfl
                      rotate_left
                      · simp only [Act.put, List.setIfInBounds_toArray, List.set_cons_zero, List.set_cons_succ, i64_w, i32_w]
                        rfl
                      refine pure_ (i := 12) (N := some 45) (v := ?_) (a' := ?_) #[false, true, true, true, false, true, true, true, false, false, false, true, true, false, false, false] rfl rfl (any_of HT_.out (by kernel_rfl)) (fun _ _ _ h => h) (Or.inl ⟨by rfl, ?_⟩) ?_ ?_
                      rotate_left
                      · intro w'
                        go_simp
                        with_reducible rfl
                      rotate_left
                      · simp only [Act.put, List.setIfInBounds_toArray, List.set_cons_zero, List.set_cons_succ, i64_w, i32_w]
                        rfl
                      refine pure_ (i := 13) (N := some 46) (v := ?_) (a' := ?_) #[false, true, true, true, false, true, true, true, false, false, false, true, true, true, false, false] rfl rfl (any_of HT_.out (by kernel_rfl)) (fun _ _ _ h => h) (Or.inl ⟨by rfl, ?_⟩) ?_ ?_
                      rotate_left
                      · intro w'
                        go_simp
                        with_reducible rfl
                      rotate_left
                      · simp only [Act.put, List.setIfInBounds_toArray, List.set_cons_zero, List.set_cons_succ, i64_w, i32_w]
                        rfl
                      refine take_ (i := 8) (N := some 41) (v := ?_) (a' := ?_) #[false, true, true, true, false, true, true, true, true, false, false, true, true, true, false, false] rfl rfl (take_ofW HT_.out HW_.out (by kernel_rfl)) (fun _ _ _ h => h) (Or.inl ⟨by rfl, ?_⟩) hHeld ?_ ?_
                      rotate_left
                      · rintro w' ⟨s0, s1, s2⟩
                        go_simp
                        with_reducible rfl
                      rotate_left
                      · simp only [Act.put, List.setIfInBounds_toArray, List.set_cons_zero, List.set_cons_succ, i64_w, i32_w]
                        rfl
                      refine join_ (σ := Value × Value × Value) 3 #[true, true, true, true, true, true, true, true, true, true, false, true, true, true, false, false] (fun s_ => [(33, s_.1), (37, s_.2.1), (42, s_.2.2)]) (fun s_ w' => (w'.cell? (ad117.add ((a4).toNat * 3)) = some (.int .i64 ((rd_T56 l0 a4).f0)) ∧ w'.cell? ⟨(ad117.add ((a4).toNat * 3)).block, (ad117.add ((a4).toNat * 3)).off + 1, none⟩ = some (.int .i64 ((rd_T56 l0 a4).f1)) ∧ w'.cell? ⟨(ad117.add ((a4).toNat * 3)).block, (ad117.add ((a4).toNat * 3)).off + 2, none⟩ = some (.int .i64 ((rd_T56 l0 a4).f2))) ∧ (Kd.R k56 56 w' w.heap.size (fun k_ => some k_ ≠ (s_.2.2 : Value).ownBlock) s_.2.1 y114) ∧ (Kd.R k56 56 w' w.heap.size (fun k_ => some k_ ≠ (s_.2.1 : Value).ownBlock) s_.2.2 y118) ∧ (Below w.heap.size w w')) ?_ ?_
                      rotate_left
                      · intro hCont
                        refine two_ (i := 0) (j := 9) (Ni := some 33) (Nj := some 42) #[true, true, true, true, false, true, true, true, true, false, false, true, true, true, false, false] #[false, true, true, true, false, true, true, true, true, true, false, true, true, true, false, false] rfl rfl rfl rfl (two_of HT_.out (by kernel_rfl)) (by decide) (by decide) (fun K hK => ?_) (fun K hK => ?_)
                        · skip
                          refine Kd.R_lit_step k56 _ 56 ?hg (N := 33) ?hd (xs := ([] : List (S56))) (inner := []) (ok := fun _ => True) (okp := fun _ => True) ?hr ?hp (fun _ hk => hk) trivial (Below.refl _ _) (Nat.le_refl _) (by simp) ?_; (case hd => rfl); (case hg => rfl); (case hr => first | (go_simp; done) | (go_simp; rfl)); (case hp => exact (Reps.none _ _))
                          intro v108 w19 ho20 hb hg_ hnew_
                          clear hg_ hnew_
                          (first | rw [← Ny107.out] at ho20 | (simp only [Int.reduceToNat] at ho20; rw [← Ny107.out] at ho20))
                          have n0_ := Aside0.mk (Kd.R_lower ho20 (below_size (by repeat (first | (with_reducible first | exact HB.out | apply below_alloc | apply pw_below_drewN | apply below_drew1) | exact HB.out))))
                          have n1_ := Aside0.mk (below_step (by repeat (first | (with_reducible first | exact HB.out | apply below_alloc | apply pw_below_drewN | apply below_drew1) | exact HB.out)) hb)
                          clear HB
                          have HO109 := n0_
                          have HB := n1_
                          clear n0_ n1_
                          clear hb ho20
                          refine hK.out _ _ ⟨((HB.out.cell (World.block_lt_of_cell? w _ hw117_0)).trans hw117_0), ((HB.out.cell (World.block_lt_of_cell? w _ hw117_1)).trans hw117_1), ((HB.out.cell (World.block_lt_of_cell? w _ hw117_2)).trans hw117_2)⟩ (fun hHeld => ?_)
                          clear hK K
                          refine norm_ (a' := ?_) ?_ ?_
                          rotate_left
                          · show Act.put _ (some 33) _ = _
                            simp only [Act.put, List.setIfInBounds_toArray, List.set_cons_zero, List.set_cons_succ, i64_w, i32_w]
                            rfl
                          refine two_ (i := 4) (j := 9) (Ni := some 37) (Nj := some 42) #[true, true, true, true, true, true, true, true, true, false, false, true, true, true, false, false] #[true, true, true, true, false, true, true, true, true, true, false, true, true, true, false, false] rfl rfl rfl rfl (two_of HT_.out (by kernel_rfl)) (by decide) (by decide) (fun K hK => ?_) (fun K hK => ?_)
                          · skip
                            refine Kd.R_append_rows_step k56 (w0 := w) w.heap.size (by rfl) (.tmp 33) (.tmp 36) 26 56 (.agg #[(.int .i64 0), (.int .i64 0), (.int .i64 0)]) 24 rfl Try.underlying26 info56 rfl (by decide) (by omega) v108 y107 y110 _ _ _ (fun _ => True) (fun _ => False) rfl rfl ?aO ?aR (fun _ _ h => h) (fun _ h => h.elim) ?aF ?aB ?aS ?aL ?_
                            (case aR => repeat (first | exact (Kd.C_below HR113.out HB.out) | (with_reducible refine Kd.C_alloc ?_ _) | (with_reducible refine Kd.C_drewN ?_ _) | (with_reducible refine Kd.C_drew ?_)))
                            (case aB => exact (by repeat (first | (with_reducible first | exact HB.out | apply below_alloc | apply pw_below_drewN | apply below_drew1) | exact HB.out)))
                            (case aF => exact (fun _ _ => trivial))
                            (case aO => exact (by (with_reducible repeat (first | apply Kd.R_alloc | apply Kd.R_drewN | apply Kd.R_drew)); exact HO109.out))
                            (case aS => exact (below_size (by repeat (first | (with_reducible first | exact HB.out | apply below_alloc | apply pw_below_drewN | apply below_drew1) | exact HB.out))))
                            (case aL => have := LMc9.out; omega)
                            intro v115 w21 ho hb hg hat
                            rw [← Ny114.out] at ho
                            have n0_ := Aside0.mk (hb)
                            have n1_ := Aside0.mk (ho)
                            clear HB
                            clear HO109
                            have HB := n0_
                            have HO116 := n1_
                            clear n0_ n1_
                            clear ho hb hg hat
                            refine hK.out _ _ ⟨((HB.out.cell (World.block_lt_of_cell? w _ hw117_0)).trans hw117_0), ((HB.out.cell (World.block_lt_of_cell? w _ hw117_1)).trans hw117_1), ((HB.out.cell (World.block_lt_of_cell? w _ hw117_2)).trans hw117_2)⟩ (fun hHeld => ?_)
                            clear hK K
                            refine norm_ (a' := ?_) ?_ ?_
                            rotate_left
                            · show Act.put _ (some 37) _ = _
                              simp only [Act.put, List.setIfInBounds_toArray, List.set_cons_zero, List.set_cons_succ, i64_w, i32_w]
                              rfl
                            refine one_ (i := 9) (N := some 42) #[true, true, true, true, true, true, true, true, true, true, false, true, true, true, false, false] rfl rfl (one_of HT_.out (by kernel_rfl)) (by decide) (fun K hK => ?_)
                            refine Kd.R_lit_step k56 _ 56 ?hg (N := 42) ?hd (xs := ([(⟨(rd_T56 l0 a4).f0, (rd_T56 l0 a4).f1, (rd_T56 l0 a4).f2⟩ : S56)] : List (S56))) (inner := [.int .i64 ((rd_T56 l0 a4).f0), .int .i64 ((rd_T56 l0 a4).f1), .int .i64 ((rd_T56 l0 a4).f2)]) (ok := fun _ => True) (okp := fun _ => True) ?hr ?hp (fun _ hk => hk) trivial (Below.refl _ _) (Nat.le_refl _) (by simp) ?_; (case hd => rfl); (case hg => rfl); (case hr => first | (go_simp; done) | (go_simp; rfl)); (case hp => exact (Reps.c3 (show Kd.M k56 _ _ _ (⟨(rd_T56 l0 a4).f0, (rd_T56 l0 a4).f1, (rd_T56 l0 a4).f2⟩ : S56) [.int .i64 ((rd_T56 l0 a4).f0), .int .i64 ((rd_T56 l0 a4).f1), .int .i64 ((rd_T56 l0 a4).f2)] from (k56_mkM _ _ _ (⟨(rd_T56 l0 a4).f0, (rd_T56 l0 a4).f1, (rd_T56 l0 a4).f2⟩ : S56) )) (Reps.none _ _)))
                            intro v119 w22 ho23 hb hg_ hnew_
                            clear hg_ hnew_
                            (first | rw [← Ny118.out] at ho23 | (simp only [Int.reduceToNat] at ho23; rw [← Ny118.out] at ho23))
                            have n0_ := Aside0.mk (Kd.R_elder' (by (with_reducible repeat (first | apply Kd.R_alloc | apply Kd.R_drewN | apply Kd.R_drew)); exact HO116.out) (Kd.R_base ho23) hb)
                            have n1_ := Aside0.mk (Kd.R_lower (Kd.R_new' ho23 (Kd.R_lt (by (with_reducible repeat (first | apply Kd.R_alloc | apply Kd.R_drewN | apply Kd.R_drew)); exact HO116.out))) (below_size (by repeat (first | (with_reducible first | exact HB.out | apply below_alloc | apply pw_below_drewN | apply below_drew1) | exact HB.out))))
                            have n2_ := Aside0.mk (below_step (by repeat (first | (with_reducible first | exact HB.out | apply below_alloc | apply pw_below_drewN | apply below_drew1) | exact HB.out)) hb)
                            clear HO116
                            clear HB
                            have HO116 := n0_
                            have HO120 := n1_
                            have HB := n2_
                            clear n0_ n1_ n2_
                            clear hb ho23
                            refine hK.out _ _ ⟨((HB.out.cell (World.block_lt_of_cell? w _ hw117_0)).trans hw117_0), ((HB.out.cell (World.block_lt_of_cell? w _ hw117_1)).trans hw117_1), ((HB.out.cell (World.block_lt_of_cell? w _ hw117_2)).trans hw117_2)⟩ (fun hHeld => ?_)
                            clear hK K
                            refine norm_ (a' := ?_) ?_ ?_
                            rotate_left
                            · show Act.put _ (some 42) _ = _
                              simp only [Act.put, List.setIfInBounds_toArray, List.set_cons_zero, List.set_cons_succ, i64_w, i32_w]
                              rfl
                            exact norm_ (by simp only [putAll, Act.put, List.setIfInBounds_toArray, List.set_cons_zero, List.set_cons_succ]) (hCont (v108, v115, v119) _ ⟨hHeld, (by (with_reducible repeat (first | apply Kd.R_alloc | apply Kd.R_drewN | apply Kd.R_drew)); exact Kd.R_mono HO116.out (fun _ hk => hk.2)), (by (with_reducible repeat (first | apply Kd.R_alloc | apply Kd.R_drewN | apply Kd.R_drew)); exact Kd.R_mono HO120.out (fun _ hk => hk.2)), (by repeat (first | (with_reducible first | exact HB.out | apply below_alloc | apply pw_below_drewN | apply below_drew1) | exact HB.out))⟩)
                          · skip
                            refine Kd.R_lit_step k56 _ 56 ?hg (N := 42) ?hd (xs := ([(⟨(rd_T56 l0 a4).f0, (rd_T56 l0 a4).f1, (rd_T56 l0 a4).f2⟩ : S56)] : List (S56))) (inner := [.int .i64 ((rd_T56 l0 a4).f0), .int .i64 ((rd_T56 l0 a4).f1), .int .i64 ((rd_T56 l0 a4).f2)]) (ok := fun _ => True) (okp := fun _ => True) ?hr ?hp (fun _ hk => hk) trivial (Below.refl _ _) (Nat.le_refl _) (by simp) ?_; (case hd => rfl); (case hg => rfl); (case hr => first | (go_simp; done) | (go_simp; rfl)); (case hp => exact (Reps.c3 (show Kd.M k56 _ _ _ (⟨(rd_T56 l0 a4).f0, (rd_T56 l0 a4).f1, (rd_T56 l0 a4).f2⟩ : S56) [.int .i64 ((rd_T56 l0 a4).f0), .int .i64 ((rd_T56 l0 a4).f1), .int .i64 ((rd_T56 l0 a4).f2)] from (k56_mkM _ _ _ (⟨(rd_T56 l0 a4).f0, (rd_T56 l0 a4).f1, (rd_T56 l0 a4).f2⟩ : S56) )) (Reps.none _ _)))
                            intro v119 w21 ho22 hb hg_ hnew_
                            clear hg_ hnew_
                            (first | rw [← Ny118.out] at ho22 | (simp only [Int.reduceToNat] at ho22; rw [← Ny118.out] at ho22))
                            have n0_ := Aside0.mk (Kd.R_elder' (by (with_reducible repeat (first | apply Kd.R_alloc | apply Kd.R_drewN | apply Kd.R_drew)); exact HO109.out) (Kd.R_base ho22) hb)
                            have n1_ := Aside0.mk (Kd.R_lower (Kd.R_new' ho22 (Kd.R_lt (by (with_reducible repeat (first | apply Kd.R_alloc | apply Kd.R_drewN | apply Kd.R_drew)); exact HO109.out))) (below_size (by repeat (first | (with_reducible first | exact HB.out | apply below_alloc | apply pw_below_drewN | apply below_drew1) | exact HB.out))))
                            have n2_ := Aside0.mk (below_step (by repeat (first | (with_reducible first | exact HB.out | apply below_alloc | apply pw_below_drewN | apply below_drew1) | exact HB.out)) hb)
                            clear HO109
                            clear HB
                            have HO109 := n0_
                            have HO120 := n1_
                            have HB := n2_
                            clear n0_ n1_ n2_
                            clear hb ho22
                            refine hK.out _ _ ⟨((HB.out.cell (World.block_lt_of_cell? w _ hw117_0)).trans hw117_0), ((HB.out.cell (World.block_lt_of_cell? w _ hw117_1)).trans hw117_1), ((HB.out.cell (World.block_lt_of_cell? w _ hw117_2)).trans hw117_2)⟩ (fun hHeld => ?_)
                            clear hK K
                            refine norm_ (a' := ?_) ?_ ?_
                            rotate_left
                            · show Act.put _ (some 42) _ = _
                              simp only [Act.put, List.setIfInBounds_toArray, List.set_cons_zero, List.set_cons_succ, i64_w, i32_w]
                              rfl
                            refine one_ (i := 4) (N := some 37) #[true, true, true, true, true, true, true, true, true, true, false, true, true, true, false, false] rfl rfl (one_of HT_.out (by kernel_rfl)) (by decide) (fun K hK => ?_)
                            refine Kd.R_append_rows_step k56 (w0 := w) w.heap.size (by rfl) (.tmp 33) (.tmp 36) 26 56 (.agg #[(.int .i64 0), (.int .i64 0), (.int .i64 0)]) 24 rfl Try.underlying26 info56 rfl (by decide) (by omega) v108 y107 y110 _ _ _ (fun k_ => some k_ ≠ (v119 : Value).ownBlock) (fun _ => False) rfl rfl ?aO ?aR (fun _ _ h => h) (fun _ h => h.elim) ?aF ?aB ?aS ?aL ?_
                            (case aR => repeat (first | exact (Kd.C_below HR113.out HB.out) | (with_reducible refine Kd.C_alloc ?_ _) | (with_reducible refine Kd.C_drewN ?_ _) | (with_reducible refine Kd.C_drew ?_)))
                            (case aB => exact (by repeat (first | (with_reducible first | exact HB.out | apply below_alloc | apply pw_below_drewN | apply below_drew1) | exact HB.out)))
                            (case aF => exact (fun k_ hk => Kd.fresh' (Kd.R_lt (by (with_reducible repeat (first | apply Kd.R_alloc | apply Kd.R_drewN | apply Kd.R_drew)); exact HO120.out)) k_ hk))
                            (case aO => exact (by (with_reducible repeat (first | apply Kd.R_alloc | apply Kd.R_drewN | apply Kd.R_drew)); exact Kd.R_mono HO109.out (fun _ hk => hk.2)))
                            (case aS => exact (below_size (by repeat (first | (with_reducible first | exact HB.out | apply below_alloc | apply pw_below_drewN | apply below_drew1) | exact HB.out))))
                            (case aL => have := LMc9.out; omega)
                            intro v115 w23 ho hb hg hat
                            rw [← Ny114.out] at ho
                            have n0_ := Aside0.mk (Kd.R_after (ok := (fun _ => True)) (by (with_reducible repeat (first | apply Kd.R_alloc | apply Kd.R_drewN | apply Kd.R_drew)); exact HO120.out) hg hat)
                            have n1_ := Aside0.mk (hb)
                            have n2_ := Aside0.mk (ho)
                            clear HO120
                            clear HB
                            clear HO109
                            have HO120 := n0_
                            have HB := n1_
                            have HO116 := n2_
                            clear n0_ n1_ n2_
                            clear ho hb hg hat
                            refine hK.out _ _ ⟨((HB.out.cell (World.block_lt_of_cell? w _ hw117_0)).trans hw117_0), ((HB.out.cell (World.block_lt_of_cell? w _ hw117_1)).trans hw117_1), ((HB.out.cell (World.block_lt_of_cell? w _ hw117_2)).trans hw117_2)⟩ (fun hHeld => ?_)
                            clear hK K
                            refine norm_ (a' := ?_) ?_ ?_
                            rotate_left
                            · show Act.put _ (some 37) _ = _
                              simp only [Act.put, List.setIfInBounds_toArray, List.set_cons_zero, List.set_cons_succ, i64_w, i32_w]
                              rfl
                            exact norm_ (by simp only [putAll, Act.put, List.setIfInBounds_toArray, List.set_cons_zero, List.set_cons_succ]) (hCont (v108, v115, v119) _ ⟨hHeld, (by (with_reducible repeat (first | apply Kd.R_alloc | apply Kd.R_drewN | apply Kd.R_drew)); exact HO116.out), (by (with_reducible repeat (first | apply Kd.R_alloc | apply Kd.R_drewN | apply Kd.R_drew)); exact Kd.R_mono HO120.out (fun _ hk => hk.2)), (by repeat (first | (with_reducible first | exact HB.out | apply below_alloc | apply pw_below_drewN | apply below_drew1) | exact HB.out))⟩)
                        · skip
                          refine Kd.R_lit_step k56 _ 56 ?hg (N := 42) ?hd (xs := ([(⟨(rd_T56 l0 a4).f0, (rd_T56 l0 a4).f1, (rd_T56 l0 a4).f2⟩ : S56)] : List (S56))) (inner := [.int .i64 ((rd_T56 l0 a4).f0), .int .i64 ((rd_T56 l0 a4).f1), .int .i64 ((rd_T56 l0 a4).f2)]) (ok := fun _ => True) (okp := fun _ => True) ?hr ?hp (fun _ hk => hk) trivial (Below.refl _ _) (Nat.le_refl _) (by simp) ?_; (case hd => rfl); (case hg => rfl); (case hr => first | (go_simp; done) | (go_simp; rfl)); (case hp => exact (Reps.c3 (show Kd.M k56 _ _ _ (⟨(rd_T56 l0 a4).f0, (rd_T56 l0 a4).f1, (rd_T56 l0 a4).f2⟩ : S56) [.int .i64 ((rd_T56 l0 a4).f0), .int .i64 ((rd_T56 l0 a4).f1), .int .i64 ((rd_T56 l0 a4).f2)] from (k56_mkM _ _ _ (⟨(rd_T56 l0 a4).f0, (rd_T56 l0 a4).f1, (rd_T56 l0 a4).f2⟩ : S56) )) (Reps.none _ _)))
                          intro v119 w19 ho20 hb hg_ hnew_
                          clear hg_ hnew_
                          (first | rw [← Ny118.out] at ho20 | (simp only [Int.reduceToNat] at ho20; rw [← Ny118.out] at ho20))
                          have n0_ := Aside0.mk (Kd.R_lower ho20 (below_size (by repeat (first | (with_reducible first | exact HB.out | apply below_alloc | apply pw_below_drewN | apply below_drew1) | exact HB.out))))
                          have n1_ := Aside0.mk (below_step (by repeat (first | (with_reducible first | exact HB.out | apply below_alloc | apply pw_below_drewN | apply below_drew1) | exact HB.out)) hb)
                          clear HB
                          have HO120 := n0_
                          have HB := n1_
                          clear n0_ n1_
                          clear hb ho20
                          refine hK.out _ _ ⟨((HB.out.cell (World.block_lt_of_cell? w _ hw117_0)).trans hw117_0), ((HB.out.cell (World.block_lt_of_cell? w _ hw117_1)).trans hw117_1), ((HB.out.cell (World.block_lt_of_cell? w _ hw117_2)).trans hw117_2)⟩ (fun hHeld => ?_)
                          clear hK K
                          refine norm_ (a' := ?_) ?_ ?_
                          rotate_left
                          · show Act.put _ (some 42) _ = _
                            simp only [Act.put, List.setIfInBounds_toArray, List.set_cons_zero, List.set_cons_succ, i64_w, i32_w]
                            rfl
                          refine one_ (i := 0) (N := some 33) #[true, true, true, true, false, true, true, true, true, true, false, true, true, true, false, false] rfl rfl (one_of HT_.out (by kernel_rfl)) (by decide) (fun K hK => ?_)
                          refine Kd.R_lit_step k56 _ 56 ?hg (N := 33) ?hd (xs := ([] : List (S56))) (inner := []) (ok := fun _ => True) (okp := fun _ => True) ?hr ?hp (fun _ hk => hk) trivial (Below.refl _ _) (Nat.le_refl _) (by simp) ?_; (case hd => rfl); (case hg => rfl); (case hr => first | (go_simp; done) | (go_simp; rfl)); (case hp => exact (Reps.none _ _))
                          intro v108 w21 ho22 hb hg_ hnew_
                          clear hg_ hnew_
                          (first | rw [← Ny107.out] at ho22 | (simp only [Int.reduceToNat] at ho22; rw [← Ny107.out] at ho22))
                          have n0_ := Aside0.mk (Kd.R_elder' (by (with_reducible repeat (first | apply Kd.R_alloc | apply Kd.R_drewN | apply Kd.R_drew)); exact HO120.out) (Kd.R_base ho22) hb)
                          have n1_ := Aside0.mk (Kd.R_lower (Kd.R_new' ho22 (Kd.R_lt (by (with_reducible repeat (first | apply Kd.R_alloc | apply Kd.R_drewN | apply Kd.R_drew)); exact HO120.out))) (below_size (by repeat (first | (with_reducible first | exact HB.out | apply below_alloc | apply pw_below_drewN | apply below_drew1) | exact HB.out))))
                          have n2_ := Aside0.mk (below_step (by repeat (first | (with_reducible first | exact HB.out | apply below_alloc | apply pw_below_drewN | apply below_drew1) | exact HB.out)) hb)
                          clear HO120
                          clear HB
                          have HO120 := n0_
                          have HO109 := n1_
                          have HB := n2_
                          clear n0_ n1_ n2_
                          clear hb ho22
                          refine hK.out _ _ ⟨((HB.out.cell (World.block_lt_of_cell? w _ hw117_0)).trans hw117_0), ((HB.out.cell (World.block_lt_of_cell? w _ hw117_1)).trans hw117_1), ((HB.out.cell (World.block_lt_of_cell? w _ hw117_2)).trans hw117_2)⟩ (fun hHeld => ?_)
                          clear hK K
                          refine norm_ (a' := ?_) ?_ ?_
                          rotate_left
                          · show Act.put _ (some 33) _ = _
                            simp only [Act.put, List.setIfInBounds_toArray, List.set_cons_zero, List.set_cons_succ, i64_w, i32_w]
                            rfl
                          refine one_ (i := 4) (N := some 37) #[true, true, true, true, true, true, true, true, true, true, false, true, true, true, false, false] rfl rfl (one_of HT_.out (by kernel_rfl)) (by decide) (fun K hK => ?_)
                          refine Kd.R_append_rows_step k56 (w0 := w) w.heap.size (by rfl) (.tmp 33) (.tmp 36) 26 56 (.agg #[(.int .i64 0), (.int .i64 0), (.int .i64 0)]) 24 rfl Try.underlying26 info56 rfl (by decide) (by omega) v108 y107 y110 _ _ _ (fun k_ => some k_ ≠ (v119 : Value).ownBlock) (fun _ => False) rfl rfl ?aO ?aR (fun _ _ h => h) (fun _ h => h.elim) ?aF ?aB ?aS ?aL ?_
                          (case aR => repeat (first | exact (Kd.C_below HR113.out HB.out) | (with_reducible refine Kd.C_alloc ?_ _) | (with_reducible refine Kd.C_drewN ?_ _) | (with_reducible refine Kd.C_drew ?_)))
                          (case aB => exact (by repeat (first | (with_reducible first | exact HB.out | apply below_alloc | apply pw_below_drewN | apply below_drew1) | exact HB.out)))
                          (case aF => exact (fun k_ hk => Kd.fresh' (Kd.R_lt (by (with_reducible repeat (first | apply Kd.R_alloc | apply Kd.R_drewN | apply Kd.R_drew)); exact HO120.out)) k_ hk))
                          (case aO => exact (by (with_reducible repeat (first | apply Kd.R_alloc | apply Kd.R_drewN | apply Kd.R_drew)); exact Kd.R_mono HO109.out (fun _ hk => hk.2)))
                          (case aS => exact (below_size (by repeat (first | (with_reducible first | exact HB.out | apply below_alloc | apply pw_below_drewN | apply below_drew1) | exact HB.out))))
                          (case aL => have := LMc9.out; omega)
                          intro v115 w23 ho hb hg hat
                          rw [← Ny114.out] at ho
                          have n0_ := Aside0.mk (Kd.R_after (ok := (fun _ => True)) (by (with_reducible repeat (first | apply Kd.R_alloc | apply Kd.R_drewN | apply Kd.R_drew)); exact HO120.out) hg hat)
                          have n1_ := Aside0.mk (hb)
                          have n2_ := Aside0.mk (ho)
                          clear HO120
                          clear HB
                          clear HO109
                          have HO120 := n0_
                          have HB := n1_
                          have HO116 := n2_
                          clear n0_ n1_ n2_
                          clear ho hb hg hat
                          refine hK.out _ _ ⟨((HB.out.cell (World.block_lt_of_cell? w _ hw117_0)).trans hw117_0), ((HB.out.cell (World.block_lt_of_cell? w _ hw117_1)).trans hw117_1), ((HB.out.cell (World.block_lt_of_cell? w _ hw117_2)).trans hw117_2)⟩ (fun hHeld => ?_)
                          clear hK K
                          refine norm_ (a' := ?_) ?_ ?_
                          rotate_left
                          · show Act.put _ (some 37) _ = _
                            simp only [Act.put, List.setIfInBounds_toArray, List.set_cons_zero, List.set_cons_succ, i64_w, i32_w]
                            rfl
                          exact norm_ (by simp only [putAll, Act.put, List.setIfInBounds_toArray, List.set_cons_zero, List.set_cons_succ]) (hCont (v108, v115, v119) _ ⟨hHeld, (by (with_reducible repeat (first | apply Kd.R_alloc | apply Kd.R_drewN | apply Kd.R_drew)); exact HO116.out), (by (with_reducible repeat (first | apply Kd.R_alloc | apply Kd.R_drewN | apply Kd.R_drew)); exact Kd.R_mono HO120.out (fun _ hk => hk.2)), (by repeat (first | (with_reducible first | exact HB.out | apply below_alloc | apply pw_below_drewN | apply below_drew1) | exact HB.out))⟩)
                      rintro ⟨v108, v115, v119⟩ w24 ⟨hS_, h0_, h1_, h2_⟩
                      have n0_ : Aside0 (Kd.R k56 56 w24 w.heap.size (fun k_ => some k_ ≠ (v119 : Value).ownBlock) v115 y114) := ⟨h0_⟩
                      have n1_ : Aside0 (Kd.R k56 56 w24 w.heap.size (fun k_ => some k_ ≠ (v115 : Value).ownBlock) v119 y118) := ⟨h1_⟩
                      have n2_ : Aside0 (Below w.heap.size w w24) := ⟨h2_⟩
                      clear HB
                      clear h0_ h1_ h2_
                      have HO116 := n0_
                      have HO120 := n1_
                      have HB := n2_
                      clear n0_ n1_ n2_
                      have hHeld : w24.cell? (ad117.add ((a4).toNat * 3)) = some (.int .i64 ((rd_T56 l0 a4).f0)) ∧ w24.cell? ⟨(ad117.add ((a4).toNat * 3)).block, (ad117.add ((a4).toNat * 3)).off + 1, none⟩ = some (.int .i64 ((rd_T56 l0 a4).f1)) ∧ w24.cell? ⟨(ad117.add ((a4).toNat * 3)).block, (ad117.add ((a4).toNat * 3)).off + 2, none⟩ = some (.int .i64 ((rd_T56 l0 a4).f2)) := hS_
                      obtain ⟨Ao26, co26, eo26⟩ := Kd.R_slice HO120.out
                      (first | subst eo26 | (injection eo26 with f1_ f2_ f3_; have f4_ := f1_.symm; have f5_ := f3_.symm; clear f1_ f2_ f3_; subst f4_; subst f5_))
                      refine norm_ (a' := ?_) ?_ ?_
                      rotate_left
                      · simp only [putAll, Act.put, List.setIfInBounds_toArray, List.set_cons_zero, List.set_cons_succ]
                        rfl
                      refine one_ (i := 10) (N := some 43) #[true, true, true, true, true, true, true, true, true, true, true, true, true, true, false, false] rfl rfl (one_of HT_.out (by kernel_rfl)) (by decide) (fun K hK => ?_)
                      refine Kd.R_append_rows_step k56 (w0 := w) w.heap.size (by rfl) (.tmp 37) (.tmp 42) 26 56 (.agg #[(.int .i64 0), (.int .i64 0), (.int .i64 0)]) 24 rfl Try.underlying26 info56 rfl (by decide) (by omega) v115 y114 y118 _ _ _ (fun k_ => some k_ ≠ (.slice Ao26 y118.length co26 : Value).ownBlock) (fun _ => False) rfl rfl ?aO ?aR (fun _ _ h => h) (fun _ h => h.elim) ?aF ?aB ?aS ?aL ?_
                      (case aR => repeat (first | exact (Kd.R_reads' HO120.out).2.2 | (with_reducible refine Kd.C_alloc ?_ _) | (with_reducible refine Kd.C_drewN ?_ _) | (with_reducible refine Kd.C_drew ?_)))
                      (case aB => exact (by repeat (first | (with_reducible first | exact HB.out | apply below_alloc | apply pw_below_drewN | apply below_drew1) | exact HB.out)))
                      (case aF => exact (fun k_ hk => Kd.fresh' (Kd.R_lt (by (with_reducible repeat (first | apply Kd.R_alloc | apply Kd.R_drewN | apply Kd.R_drew)); exact HO120.out)) k_ hk))
                      (case aO => exact (by (with_reducible repeat (first | apply Kd.R_alloc | apply Kd.R_drewN | apply Kd.R_drew)); exact HO116.out))
                      (case aS => exact (below_size (by repeat (first | (with_reducible first | exact HB.out | apply below_alloc | apply pw_below_drewN | apply below_drew1) | exact HB.out))))
                      (case aL => have := LMc12.out; omega)
                      intro v122 w25 ho hb hg hat
                      rw [← Ny121.out] at ho
                      have n0_ := Aside0.mk (Kd.R_after (ok := (fun _ => True)) (by (with_reducible repeat (first | apply Kd.R_alloc | apply Kd.R_drewN | apply Kd.R_drew)); exact Kd.R_mono HO120.out (fun _ hk => ⟨trivial, hk⟩)) hg hat)
                      have n1_ := Aside0.mk (hb)
                      have n2_ := Aside0.mk (ho)
                      clear HO120
                      clear HB
                      clear HO116
                      have HO120 := n0_
                      have HB := n1_
                      have HO123 := n2_
                      clear n0_ n1_ n2_
                      clear ho hb hg hat
                      refine hK.out _ _ ⟨((HB.out.cell (World.block_lt_of_cell? w _ hw117_0)).trans hw117_0), ((HB.out.cell (World.block_lt_of_cell? w _ hw117_1)).trans hw117_1), ((HB.out.cell (World.block_lt_of_cell? w _ hw117_2)).trans hw117_2)⟩ (fun hHeld => ?_)
                      clear hK K
                      refine norm_ (a' := ?_) ?_ ?_
                      rotate_left
                      · show Act.put _ (some 43) _ = _
                        simp only [Act.put, List.setIfInBounds_toArray, List.set_cons_zero, List.set_cons_succ, i64_w, i32_w]
                        rfl
                      refine one_ (i := 14) (N := some 47) #[true, true, true, true, true, true, true, true, true, true, true, true, true, true, true, false] rfl rfl (one_of HT_.out (by kernel_rfl)) (by decide) (fun K hK => ?_)
                      refine Kd.R_append_rows_step k56 (w0 := w) w.heap.size (by rfl) (.tmp 43) (.tmp 46) 26 56 (.agg #[(.int .i64 0), (.int .i64 0), (.int .i64 0)]) 24 rfl Try.underlying26 info56 rfl (by decide) (by omega) v122 y121 y124 _ _ _ (fun k_ => some k_ ≠ (.slice Ao26 y118.length co26 : Value).ownBlock) (fun _ => False) rfl rfl ?aO ?aR (fun _ _ h => h) (fun _ h => h.elim) ?aF ?aB ?aS ?aL ?_
                      (case aR => repeat (first | exact (Kd.C_below HR127.out HB.out) | (with_reducible refine Kd.C_alloc ?_ _) | (with_reducible refine Kd.C_drewN ?_ _) | (with_reducible refine Kd.C_drew ?_)))
                      (case aB => exact (by repeat (first | (with_reducible first | exact HB.out | apply below_alloc | apply pw_below_drewN | apply below_drew1) | exact HB.out)))
                      (case aF => exact (fun k_ hk => Kd.fresh' (Kd.R_lt (by (with_reducible repeat (first | apply Kd.R_alloc | apply Kd.R_drewN | apply Kd.R_drew)); exact HO120.out)) k_ hk))
                      (case aO => exact (by (with_reducible repeat (first | apply Kd.R_alloc | apply Kd.R_drewN | apply Kd.R_drew)); exact HO123.out))
                      (case aS => exact (below_size (by repeat (first | (with_reducible first | exact HB.out | apply below_alloc | apply pw_below_drewN | apply below_drew1) | exact HB.out))))
                      (case aL => have := LMc15.out; omega)
                      intro v129 w27 ho hb hg hat
                      rw [← Ny128.out] at ho
                      have n0_ := Aside0.mk (Kd.R_after (ok := (fun _ => True)) (by (with_reducible repeat (first | apply Kd.R_alloc | apply Kd.R_drewN | apply Kd.R_drew)); exact HO120.out) hg hat)
                      have n1_ := Aside0.mk (hb)
                      have n2_ := Aside0.mk (ho)
                      clear HO120
                      clear HB
                      clear HO123
                      have HO120 := n0_
                      have HB := n1_
                      have HO130 := n2_
                      clear n0_ n1_ n2_
                      clear ho hb hg hat
                      refine hK.out _ _ ⟨((HB.out.cell (World.block_lt_of_cell? w _ hw117_0)).trans hw117_0), ((HB.out.cell (World.block_lt_of_cell? w _ hw117_1)).trans hw117_1), ((HB.out.cell (World.block_lt_of_cell? w _ hw117_2)).trans hw117_2)⟩ (fun hHeld => ?_)
                      clear hK K
                      refine norm_ (a' := ?_) ?_ ?_
                      rotate_left
                      · show Act.put _ (some 47) _ = _
                        simp only [Act.put, List.setIfInBounds_toArray, List.set_cons_zero, List.set_cons_succ, i64_w, i32_w]
                        rfl
                      refine pure_ (i := 15) (N := some 3) (v := ?_) (a' := ?_) #[true, true, true, true, true, true, true, true, true, true, true, true, true, true, true, true] rfl rfl (any_of HT_.out (by kernel_rfl)) (fun _ _ _ h => h) (Or.inl ⟨by rfl, ?_⟩) ?_ ?_
                      rotate_left
                      · intro w'
                        go_simp
                        with_reducible rfl
                      rotate_left
                      · simp only [Act.put, List.setIfInBounds_toArray, List.set_cons_zero, List.set_cons_succ, i64_w, i32_w]
                        rfl
                      refine done_ (done_of HT_.out (by kernel_rfl)) ?_
                      try go_wp2
                      obtain rfl := Option.some.inj hA0
                      go_roundg (gka - 1)
                      case measure => omega
                      case rel => exact ⟨_, i + 1, wrap64 (a4 + 1), (by first | rfl | (simp; done) | (simp [*]; done)), ⟨by have := HA4.out; unfold wrap64; omega⟩, by omega, by omega, ⟨Kd.R_lower (by (with_reducible repeat (first | apply Kd.R_alloc | apply Kd.R_drewN | apply Kd.R_drew)); exact Kd.R_mono HO130.out (fun _ hk => trivial)) HBb.out.size⟩, HN, ⟨below_weaken HBb.out HBb.out.size (by repeat (first | (with_reducible first | exact HB.out | apply below_alloc | apply pw_below_drewN | apply below_drew1) | exact HB.out))⟩⟩
                    · rw [if_neg c15] at H
                      exact absurd H (by simp)
                  · rw [if_neg c12] at H
                    exact absurd H (by simp)
                · rw [if_neg c11] at H
                  exact absurd H (by simp)
              · rw [if_neg c10] at H
                exact absurd H (by simp)
            · rw [if_neg c9] at H
              exact absurd H (by simp)
          · rw [if_neg c8] at H
            exact absurd H (by simp)
        · rw [if_neg c7] at H
          exact absurd H (by simp)

end Go.Proofs.Ytpkdbkheggfkkaa.PFnExactHighestBids
