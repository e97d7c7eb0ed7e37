/- The plain part of FnKept: what the printed functions come to, and that the law's answer is true. No conditions beyond those of the statement. -/
import Derived.Test.YtbfpdakodcegjaaPFnKeptx
import Derived.Test.YtbfpdakodcegjaaBaseFnKept
import Derived.Test.YtbfpdakodcegjaaDefFnKept
namespace Go.Proofs.Ytbfpdakodcegjaa.PFnKept
open Go.RowKit Go.Proofs.YtbfpdakodcegjaaW.PrintWords Go.Proofs.YtbfpdakodcegjaaW.PrintMore Go.Proofs.Ytbfpdakodcegjaa.Base
set_option linter.unusedVariables false
set_option linter.unusedSimpArgs false

/-! impl_InRange -/
theorem impl_InRange_eq (a b c : Int) : impl_InRange.f a b c = some (inr a b c) := by
  unfold impl_InRange.f inr
  by_cases h : b ≤ a <;> simp [h]

/-! impl_IsThing -/
theorem impl_IsThing_eq (a b c d e : Int) : impl_IsThing.f a b c d e = some (isThing a b c d e) := by
  simp only [impl_IsThing.f, impl_InRange_eq, Option.bind_some, ite_and, isThing]

/-! impl_IsFind -/
theorem impl_IsFind_eq (a b c d e f g h : Int) : impl_IsFind.f a b c d e f g h = some (isFind a b c d e f g h) := by
  simp only [impl_IsFind.f, impl_IsThing_eq, impl_InRange_eq, Option.bind_some, ite_and, isFind]

/-! impl_KeepDays -/
theorem impl_KeepDays_ev (a : Int) : Ev (fun k => impl_KeepDays.f k a) (keepDays a) := by
  refine ev_succ ?_
  simp only [impl_KeepDays.f, impl_KeepDays.j0]
  refine ev_const ?_
  unfold keepDays
  by_cases h7 : a = 7
  · simp [h7]
  by_cases h4 : a = 4
  · simp [h4]
  by_cases h5 : a = 5
  · simp [h5]
  simp only [h7, h4, h5, if_false, beq_iff_eq]
  by_cases hr : inr a 1 8 = true
  · have := (inr_iff a 1 8).1 hr
    rw [if_pos hr]
    have : a = 1 ∨ a = 2 ∨ a = 3 ∨ a = 6 ∨ a = 8 := by omega
    rcases this with rfl | rfl | rfl | rfl | rfl <;> rfl
  · rw [if_neg hr]
    have hn : ¬ (1 ≤ a ∧ a ≤ 8) := fun h => hr ((inr_iff a 1 8).2 h)
    rw [if_neg (by omega), if_neg (by omega), if_neg (by omega), if_neg (by omega), if_neg (by omega)]

/-! impl_DueHour -/
theorem impl_DueHour_ev (a b c d e f g h : Int) : Ev (fun k => impl_DueHour.f k a b c d e f g h) (dueHour a b c d e f g h) := by
  simp only [impl_DueHour.f, impl_IsFind_eq, Option.bind_some, dueHour]
  by_cases h1 : isFind a b c d e f g h = true
  · simp only [h1, if_true]
    exact Ev.bind (impl_KeepDays_ev b) (Ev.now _)
  · simp only [h1]
    exact Ev.now _

/-! type_68 -/
theorem rd_T68_pre (pre : List (S68)) (x : S68) (rest : List (S68)) : rd_T68 (pre ++ x :: rest) (pre.length : Int) = x := getD_pre pre x rest z68

/-! nextDue -/
def dueOf (x : S68) : Int := dueHour x.f0.f0 x.f0.f1 x.f0.f2 x.f0.f3 x.f0.f4 x.f1 x.f2 x.f3
def dueStep (now : Int) (n : Int) (x : S68) : Int := if dueOf x > now ∧ dueOf x ≥ 0 ∧ (n < 0 ∨ dueOf x < n) then dueOf x else n

/-! impl_NextDue -/
theorem impl_NextDue_ev (l : List (S68)) (now : Int) (h : l.length ≤ 1099511627776) : Ev (fun k => impl_NextDue.f k l now) (l.foldl (dueStep now) (-1)) := by
  refine ev_range l (fun k n i => impl_NextDue.l0 k now n l (l.length : Int) i) (fun n r => r.foldl (dueStep now) n) (fun _ _ => True) (by omega) ?_ ?_ (-1) trivial
  · intro n _
    simp only [impl_NextDue.l0, if_neg (Int.lt_irrefl _)]
    exact Ev.now _
  · intro pre x rest n _ hlt hget _ ih
    have hr : rd_T68 l (pre.length : Int) = x := hget _
    have hd : dueHour x.f0.f0 x.f0.f1 x.f0.f2 x.f0.f3 x.f0.f4 x.f1 x.f2 x.f3 = dueOf x := rfl
    simp only [impl_NextDue.l0, if_pos hlt, if_pos (ge0 pre.length), hr]
    refine Ev.bind (impl_DueHour_ev _ _ _ _ _ _ _ _) ?_
    simp only [hd]
    by_cases h1 : dueOf x > now
    · by_cases h2 : dueOf x ≥ 0
      · by_cases h3 : n < 0
        · simp only [if_pos h1, if_pos h2, if_pos h3]
          exact ev_map (ih _ trivial) (by simp [dueStep, h1, h2, h3])
        · by_cases h4 : dueOf x < n
          · simp only [if_pos h1, if_pos h2, if_neg h3, if_pos h4]
            exact ev_map (ih _ trivial) (by simp [dueStep, h1, h2, h4])
          · simp only [if_pos h1, if_pos h2, if_neg h3, if_neg h4]
            exact ev_map (ih _ trivial) (by simp [dueStep, h3, h4])
      · simp only [if_pos h1, if_neg h2]
        exact ev_map (ih _ trivial) (by simp [dueStep, h2])
    · by_cases h2 : dueOf x ≥ 0
      · simp only [if_neg h1, if_pos h2]
        exact ev_map (ih _ trivial) (by simp [dueStep, h1])
      · simp only [if_neg h1, if_neg h2]
        exact ev_map (ih _ trivial) (by simp [dueStep, h1])

/-! cursor -/
theorem i64_and255 (n : Int) : bits .and .i64 n 255 = n % 256 := by
  have h255 : (BitVec.ofInt 64 255).toNat = 2 ^ 8 - 1 := by decide
  have key : (BitVec.ofInt 64 n &&& BitVec.ofInt 64 255).toNat = (n % ((2 ^ 64 : Nat) : Int)).toNat % 2 ^ 8 := by
    rw [BitVec.toNat_and, BitVec.toNat_ofInt, h255, Nat.and_two_pow_sub_one_eq_mod]
  show IntKind.i64.wrap ((BitVec.ofInt 64 n &&& BitVec.ofInt 64 255).toNat : Nat) = n % 256
  rw [key, IntKind.wrap_i64]
  omega
/-- A cursor over the bytes b stands at place i. -/
def Cur (b : List Int) (i : Int) : Prop := b.length ≤ 1048576 ∧ 0 ≤ i ∧ i ≤ (b.length : Int)

/-! spec_l1New -/
theorem l1New_tot (b : List Int) (hl : b.length ≤ 1048576) : ∃ h, Ev (fun k => spec_l1New.f k b) (b, 0, h) := by
  have key : ∀ (d i : Nat) (h : Int), i + d = b.length → ∃ h', Ev (fun k => spec_l1New.l0 k b h (i : Int)) (b, 0, h') := by
    intro d
    induction d with
    | zero =>
      intro i h hi
      refine ⟨h, ev_succ ?_⟩
      simp only [spec_l1New.l0, if_neg (show ¬ (i : Int) < (b.length : Int) by omega)]
      exact Ev.now _
    | succ d ih =>
      intro i h hi
      by_cases h4 : (i : Int) < 4000
      · obtain ⟨h', e⟩ := ih (i + 1) (bits .and .i64 (wrap64 (wrap64 (wrap64 (h * 137) + wrap64 (rd b i)) + 11)) 1073741823) (by omega)
        refine ⟨h', ev_succ ?_⟩
        simp only [spec_l1New.l0, if_pos (show (i : Int) < (b.length : Int) by omega), if_pos h4, if_pos (ge0 i), wsucc (show i < 9223372036854775807 by omega)]
        exact e
      · refine ⟨h, ev_succ ?_⟩
        simp only [spec_l1New.l0, if_pos (show (i : Int) < (b.length : Int) by omega), if_neg h4]
        exact Ev.now _
  exact key b.length 0 _ (by omega)
theorem cur0 (b : List Int) (hl : b.length ≤ 1048576) : Cur b 0 := ⟨hl, by omega, by omega⟩

/-! spec_l1Byte -/
theorem l1Byte_tot (b : List Int) (i h : Int) (hc : Cur b i) : ∃ x i' h', spec_l1Byte.f b i h = some (x, i', h') ∧ 0 ≤ x ∧ x < 256 ∧ Cur b i' := by
  obtain ⟨h1, h2, h3⟩ := hc
  unfold spec_l1Byte.f
  by_cases hi : i < (b.length : Int)
  · rw [if_pos hi, if_pos h2]
    refine ⟨_, _, _, rfl, ?_, ?_, h1, ?_⟩
    · rw [i64_and255 (wrap64 _)]
      omega
    · rw [i64_and255 (wrap64 _)]
      omega
    · rw [w64 (by omega) (by omega)]
      omega
  · rw [if_neg hi]
    refine ⟨_, _, _, rfl, ?_, ?_, h1, h2, h3⟩
    · rw [i64_and255]
      omega
    · rw [i64_and255]
      omega

/-! spec_l1Below -/
theorem l1Below_tot (b : List Int) (i h n : Int) (hc : Cur b i) : ∃ x i' h', spec_l1Below.f b i h n = some (x, i', h') ∧ 0 ≤ x ∧ (0 < n → x < n) ∧ Cur b i' := by
  unfold spec_l1Below.f
  by_cases hn : n ≤ 0
  · rw [if_pos hn]
    exact ⟨_, _, _, rfl, by omega, fun h => by omega, hc⟩
  · rw [if_neg hn]
    by_cases h256 : n ≤ 256
    · rw [if_pos h256]
      obtain ⟨x, i1, h1, e1, hx0, hx1, c1⟩ := l1Byte_tot b i h hc
      simp only [e1, Option.bind_some, if_neg (show ¬ n = 0 by omega)]
      exact ⟨_, _, _, rfl, Int.tmod_nonneg _ hx0, fun h => Int.tmod_lt_of_pos _ h, c1⟩
    · rw [if_neg h256]
      obtain ⟨x, i1, h1, e1, hx0, hx1, c1⟩ := l1Byte_tot b i h hc
      obtain ⟨y, i2, h2, e2, hy0, hy1, c2⟩ := l1Byte_tot b i1 h1 c1
      obtain ⟨z, i3, h3, e3, hz0, hz1, c3⟩ := l1Byte_tot b i2 h2 c2
      simp only [e1, e2, e3, Option.bind_some, if_neg (show ¬ n = 0 by omega)]
      refine ⟨_, _, _, rfl, Int.tmod_nonneg _ ?_, fun h => Int.tmod_lt_of_pos _ h, c3⟩
      rw [w64 (x := x * 65536) (by omega) (by omega), w64 (x := y * 256) (by omega) (by omega), w64 (x := x * 65536 + y * 256) (by omega) (by omega), w64 (by omega) (by omega)]
      omega

/-! spec_l1Int -/
theorem l1Int_tot (b : List Int) (i h : Int) (l : List Int) (hl : 0 < l.length) (hc : Cur b i) : ∃ x i' h', spec_l1Int.f b i h l = some (x, i', h') ∧ x ∈ l ∧ Cur b i' := by
  obtain ⟨x, i1, h1, e1, hx0, hx1, c1⟩ := l1Below_tot b i h (l.length : Int) hc
  have hx := hx1 (by omega)
  unfold spec_l1Int.f
  simp only [e1, Option.bind_some, if_pos hx0, if_pos hx]
  refine ⟨_, _, _, rfl, ?_, c1⟩
  unfold rd
  rw [List.getD_eq_getElem?_getD, List.getElem?_eq_getElem (by omega)]
  exact List.getElem_mem _

/-! spec_l4Draw -/
theorem l4Draw_tot (b : List Int) (i h id : Int) (hc : Cur b i) : ∃ x0 x1 x2 x3 x4 i' h', spec_l4Draw.f b i h id = some (x0, x1, x2, x3, x4, i', h') ∧ Cur b i' := by
  obtain ⟨a1, i1, h1, e1, _, _, c1⟩ := l1Below_tot b i h 8 hc
  obtain ⟨a2, i2, h2, e2, _, _, c2⟩ := l1Below_tot b i1 h1 8 c1
  obtain ⟨a3, i3, h3, e3, _, _, c3⟩ := l1Below_tot b i2 h2 20 c2
  obtain ⟨a4, i4, h4, e4, _, _, c4⟩ := l1Below_tot b i3 h3 500 c3
  unfold spec_l4Draw.f
  simp only [e1, e2, e3, e4, Option.bind_some]
  exact ⟨_, _, _, _, _, _, _, rfl, c4⟩

/-! spec_l4Raw -/
theorem l4Raw_tot (b : List Int) (i h : Int) (hc : Cur b i) : ∃ x i' h', spec_l4Raw.f b i h = some (x, i', h') ∧ Cur b i' := by
  obtain ⟨x, i1, h1, e1, _, c1⟩ := l1Int_tot b i h [(-1), 0, 8, 50, 51, 1000, 9223372036854775807, (-9223372036854775808)] (by decide) hc
  unfold spec_l4Raw.f
  simp only [e1, Option.bind_some]
  exact ⟨_, _, _, rfl, c1⟩

/-! spec_l4Any -/
theorem l4Any_tot (b : List Int) (i h : Int) (hc : Cur b i) : ∃ x0 x1 x2 x3 x4 i' h', spec_l4Any.f b i h = some (x0, x1, x2, x3, x4, i', h') ∧ Cur b i' := by
  obtain ⟨a1, i1, h1, e1, _, _, c1⟩ := l1Below_tot b i h 40 hc
  obtain ⟨x0, x1, x2, x3, x4, i2, h2, e2, c2⟩ := l4Draw_tot b i1 h1 (wrap64 (1 + a1)) c1
  obtain ⟨a3, i3, h3, e3, _, _, c3⟩ := l1Below_tot b i2 h2 14 c2
  unfold spec_l4Any.f
  simp only [e1, e2, e3, Option.bind_some]
  split
  · obtain ⟨y, i4, h4, e4, _, c4⟩ := l1Int_tot b i3 h3 [0, 999, 1000] (by decide) c3
    simp only [e4, Option.bind_some]
    exact ⟨_, _, _, _, _, _, _, rfl, c4⟩
  split
  · obtain ⟨y, i4, h4, e4, _, c4⟩ := l1Int_tot b i3 h3 [0, 8, 9] (by decide) c3
    simp only [e4, Option.bind_some]
    exact ⟨_, _, _, _, _, _, _, rfl, c4⟩
  split
  · obtain ⟨y, i4, h4, e4, _, c4⟩ := l1Int_tot b i3 h3 [(-1), 7, 8] (by decide) c3
    simp only [e4, Option.bind_some]
    exact ⟨_, _, _, _, _, _, _, rfl, c4⟩
  split
  · obtain ⟨y, i4, h4, e4, c4⟩ := l4Raw_tot b i3 h3 c3
    simp only [e4, Option.bind_some]
    exact ⟨_, _, _, _, _, _, _, rfl, c4⟩
  split
  · obtain ⟨y, i4, h4, e4, _, c4⟩ := l1Int_tot b i3 h3 [(-1), 10000000, 10000001] (by decide) c3
    simp only [e4, Option.bind_some]
    exact ⟨_, _, _, _, _, _, _, rfl, c4⟩
  · exact ⟨_, _, _, _, _, _, _, rfl, c3⟩

/-! spec_l6Draw -/
theorem l6Draw_tot (b : List Int) (i h id : Int) (hc : Cur b i) : ∃ x0 x1 x2 x3 x4 x5 x6 x7 i' h', spec_l6Draw.f b i h id = some (x0, x1, x2, x3, x4, x5, x6, x7, i', h') ∧ Cur b i' := by
  obtain ⟨x0, x1, x2, x3, x4, i1, h1, e1, c1⟩ := l4Draw_tot b i h id hc
  obtain ⟨a2, i2, h2, e2, _, _, c2⟩ := l1Below_tot b i1 h1 6 c1
  obtain ⟨a3, i3, h3, e3, _, _, c3⟩ := l1Below_tot b i2 h2 80 c2
  obtain ⟨a4, i4, h4, e4, _, _, c4⟩ := l1Below_tot b i3 h3 5 c3
  unfold spec_l6Draw.f
  simp only [e1, e2, e3, e4, Option.bind_some]
  exact ⟨_, _, _, _, _, _, _, _, _, _, rfl, c4⟩

/-! spec_l6List -/
theorem l6List_tot (b : List Int) (i h : Int) (hc : Cur b i) : ∃ l i' h', Ev (fun k => spec_l6List.f k b i h) (l, i', h') ∧ l.length ≤ 8 ∧ Cur b i' := by
  have key : ∀ (m : Nat) (l : List (S68)) (x : Nat) (i h : Int), x + m = 8 → l.length + 1 ≤ x → Cur b i → ∃ l' i' h', Ev (fun k => spec_l6List.l0 k l (x : Int) b i h) (l', i', h') ∧ l'.length ≤ 8 ∧ Cur b i' := by
    intro m
    induction m with
    | zero =>
      intro l x i h hx hl hc
      obtain ⟨y, i1, h1, e1, _, hy, c1⟩ := l1Below_tot b i h 8 hc
      have := hy (by omega)
      refine ⟨l, i1, h1, ev_succ ?_, by omega, c1⟩
      simp only [spec_l6List.l0, e1, Option.bind_some, if_neg (show ¬ (x : Int) ≤ y by omega)]
      exact Ev.now _
    | succ m ih =>
      intro l x i h hx hl hc
      obtain ⟨y, i1, h1, e1, _, hy, c1⟩ := l1Below_tot b i h 8 hc
      by_cases hxy : (x : Int) ≤ y
      · obtain ⟨x0, x1, x2, x3, x4, x5, x6, x7, i2, h2, e2, c2⟩ := l6Draw_tot b i1 h1 (wrap64 (2 * (x : Int))) c1
        obtain ⟨l', i', h', e, hl', c'⟩ := ih (l ++ [⟨⟨x0, x1, x2, x3, x4⟩, x5, x6, x7⟩]) (x + 1) i2 h2 (by omega) (by simp; omega) c2
        refine ⟨l', i', h', ev_succ ?_, hl', c'⟩
        simp only [spec_l6List.l0, e1, e2, Option.bind_some, if_pos hxy, if_pos (show l.length < 2199023255552 by omega), wsucc (show x < 9223372036854775807 by omega)]
        exact e
      · refine ⟨l, i1, h1, ev_succ ?_, by omega, c1⟩
        simp only [spec_l6List.l0, e1, Option.bind_some, if_neg hxy]
        exact Ev.now _
  exact key 7 [] 1 i h (by omega) (by simp) hc

/-! spec_l6Any -/
theorem l6Any_tot (b : List Int) (i h : Int) (hc : Cur b i) : ∃ l i' h', Ev (fun k => spec_l6Any.f k b i h) (l, i', h') ∧ l.length ≤ 8 ∧ Cur b i' := by
  obtain ⟨l, i1, h1, e1, hl, c1⟩ := l6List_tot b i h hc
  unfold spec_l6Any.f
  by_cases h0 : (l.length : Int) = 0
  · refine ⟨l, i1, h1, Ev.bind e1 ?_, hl, c1⟩
    simp only [if_pos h0]
    exact Ev.now _
  · obtain ⟨p, i2, h2, e2, hp0, hp1, c2⟩ := l1Below_tot b i1 h1 (l.length : Int) c1
    have hp := hp1 (by omega)
    obtain ⟨a, i3, h3, e3, _, _, c3⟩ := l1Below_tot b i2 h2 12 c2
    by_cases q0 : a = 0
    · obtain ⟨x0, x1, x2, x3, x4, i4, h4, e4, c4⟩ := l4Any_tot b i3 h3 c3
      refine ⟨l.set p.toNat ⟨⟨x0, x1, x2, x3, x4⟩, (rd_T68 l p).f1, (rd_T68 l p).f2, (rd_T68 l p).f3⟩, i4, h4, Ev.bind e1 ?_, by rw [List.length_set]; exact hl, c4⟩
      simp only [if_neg h0, e2, e3, e4, Option.bind_some, if_pos q0, if_pos hp0, if_pos hp]
      exact Ev.now _
    by_cases q1 : a = 1
    · obtain ⟨y, i4, h4, e4, _, c4⟩ := l1Int_tot b i3 h3 [0, 30, 31] (by decide) c3
      refine ⟨l.set p.toNat ⟨⟨(rd_T68 l p).f0.f0, (rd_T68 l p).f0.f1, (rd_T68 l p).f0.f2, (rd_T68 l p).f0.f3, (rd_T68 l p).f0.f4⟩, y, (rd_T68 l p).f2, (rd_T68 l p).f3⟩, i4, h4, Ev.bind e1 ?_, by rw [List.length_set]; exact hl, c4⟩
      simp only [if_neg h0, e2, e3, e4, Option.bind_some, if_neg q0, if_pos q1, if_pos hp0, if_pos hp]
      exact Ev.now _
    by_cases q2 : a = 2
    · obtain ⟨y, i4, h4, e4, c4⟩ := l4Raw_tot b i3 h3 c3
      refine ⟨l.set p.toNat ⟨⟨(rd_T68 l p).f0.f0, (rd_T68 l p).f0.f1, (rd_T68 l p).f0.f2, (rd_T68 l p).f0.f3, (rd_T68 l p).f0.f4⟩, (rd_T68 l p).f1, y, (rd_T68 l p).f3⟩, i4, h4, Ev.bind e1 ?_, by rw [List.length_set]; exact hl, c4⟩
      simp only [if_neg h0, e2, e3, e4, Option.bind_some, if_neg q0, if_neg q1, if_pos q2, if_pos hp0, if_pos hp]
      exact Ev.now _
    by_cases q3 : a = 3
    · obtain ⟨y, i4, h4, e4, _, c4⟩ := l1Int_tot b i3 h3 [(-1), 999, 1000] (by decide) c3
      refine ⟨l.set p.toNat ⟨⟨(rd_T68 l p).f0.f0, (rd_T68 l p).f0.f1, (rd_T68 l p).f0.f2, (rd_T68 l p).f0.f3, (rd_T68 l p).f0.f4⟩, (rd_T68 l p).f1, (rd_T68 l p).f2, y⟩, i4, h4, Ev.bind e1 ?_, by rw [List.length_set]; exact hl, c4⟩
      simp only [if_neg h0, e2, e3, e4, Option.bind_some, if_neg q0, if_neg q1, if_neg q2, if_pos q3, if_pos hp0, if_pos hp]
      exact Ev.now _
    · refine ⟨l, i3, h3, Ev.bind e1 ?_, hl, c3⟩
      simp only [if_neg h0, e2, e3, Option.bind_some, if_neg q0, if_neg q1, if_neg q2, if_neg q3]
      exact Ev.now _

/-! spec_l6One -/
theorem l6One_tot (b : List Int) (i h : Int) (hc : Cur b i) : ∃ x0 x1 x2 x3 x4 x5 x6 x7 i' h', Ev (fun k => spec_l6One.f k b i h) (x0, x1, x2, x3, x4, x5, x6, x7, i', h') ∧ Cur b i' := by
  obtain ⟨l, i1, h1, e1, hl, c1⟩ := l6Any_tot b i h hc
  unfold spec_l6One.f
  by_cases h0 : (l.length : Int) = 0
  · refine ⟨0, 0, 0, 0, 0, 0, 0, 0, i1, h1, Ev.bind e1 ?_, c1⟩
    simp only [if_pos h0]
    exact Ev.now _
  · refine ⟨(rd_T68 l 0).f0.f0, (rd_T68 l 0).f0.f1, (rd_T68 l 0).f0.f2, (rd_T68 l 0).f0.f3, (rd_T68 l 0).f0.f4, (rd_T68 l 0).f1, (rd_T68 l 0).f2, (rd_T68 l 0).f3, i1, h1, Ev.bind e1 ?_, c1⟩
    · simp only [if_neg h0, if_pos (show (0 : Int) < (l.length : Int) by omega)]
      exact Ev.now _

/-! spec_l17Now -/
theorem l17Now_tot (b : List Int) (i h : Int) (hc : Cur b i) : ∃ x i' h', spec_l17Now.f b i h = some (x, i', h') ∧ Cur b i' ∧ -9223372036854775808 ≤ x ∧ x ≤ 9223372036854775807 := by
  obtain ⟨x, i1, h1, e1, hx, c1⟩ := l1Int_tot b i h [0, 20, 60, 100, 2160, 2200, 2240, 4320, 4400, 200000, 200001, (-1)] (by decide) hc
  unfold spec_l17Now.f
  simp only [e1, Option.bind_some]
  refine ⟨_, _, _, rfl, c1, ?_, ?_⟩
  · simp at hx; omega
  · simp at hx; omega

/-! spec_DrawIsDue -/
theorem DrawIsDue_tot (b : List Int) (hl : b.length ≤ 1048576) : ∃ x0 x1 x2 x3 x4 x5 x6 x7 n, Ev (fun k => spec_DrawIsDue.f k b) (x0, x1, x2, x3, x4, x5, x6, x7, n) := by
  obtain ⟨h0, e0⟩ := l1New_tot b hl
  obtain ⟨x0, x1, x2, x3, x4, x5, x6, x7, i1, h1, e1, c1⟩ := l6One_tot b 0 h0 (cur0 b hl)
  obtain ⟨n, i2, h2, e2, c2, _, _⟩ := l17Now_tot b i1 h1 c1
  refine ⟨x0, x1, x2, x3, x4, x5, x6, x7, n, ?_⟩
  unfold spec_DrawIsDue.f
  refine Ev.bind e0 ?_
  refine Ev.bind e1 ?_
  simp only [e2, Option.bind_some]
  exact Ev.now _

/-! impl_IsDue -/
theorem impl_IsDue_ev (a b c d e f g h n : Int) : Ev (fun k => impl_IsDue.f k a b c d e f g h n) (isDue a b c d e f g h n) := by
  simp only [impl_IsDue.f, impl_IsFind_eq, Option.bind_some, isDue]
  cases h1 : isFind a b c d e f g h with
  | false => exact Ev.now _
  | true => exact Ev.bind (impl_DueHour_ev _ _ _ _ _ _ _ _) (Ev.now _)

/-! ceilDiv -/
def ceilDiv (a b : Int) : Int := if inr a 0 1000000000000 = true ∧ inr b 1 1000000000000 = true then wrap64 (Int.tdiv (wrap64 (wrap64 (a + b) - 1)) b) else 0
def daysLeft (a b c d e f g h n : Int) : Int := if isFind a b c d e f g h = true ∧ inr n 0 200000 = true ∧ isDue a b c d e f g h n = false then ceilDiv (wrap64 (dueHour a b c d e f g h - n)) 24 else 0

/-! impl_CeilDiv -/
theorem impl_CeilDiv_eq (a b : Int) : impl_CeilDiv.f a b = some (ceilDiv a b) := by
  simp only [impl_CeilDiv.f, impl_InRange_eq, Option.bind_some, ceilDiv]
  cases h1 : inr a 0 1000000000000 with
  | false => simp
  | true =>
    cases h2 : inr b 1 1000000000000 with
    | false => simp
    | true =>
      have := (inr_iff _ _ _).1 h2
      simp only [if_true, if_neg (show ¬ b = 0 by omega), and_self]

/-! impl_DaysLeft -/
theorem impl_DaysLeft_ev (a b c d e f g h n : Int) : Ev (fun k => impl_DaysLeft.f k a b c d e f g h n) (daysLeft a b c d e f g h n) := by
  have j1 : Ev (fun k => impl_DaysLeft.j0 k n true a b c d e f g h) 0 := by
    refine ev_succ ?_
    simp only [impl_DaysLeft.j0, if_true]
    exact Ev.now _
  have j0 : Ev (fun k => impl_DaysLeft.j0 k n false a b c d e f g h) (ceilDiv (wrap64 (dueHour a b c d e f g h - n)) 24) := by
    refine ev_succ ?_
    simp only [impl_DaysLeft.j0, Bool.false_eq_true, if_false]
    refine Ev.bind (impl_DueHour_ev _ _ _ _ _ _ _ _) ?_
    simp only [impl_CeilDiv_eq, Option.bind_some]
    exact Ev.now _
  simp only [impl_DaysLeft.f, impl_IsFind_eq, Option.bind_some, daysLeft]
  cases h1 : isFind a b c d e f g h with
  | false => simpa using j1
  | true =>
    simp only [if_true]
    refine Ev.bind (impl_IsDue_ev a b c d e f g h n) ?_
    cases h3 : isDue a b c d e f g h n with
    | true => simpa using j1
    | false =>
      simp only [impl_InRange_eq, Option.bind_some, Bool.false_eq_true, if_false]
      cases h2 : inr n 0 200000 with
      | false => simpa using j1
      | true => simpa using j0

/-! spec_DrawDueThings -/
theorem DrawDueThings_tot (b : List Int) (hl : b.length ≤ 1048576) : ∃ l n, Ev (fun k => spec_DrawDueThings.f k b) (l, n) ∧ l.length ≤ 8 := by
  obtain ⟨h0, e0⟩ := l1New_tot b hl
  obtain ⟨l, i1, h1, e1, hl1, c1⟩ := l6Any_tot b 0 h0 (cur0 b hl)
  obtain ⟨n, i2, h2, e2, c2, _, _⟩ := l17Now_tot b i1 h1 c1
  refine ⟨l, n, ?_, hl1⟩
  unfold spec_DrawDueThings.f
  refine Ev.bind e0 ?_
  refine Ev.bind e1 ?_
  simp only [e2, Option.bind_some]
  exact Ev.now _

/-! spec_DrawNextDue -/
theorem DrawNextDue_tot (b : List Int) (hl : b.length ≤ 1048576) : ∃ l n, Ev (fun k => spec_DrawNextDue.f k b) (l, n) ∧ l.length ≤ 8 := by
  obtain ⟨l, n, e, h⟩ := DrawDueThings_tot b hl
  exact ⟨l, n, Ev.bind e (Ev.now _), h⟩

/-! dueThings -/
def dueNow (now : Int) (x : S68) : Bool := isDue x.f0.f0 x.f0.f1 x.f0.f2 x.f0.f3 x.f0.f4 x.f1 x.f2 x.f3 now
def dueThings (l : List (S68)) (now : Int) : List Int := (l.filter (dueNow now)).map (fun x => x.f0.f0)
theorem dueThings_len (l : List (S68)) (now : Int) : (dueThings l now).length ≤ l.length := by
  unfold dueThings
  rw [List.length_map]
  exact List.length_filter_le _ _

/-! impl_DueThings -/
theorem impl_DueThings_ev (l : List (S68)) (now : Int) (h : l.length ≤ 1099511627776) : Ev (fun k => impl_DueThings.f k l now) (dueThings l now) := by
  refine ev_map (ev_range l (fun k (s : List Int) i => impl_DueThings.l0 k now s l (l.length : Int) i) (fun s r => s ++ dueThings r now) (fun p s => s.length ≤ p.length) (by omega) ?_ ?_ [] (Nat.le_refl _)) (by simp)
  · intro s _
    simp only [impl_DueThings.l0, if_neg (Int.lt_irrefl _)]
    exact ev_const (by simp [dueThings])
  · intro pre x rest s _ hlt hget hs ih
    have hr : rd_T68 l (pre.length : Int) = x := hget _
    have hs' : s.length ≤ pre.length := hs
    have hd : isDue x.f0.f0 x.f0.f1 x.f0.f2 x.f0.f3 x.f0.f4 x.f1 x.f2 x.f3 now = dueNow now x := rfl
    simp only [impl_DueThings.l0, if_pos hlt, if_pos (ge0 pre.length), hr]
    refine Ev.bind (impl_IsDue_ev _ _ _ _ _ _ _ _ _) ?_
    simp only [hd]
    cases hx : dueNow now x with
    | false =>
      simp only [Bool.false_eq_true, if_false]
      exact ev_map (ih s (by simp; omega)) (by simp [dueThings, hx])
    | true =>
      simp only [if_true, if_pos (show s.length < 17592186044416 by omega)]
      exact ev_map (ih _ (by simp; omega)) (by simp [dueThings, hx])

/-! laws_contains -/
theorem laws_contains_ev (l : List Int) (n : Int) (h : l.length ≤ 1099511627776) : Ev (fun k => laws_contains.f k l n) (l.any (fun x => decide (x = n))) := by
  refine ev_range l (fun k (_ : Unit) i => laws_contains.l0 k l n i) (fun _ r => r.any (fun x => decide (x = n))) (fun _ _ => True) (by omega) ?_ ?_ () trivial
  · intro _ _
    simp only [laws_contains.l0, if_neg (Int.lt_irrefl _)]
    exact Ev.now _
  · intro pre x rest _ _ hlt hget _ ih
    have hr : rd l (pre.length : Int) = x := hget 0
    simp only [laws_contains.l0, if_pos hlt, if_pos (ge0 pre.length), hr]
    by_cases hx : x = n
    · simp only [if_pos hx]
      exact ev_const (by simp [hx])
    · simp only [if_neg hx]
      exact ev_map (ih () trivial) (by simp [hx])

/-! areFinds -/
def fdFits (x : S68) : Bool := isFind x.f0.f0 x.f0.f1 x.f0.f2 x.f0.f3 x.f0.f4 x.f1 x.f2 x.f3
def fdOk : Option (S68) → List (S68) → Bool
  | _, [] => true
  | p, x :: rest => fdFits x && ((match p with | none => true | some y => decide (y.f0.f0 < x.f0.f0)) && fdOk (some x) rest)
def areFinds (l : List (S68)) : Bool := decide (l.length ≤ 20) && fdOk none l
theorem fdOk_lt : ∀ (l : List (S68)) (y : S68), fdOk (some y) l = true → ∀ x ∈ l, y.f0.f0 < x.f0.f0
  | [], _, _ => by simp
  | z :: l, y, h => by
    simp only [fdOk, Bool.and_eq_true, decide_eq_true_eq] at h
    intro x hx
    rcases List.mem_cons.1 hx with rfl | hx
    · exact h.2.1
    · have := fdOk_lt l z h.2.2 x hx
      omega
theorem fdOk_inj : ∀ (l : List (S68)) (p : Option (S68)), fdOk p l = true → ∀ x ∈ l, ∀ y ∈ l, x.f0.f0 = y.f0.f0 → x = y
  | [], _, _ => by simp
  | z :: l, p, h => by
    simp only [fdOk, Bool.and_eq_true] at h
    have h1 := fdOk_lt l z h.2.2
    have h2 := fdOk_inj l (some z) h.2.2
    intro x hx y hy e
    rcases List.mem_cons.1 hx with ex | hx1
    · rcases List.mem_cons.1 hy with ey | hy1
      · rw [ex, ey]
      · have := h1 y hy1
        rw [ex] at e
        omega
    · rcases List.mem_cons.1 hy with ey | hy1
      · have := h1 x hx1
        rw [ey] at e
        omega
      · exact h2 x hx1 y hy1 e

/-! impl_AreFinds -/
theorem impl_AreFinds_ev (l : List (S68)) (hl : l.length < 9223372036854775807) : Ev (fun k => impl_AreFinds.f k l) (areFinds l) := by
  unfold impl_AreFinds.f areFinds
  by_cases hb : (l.length : Int) > 20
  · simp only [if_pos hb]
    exact ev_const (by simp; omega)
  · simp only [if_neg hb, show decide (l.length ≤ 20) = true from decide_eq_true (by omega), Bool.true_and]
    refine ev_range l (fun k (_ : Option (S68)) i => impl_AreFinds.l0 k l l (l.length : Int) i) (fun s r => fdOk s r) (fun p s => s = p.getLast?) hl ?_ ?_ none rfl
    · intro s _
      simp only [impl_AreFinds.l0, if_neg (Int.lt_irrefl _)]
      exact Ev.now _
    · rintro pre x rest s e hlt hget rfl ih
      have hr : rd_T68 l (pre.length : Int) = x := hget _
      have ih' := ih (some x) (by simp)
      have hf : isFind x.f0.f0 x.f0.f1 x.f0.f2 x.f0.f3 x.f0.f4 x.f1 x.f2 x.f3 = fdFits x := rfl
      simp only [impl_AreFinds.l0, if_pos hlt, if_pos (ge0 pre.length), hr, impl_IsFind_eq, Option.bind_some, fdOk, hf]
      cases h1 : fdFits x with
      | false => exact Ev.now _
      | true =>
        simp only [if_true, Bool.true_and]
        rcases prev_cases e hl with ⟨hp, hn⟩ | ⟨y, hy, h4, h5, h6, h7⟩
        · simp only [if_neg hn]
          exact ev_map ih' (by simp [hp])
        · have hr7 : rd_T68 l (wrap64 ((pre.length : Int) - 1)) = y := h7 _
          simp only [if_pos h4, if_pos h5, if_pos h6, hr7, hy]
          by_cases h8 : x.f0.f0 ≤ y.f0.f0
          · simp only [if_pos h8]
            exact ev_const (by simp [show ¬ y.f0.f0 < x.f0.f0 by omega])
          · simp only [if_neg h8]
            exact ev_map ih' (by simp [show y.f0.f0 < x.f0.f0 by omega])

/-! the law -/
theorem keep_pos (k : Int) (h : inr k 1 8 = true) : 1 ≤ keepDays k ∧ keepDays k ≤ 180 := by
  unfold keepDays
  split
  · omega
  split
  · omega
  split
  · omega
  first
    | omega
    | (rw [if_pos h]; omega)
    | simp [h]
theorem due_facts (a b c d e f g h : Int) : (isFind a b c d e f g h = true ∧ 0 ≤ dueHour a b c d e f g h ∧ dueHour a b c d e f g h ≤ 104320 ∧ 1 ≤ keepDays b) ∨ (isFind a b c d e f g h = false ∧ dueHour a b c d e f g h = -1) := by
  cases hf : isFind a b c d e f g h with
  | false => exact .inr ⟨rfl, by simp [dueHour, hf]⟩
  | true =>
    left
    have hf' := hf
    simp only [isFind, isThing, Bool.and_eq_true] at hf'
    have hk := keep_pos b hf'.1.2.1
    have hg := (inr_iff _ _ _).1 hf'.2.2.1
    unfold dueHour
    rw [if_pos hf, w64 (x := 24 * keepDays b) (by omega) (by omega), w64 (by omega) (by omega)]
    exact ⟨rfl, by omega, by omega, hk.1⟩
theorem step_keeps (now : Int) : ∀ (r : List (S68)) (n : Int), (n = -1 ∨ (n > now ∧ n ≥ 0)) → (r.foldl (dueStep now) n = -1 ∨ (r.foldl (dueStep now) n > now ∧ r.foldl (dueStep now) n ≥ 0))
  | [], n, h => h
  | x :: r, n, h => by
    refine step_keeps now r _ ?_
    unfold dueStep
    split
    · rename_i hh
      exact .inr ⟨hh.1, hh.2.1⟩
    · exact h
theorem step_le (now : Int) : ∀ (r : List (S68)) (n : Int), 0 ≤ n → 0 ≤ r.foldl (dueStep now) n ∧ r.foldl (dueStep now) n ≤ n
  | [], n, h => by simp; exact h
  | x :: r, n, h => by
    have h1 : 0 ≤ dueStep now n x ∧ dueStep now n x ≤ n := by
      unfold dueStep
      split <;> omega
    have := step_le now r (dueStep now n x) h1.1
    simp only [List.foldl_cons]
    omega
theorem next_le (now : Int) : ∀ (r : List (S68)) (n : Int) (x : S68), x ∈ r → dueOf x > now → dueOf x ≥ 0 → 0 ≤ r.foldl (dueStep now) n ∧ r.foldl (dueStep now) n ≤ dueOf x
  | [], n, x, h, _, _ => by simp at h
  | z :: r, n, x, h, h1, h2 => by
    rcases List.mem_cons.1 h with rfl | h
    · have h3 : 0 ≤ dueStep now n x ∧ dueStep now n x ≤ dueOf x := by
        unfold dueStep
        split <;> omega
      have := step_le now r (dueStep now n x) h3.1
      simp only [List.foldl_cons]
      omega
    · exact next_le now r _ x h h1 h2
theorem j1_ev (code : List Int) (hl : code.length ≤ 1048576) : Ev (fun k => laws_FnKept.j1 k code false) true := by
  obtain ⟨l, now, e0, hl8⟩ := DrawNextDue_tot code hl
  refine ev_succ ?_
  simp only [laws_FnKept.j1, Bool.false_eq_true, if_false]
  refine Ev.bind e0 ?_
  refine Ev.bind (impl_NextDue_ev l now (by omega)) ?_
  refine Ev.bind (impl_DueThings_ev l now (by omega)) ?_
  have hd := dueThings_len l now
  refine ev_range l (fun k (_ : Unit) i => laws_FnKept.l0 k l now (l.foldl (dueStep now) (-1)) (dueThings l now) i) (fun _ _ => true) (fun _ _ => True) (by omega) ?_ ?_ () trivial
  · intro _ _
    simp only [laws_FnKept.l0, if_neg (Int.lt_irrefl _)]
    rcases step_keeps now l (-1) (.inl rfl) with h | ⟨h, h'⟩
    · simp only [if_pos h]
      exact Ev.now _
    · simp only [if_neg (show ¬ l.foldl (dueStep now) (-1) = -1 by omega), decide_eq_true h]
      exact Ev.now _
  · rintro pre x rest _ e hlt hget _ ih
    have hr : rd_T68 l (pre.length : Int) = x := hget _
    have hx : x ∈ l := by rw [e]; simp
    have hdu : dueHour x.f0.f0 x.f0.f1 x.f0.f2 x.f0.f3 x.f0.f4 x.f1 x.f2 x.f3 = dueOf x := rfl
    have hdn : isDue x.f0.f0 x.f0.f1 x.f0.f2 x.f0.f3 x.f0.f4 x.f1 x.f2 x.f3 now = dueNow now x := rfl
    have ih' := ih () trivial
    have tail : Ev (fun k => (laws_contains.f k (dueThings l now) x.f0.f0).bind fun t => (if t = true then ((impl_AreFinds.f k l).bind fun u => (if u = true then ((impl_IsDue.f k x.f0.f0 x.f0.f1 x.f0.f2 x.f0.f3 x.f0.f4 x.f1 x.f2 x.f3 now).bind fun v => (if v = true then (laws_FnKept.l0 k l now (l.foldl (dueStep now) (-1)) (dueThings l now) (wrap64 ((pre.length : Int) + 1))) else (some false))) else (laws_FnKept.l0 k l now (l.foldl (dueStep now) (-1)) (dueThings l now) (wrap64 ((pre.length : Int) + 1))))) else (laws_FnKept.l0 k l now (l.foldl (dueStep now) (-1)) (dueThings l now) (wrap64 ((pre.length : Int) + 1))))) true := by
      refine Ev.bind (laws_contains_ev _ _ (by omega)) ?_
      cases hc : (dueThings l now).any (fun y => decide (y = x.f0.f0)) with
      | false => simpa using ih'
      | true =>
        simp only [if_true]
        refine Ev.bind (impl_AreFinds_ev l (by omega)) ?_
        cases ha : areFinds l with
        | false => simpa using ih'
        | true =>
          simp only [if_true]
          refine Ev.bind (impl_IsDue_ev _ _ _ _ _ _ _ _ _) ?_
          have hdue : dueNow now x = true := by
            simp only [List.any_eq_true, decide_eq_true_eq] at hc
            obtain ⟨q, hq, rfl⟩ := hc
            simp only [dueThings, List.mem_map, List.mem_filter] at hq
            obtain ⟨y, ⟨hy, hyd⟩, hyx⟩ := hq
            simp only [areFinds, Bool.and_eq_true] at ha
            have := fdOk_inj l none ha.2 y hy x hx hyx
            rw [← this]
            exact hyd
          simp only [hdn, hdue, if_true]
          exact ih'
    simp only [laws_FnKept.l0, if_pos hlt, if_pos (ge0 pre.length), hr]
    refine Ev.bind (impl_DueHour_ev _ _ _ _ _ _ _ _) ?_
    simp only [hdu]
    by_cases h1 : dueOf x > now
    · by_cases h2 : dueOf x ≥ 0
      · have hn := next_le now l (-1) x hx h1 h2
        simp only [if_pos h1, if_pos h2, if_neg (show ¬ l.foldl (dueStep now) (-1) < 0 by omega), if_neg (show ¬ l.foldl (dueStep now) (-1) > dueOf x by omega)]
        exact tail
      · simp only [if_pos h1, if_neg h2]
        exact tail
    · simp only [if_neg h1]
      exact tail
theorem j0_ev (code : List Int) (hl : code.length ≤ 1048576) (now a b c d e f g h : Int) : Ev (fun k => laws_FnKept.j0 k code now (dueHour a b c d e f g h) false a b c d e f g h) true := by
  have hj := j1_ev code hl
  refine ev_succ ?_
  simp only [laws_FnKept.j0, Bool.false_eq_true, if_false]
  refine Ev.bind (impl_DaysLeft_ev a b c d e f g h now) ?_
  by_cases hn : daysLeft a b c d e f g h now > 0
  · simp only [if_pos hn]
    refine Ev.bind (impl_IsDue_ev a b c d e f g h now) ?_
    have hn' := hn
    unfold daysLeft at hn'
    split at hn'
    · rename_i hh
      obtain ⟨h1, h2, h3⟩ := hh
      have hnow := (inr_iff _ _ _).1 h2
      rcases due_facts a b c d e f g h with ⟨_, q1, q2, _⟩ | ⟨q, _⟩
      · have hlt : now < dueHour a b c d e f g h := by
          simp only [isDue, h1, Bool.true_and, decide_eq_false_iff_not] at h3
          omega
        have hdl : daysLeft a b c d e f g h now = (dueHour a b c d e f g h - now + 24 - 1) / 24 := by
          unfold daysLeft ceilDiv
          rw [if_pos ⟨h1, h2, h3⟩, w64 (x := dueHour a b c d e f g h - now) (by omega) (by omega), if_pos ⟨(inr_iff _ _ _).2 ⟨by omega, by omega⟩, by decide⟩,
            w64 (x := dueHour a b c d e f g h - now + 24) (by omega) (by omega), w64 (x := dueHour a b c d e f g h - now + 24 - 1) (by omega) (by omega), Int.tdiv_eq_ediv_of_nonneg (by omega), w64 (by omega) (by omega)]
        rw [hdl]
        simp only [h3, Bool.false_eq_true, if_false]
        rw [w64 (x := 24 * ((dueHour a b c d e f g h - now + 24 - 1) / 24)) (by omega) (by omega), w64 (x := now + 24 * ((dueHour a b c d e f g h - now + 24 - 1) / 24)) (by omega) (by omega),
          w64 (x := (dueHour a b c d e f g h - now + 24 - 1) / 24 - 1) (by omega) (by omega), w64 (x := 24 * ((dueHour a b c d e f g h - now + 24 - 1) / 24 - 1)) (by omega) (by omega), w64 (x := now + 24 * ((dueHour a b c d e f g h - now + 24 - 1) / 24 - 1)) (by omega) (by omega)]
        simp only [if_neg (show ¬ now + 24 * ((dueHour a b c d e f g h - now + 24 - 1) / 24) < dueHour a b c d e f g h by omega), decide_eq_false (show ¬ now + 24 * ((dueHour a b c d e f g h - now + 24 - 1) / 24 - 1) ≥ dueHour a b c d e f g h by omega)]
        exact hj
      · rw [q] at h1
        cases h1
    · omega
  · simp only [if_neg hn]
    exact hj
theorem Pf.FnKept : FnKeptLaw := by
  intro code hm hq
  refine Ev.rounds ?_
  unfold laws_FnKept.f
  simp only [laws_big.f, Option.bind_some]
  by_cases hb : (code.length : Int) > 1048576
  · simp only [decide_eq_true hb, if_true]
    exact Ev.now _
  · have hl : code.length ≤ 1048576 := by omega
    simp only [decide_eq_false hb, Bool.false_eq_true, if_false]
    obtain ⟨a, b, c, d, e, f, g, h, now, e1⟩ := DrawIsDue_tot code hl
    have hj := j0_ev code hl now a b c d e f g h
    refine Ev.bind e1 ?_
    refine Ev.bind (impl_DueHour_ev a b c d e f g h) ?_
    simp only [impl_IsFind_eq, Option.bind_some]
    rcases due_facts a b c d e f g h with ⟨h1, h2, h3, h4⟩ | ⟨h1, h2⟩
    · simp only [h1, decide_eq_true (show dueHour a b c d e f g h ≥ 0 from h2), bne_self_eq_false, Bool.false_eq_true, if_false, if_pos (show dueHour a b c d e f g h ≥ 0 from h2)]
      refine Ev.bind (impl_IsDue_ev a b c d e f g h (dueHour a b c d e f g h)) ?_
      rw [show isDue a b c d e f g h (dueHour a b c d e f g h) = true by simp [isDue, h1]]
      simp only [if_true]
      rw [w64 (x := dueHour a b c d e f g h - 1) (by omega) (by omega)]
      refine Ev.bind (impl_IsDue_ev a b c d e f g h (dueHour a b c d e f g h - 1)) ?_
      rw [show isDue a b c d e f g h (dueHour a b c d e f g h - 1) = false by simp [isDue, h1]; omega]
      simp only [Bool.false_eq_true, if_false]
      refine Ev.bind (impl_KeepDays_ev b) ?_
      simp only [decide_eq_false (show ¬ keepDays b < 1 by omega)]
      exact hj
    · rw [h2] at hj ⊢
      simp only [h1, decide_eq_false (show ¬ (-1 : Int) ≥ 0 by decide), bne_self_eq_false, Bool.false_eq_true, if_false, if_neg (show ¬ (-1 : Int) ≥ 0 by decide)]
      exact hj

end Go.Proofs.Ytbfpdakodcegjaa.PFnKept
