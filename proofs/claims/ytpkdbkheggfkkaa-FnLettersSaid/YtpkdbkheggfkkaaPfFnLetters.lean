/- The plain part of FnLetters: what the printed functions come to, and that the law's answer is true. No conditions beyond those of the statement. -/
import Derived.Test.YtpkdbkheggfkkaaPFnLettersx
import Derived.Test.YtpkdbkheggfkkaaBaseFnLetters
import Derived.Test.YtpkdbkheggfkkaaDefFnLetters
namespace Go.Proofs.Ytpkdbkheggfkkaa.PFnLetters
open Go.RowKit Go.Proofs.YtpkdbkheggfkkaaW.PrintWords Go.Proofs.YtpkdbkheggfkkaaW.PrintMore Go.Proofs.Ytpkdbkheggfkkaa.Base
set_option linter.unusedVariables false
set_option linter.unusedSimpArgs false

/-! cursor -/
theorem i64_and255 (n : Int) : bits .and .i64 n 255 = n % 256 := by
  have h255 : (BitVec.ofInt 64 255).toNat = 2 ^ 8 - 1 := by decide
  have key : (BitVec.ofInt 64 n &&& BitVec.ofInt 64 255).toNat = (n % ((2 ^ 64 : Nat) : Int)).toNat % 2 ^ 8 := by
    rw [BitVec.toNat_and, BitVec.toNat_ofInt, h255, Nat.and_two_pow_sub_one_eq_mod]
  show IntKind.i64.wrap ((BitVec.ofInt 64 n &&& BitVec.ofInt 64 255).toNat : Nat) = n % 256
  rw [key, IntKind.wrap_i64]
  omega
/-- A cursor over the bytes b stands at place i. -/
def Cur (b : List Int) (i : Int) : Prop := b.length ≤ 1048576 ∧ 0 ≤ i ∧ i ≤ (b.length : Int)

/-! spec_l1New -/
theorem l1New_tot (b : List Int) (hl : b.length ≤ 1048576) : ∃ h, Ev (fun k => spec_l1New.f k b) (b, 0, h) := by
  have key : ∀ (d i : Nat) (h : Int), i + d = b.length → ∃ h', Ev (fun k => spec_l1New.l0 k b h (i : Int)) (b, 0, h') := by
    intro d
    induction d with
    | zero =>
      intro i h hi
      refine ⟨h, ev_succ ?_⟩
      simp only [spec_l1New.l0, if_neg (show ¬ (i : Int) < (b.length : Int) by omega)]
      exact Ev.now _
    | succ d ih =>
      intro i h hi
      by_cases h4 : (i : Int) < 4000
      · obtain ⟨h', e⟩ := ih (i + 1) (bits .and .i64 (wrap64 (wrap64 (wrap64 (h * 137) + wrap64 (rd b i)) + 11)) 1073741823) (by omega)
        refine ⟨h', ev_succ ?_⟩
        simp only [spec_l1New.l0, if_pos (show (i : Int) < (b.length : Int) by omega), if_pos h4, if_pos (ge0 i), wsucc (show i < 9223372036854775807 by omega)]
        exact e
      · refine ⟨h, ev_succ ?_⟩
        simp only [spec_l1New.l0, if_pos (show (i : Int) < (b.length : Int) by omega), if_neg h4]
        exact Ev.now _
  exact key b.length 0 _ (by omega)
theorem cur0 (b : List Int) (hl : b.length ≤ 1048576) : Cur b 0 := ⟨hl, by omega, by omega⟩

/-! spec_l1Byte -/
theorem l1Byte_tot (b : List Int) (i h : Int) (hc : Cur b i) : ∃ x i' h', spec_l1Byte.f b i h = some (x, i', h') ∧ 0 ≤ x ∧ x < 256 ∧ Cur b i' := by
  obtain ⟨h1, h2, h3⟩ := hc
  unfold spec_l1Byte.f
  by_cases hi : i < (b.length : Int)
  · rw [if_pos hi, if_pos h2]
    refine ⟨_, _, _, rfl, ?_, ?_, h1, ?_⟩
    · rw [i64_and255 (wrap64 _)]
      omega
    · rw [i64_and255 (wrap64 _)]
      omega
    · rw [w64 (by omega) (by omega)]
      omega
  · rw [if_neg hi]
    refine ⟨_, _, _, rfl, ?_, ?_, h1, h2, h3⟩
    · rw [i64_and255]
      omega
    · rw [i64_and255]
      omega

/-! spec_l1Below -/
theorem l1Below_tot (b : List Int) (i h n : Int) (hc : Cur b i) : ∃ x i' h', spec_l1Below.f b i h n = some (x, i', h') ∧ 0 ≤ x ∧ (0 < n → x < n) ∧ Cur b i' := by
  unfold spec_l1Below.f
  by_cases hn : n ≤ 0
  · rw [if_pos hn]
    exact ⟨_, _, _, rfl, by omega, fun h => by omega, hc⟩
  · rw [if_neg hn]
    by_cases h256 : n ≤ 256
    · rw [if_pos h256]
      obtain ⟨x, i1, h1, e1, hx0, hx1, c1⟩ := l1Byte_tot b i h hc
      simp only [e1, Option.bind_some, if_neg (show ¬ n = 0 by omega)]
      exact ⟨_, _, _, rfl, Int.tmod_nonneg _ hx0, fun h => Int.tmod_lt_of_pos _ h, c1⟩
    · rw [if_neg h256]
      obtain ⟨x, i1, h1, e1, hx0, hx1, c1⟩ := l1Byte_tot b i h hc
      obtain ⟨y, i2, h2, e2, hy0, hy1, c2⟩ := l1Byte_tot b i1 h1 c1
      obtain ⟨z, i3, h3, e3, hz0, hz1, c3⟩ := l1Byte_tot b i2 h2 c2
      simp only [e1, e2, e3, Option.bind_some, if_neg (show ¬ n = 0 by omega)]
      refine ⟨_, _, _, rfl, Int.tmod_nonneg _ ?_, fun h => Int.tmod_lt_of_pos _ h, c3⟩
      rw [w64 (x := x * 65536) (by omega) (by omega), w64 (x := y * 256) (by omega) (by omega), w64 (x := x * 65536 + y * 256) (by omega) (by omega), w64 (by omega) (by omega)]
      omega

/-! spec_l1Int -/
theorem l1Int_tot (b : List Int) (i h : Int) (l : List Int) (hl : 0 < l.length) (hc : Cur b i) : ∃ x i' h', spec_l1Int.f b i h l = some (x, i', h') ∧ x ∈ l ∧ Cur b i' := by
  obtain ⟨x, i1, h1, e1, hx0, hx1, c1⟩ := l1Below_tot b i h (l.length : Int) hc
  have hx := hx1 (by omega)
  unfold spec_l1Int.f
  simp only [e1, Option.bind_some, if_pos hx0, if_pos hx]
  refine ⟨_, _, _, rfl, ?_, c1⟩
  unfold rd
  rw [List.getD_eq_getElem?_getD, List.getElem?_eq_getElem (by omega)]
  exact List.getElem_mem _

/-! spec_l1In -/
theorem spec_l1In_eq (a b c : Int) : spec_l1In.f a b c = some (inr a b c) := by
  unfold spec_l1In.f inr
  by_cases h : b ≤ a <;> simp [h]

/-! type_81 -/
theorem rd_T81_pre (pre : List (S81)) (x : S81) (rest : List (S81)) : rd_T81 (pre ++ x :: rest) (pre.length : Int) = x := getD_pre pre x rest z81

/-! areLetters -/
def ltFits (x : S81) : Bool := inr x.f0 1 999 && (inr x.f1 1 999 && inr x.f2 0 100000)
def ltLate (pre : List (S81)) (x : S81) : Bool := match pre.getLast? with | none => false | some y => decide (x.f2 < y.f2)
def ltClash (x y : S81) : Bool := decide (x.f0 = y.f0) && (decide (x.f1 = y.f1) || decide (wrap64 (x.f2 - y.f2) < 168))
def ltOk : List (S81) → List (S81) → Bool
  | _, [] => true
  | pre, x :: rest => ltFits x && (!ltLate pre x && (!pre.any (ltClash x) && ltOk (pre ++ [x]) rest))
def areLetters (l : List (S81)) : Bool := decide (l.length ≤ 60) && ltOk [] l

/-! spec_AreLetters -/
theorem spec_AreLetters_j1_true (l : List (S81)) (i a b c : Int) : Ev (fun k => spec_AreLetters.j1 k l i true a b c) false := by
  refine ev_succ ?_
  simp only [spec_AreLetters.j1, if_true]
  exact Ev.now _
theorem spec_AreLetters_l1 {l pre rest : List (S81)} {x : S81} (e : l = pre ++ x :: rest) (hl : l.length < 9223372036854775807) (R : Bool) (ih : Ev (fun k => spec_AreLetters.l0 k l (wrap64 ((pre.length : Int) + 1))) R) :
    Ev (fun k => spec_AreLetters.l1 k l (pre.length : Int) 0 x.f0 x.f1 x.f2) (!pre.any (ltClash x) && R) := by
  have hlen : l.length = pre.length + (rest.length + 1) := by rw [e, len_pre]
  refine ev_range pre (fun k _ j => spec_AreLetters.l1 k l (pre.length : Int) j x.f0 x.f1 x.f2) (fun _ r => !r.any (ltClash x) && R) (fun _ _ => True) (by omega) ?_ ?_ () trivial
  · intro _ _
    simp only [spec_AreLetters.l1, if_neg (Int.lt_irrefl _)]
    simpa using ih
  · intro p y r _ ep hlt hget _ ihj
    have hr : rd_T81 l (p.length : Int) = y := by
      have := hget z81
      unfold rd_T81
      rw [e, getD_app _ _ _ (by omega)]
      exact this
    simp only [spec_AreLetters.l1, if_pos hlt, if_pos (ge0 p.length), if_pos (show (p.length : Int) < (l.length : Int) by omega), hr]
    by_cases h0 : y.f0 = x.f0
    · by_cases h1 : y.f1 = x.f1
      · simp only [if_pos h0, if_pos h1]
        exact ev_const (by simp [ltClash, h0, h1])
      · by_cases h2 : wrap64 (x.f2 - y.f2) < 168
        · simp only [if_pos h0, if_neg h1, if_pos h2]
          exact ev_const (by simp [ltClash, h0, h2])
        · simp only [if_pos h0, if_neg h1, if_neg h2]
          exact ev_map (ihj () trivial) (by simp [ltClash, h0, Ne.symm h1, h2])
    · simp only [if_neg h0]
      exact ev_map (ihj () trivial) (by simp [ltClash, Ne.symm h0])
theorem spec_AreLetters_j1_false {l pre rest : List (S81)} {x : S81} (e : l = pre ++ x :: rest) (hl : l.length < 9223372036854775807) (R : Bool) (ih : Ev (fun k => spec_AreLetters.l0 k l (wrap64 ((pre.length : Int) + 1))) R) :
    Ev (fun k => spec_AreLetters.j1 k l (pre.length : Int) false x.f0 x.f1 x.f2) (!pre.any (ltClash x) && R) := by
  refine ev_succ ?_
  simp only [spec_AreLetters.j1]
  exact spec_AreLetters_l1 e hl R ih
theorem spec_AreLetters_ev (l : List (S81)) (hl : l.length < 9223372036854775807) : Ev (fun k => spec_AreLetters.f k l) (areLetters l) := by
  refine ev_map (ev_range l (fun k (_ : List (S81)) i => spec_AreLetters.l0 k l i) (fun s r => ltOk s r && decide ((l.length : Int) ≤ 60)) (fun p s => s = p) hl ?_ ?_ [] rfl) ?_
  · intro s _
    simp only [spec_AreLetters.l0, if_neg (Int.lt_irrefl _)]
    exact ev_const (by simp [ltOk])
  · rintro pre x rest s e hlt hget rfl ih
    have hr : rd_T81 l (s.length : Int) = x := hget _
    have ih' := ih _ rfl
    simp only [spec_AreLetters.l0, if_pos hlt, if_pos (ge0 s.length), hr, spec_l1In_eq, Option.bind_some, ltOk, ltFits]
    cases h1 : inr x.f0 1 999 with
    | false => exact spec_AreLetters_j1_true _ _ _ _ _
    | true =>
      cases h2 : inr x.f1 1 999 with
      | false => exact spec_AreLetters_j1_true _ _ _ _ _
      | true =>
        cases h3 : inr x.f2 0 100000 with
        | false => exact spec_AreLetters_j1_true _ _ _ _ _
        | true =>
          simp only [if_true, Bool.true_and]
          rcases prev_cases e hl with ⟨hp, hn⟩ | ⟨y, hy, h4, h5, h6, h7⟩
          · simp only [if_neg hn]
            exact ev_map (spec_AreLetters_j1_false e hl _ ih') (by simp [ltLate, hp])
          · have hr7 : rd_T81 l (wrap64 ((s.length : Int) - 1)) = y := h7 _
            simp only [if_pos h4, if_pos h5, if_pos h6, hr7]
            by_cases h8 : y.f2 > x.f2
            · simp only [h8, decide_true]
              exact ev_map (spec_AreLetters_j1_true _ _ _ _ _) (by simp [ltLate, hy, show x.f2 < y.f2 from h8])
            · simp only [h8, decide_false]
              exact ev_map (spec_AreLetters_j1_false e hl _ ih') (by simp [ltLate, hy, show ¬ x.f2 < y.f2 from h8, Bool.and_assoc])
  · unfold areLetters
    rw [Bool.and_comm, show decide ((l.length : Int) ≤ 60) = decide (l.length ≤ 60) from decide_eq_decide.2 (by omega)]

/-! mayWrite -/
def mayWrite (l : List (S81)) (r t n : Int) : Bool := areLetters l && areLetters (l ++ [⟨r, t, n⟩])

/-! spec_MayWrite -/
theorem spec_MayWrite_ev (l : List (S81)) (r t n : Int) (hl : l.length ≤ 1048576) : Ev (fun k => spec_MayWrite.f k l r t n) (mayWrite l r t n) := by
  unfold spec_MayWrite.f mayWrite
  refine Ev.bind (spec_AreLetters_ev l (by omega)) ?_
  cases h : areLetters l with
  | false => exact Ev.now _
  | true =>
    simp only [if_true, Option.bind_some, List.length_nil, List.nil_append, Nat.zero_add, if_pos (show l.length < 5864062014805 by omega), Bool.true_and]
    refine Ev.bind (spec_AreLetters_ev _ (by simp; omega)) ?_
    exact Ev.now _

/-! writeLetter -/
def writeLetter (l : List (S81)) (r t n : Int) : List (S81) × Bool := if mayWrite l r t n = true then (l ++ [⟨r, t, n⟩], true) else (l, false)
theorem writeLetter_len (l : List (S81)) (r t n : Int) : (writeLetter l r t n).1.length ≤ l.length + 1 := by
  unfold writeLetter
  split <;> simp

/-! spec_WriteLetter -/
theorem spec_WriteLetter_ev (l : List (S81)) (r t n : Int) (hl : l.length ≤ 1048576) : Ev (fun k => spec_WriteLetter.f k l r t n) (writeLetter l r t n) := by
  unfold spec_WriteLetter.f writeLetter
  simp only [Option.bind_some, List.length_nil, List.nil_append, Nat.zero_add, if_pos (show l.length < 5864062014805 by omega)]
  refine Ev.bind (spec_MayWrite_ev l r t n hl) ?_
  cases h : mayWrite l r t n <;> exact Ev.now _

/-! spec_l23Draw -/
theorem l23Draw_run (b : List Int) : ∀ (n : Nat) (l : List (S81)) (a i h : Int), l.length + n ≤ 100 → n ≤ 10 → Cur b i → ∃ l' i' h', Ev (fun k => spec_l23Draw.l0 k l a (n : Int) b i h) (l', i', h') ∧ l'.length ≤ l.length + n ∧ Cur b i'
  | 0, l, a, i, h, _, _, hc => ⟨l, i, h, by
    refine ev_succ ?_
    simp only [spec_l23Draw.l0, if_neg (show ¬ ((0 : Nat) : Int) > 0 by decide)]
    exact Ev.now _, Nat.le_refl _, hc⟩
  | n + 1, l, a, i, h, hl, hn, hc => by
    obtain ⟨x, i1, h1, e1, _, _, c1⟩ := l1Below_tot b i h 3 hc
    obtain ⟨y, i2, h2, e2, _, _, c2⟩ := l1Below_tot b i1 h1 5 c1
    obtain ⟨z, i3, h3, e3, _, c3⟩ := l1Int_tot b i2 h2 [0, 50, 167, 168, 200] (by decide) c2
    have hw := writeLetter_len l (wrap64 (3 * (wrap64 (1 + x)))) (wrap64 (2 * (wrap64 (1 + y)))) a
    obtain ⟨l', i', h', e, hl', c'⟩ := l23Draw_run b n (writeLetter l (wrap64 (3 * (wrap64 (1 + x)))) (wrap64 (2 * (wrap64 (1 + y)))) a).1 (wrap64 (a + z)) i3 h3 (by omega) (by omega) c3
    refine ⟨l', i', h', ev_succ ?_, by omega, c'⟩
    simp only [spec_l23Draw.l0, if_pos (show ((n + 1 : Nat) : Int) > 0 by omega), e1, e2, Option.bind_some]
    refine Ev.bind (spec_WriteLetter_ev l _ _ a (by omega)) ?_
    simp only [e3, Option.bind_some, show ((n + 1 : Nat) : Int) - 1 = (n : Int) by omega, w64 (x := (n : Int)) (by omega) (by omega)]
    exact e
theorem l23Draw_tot (b : List Int) (i h : Int) (hc : Cur b i) : ∃ l i' h', Ev (fun k => spec_l23Draw.f k b i h) (l, i', h') ∧ l.length ≤ 8 ∧ Cur b i' := by
  obtain ⟨x, i1, h1, e1, x0, x1, c1⟩ := l1Below_tot b i h 8 hc
  have x2 := x1 (by decide)
  obtain ⟨l, i', h', e, hl, c⟩ := l23Draw_run b x.toNat [] 0 i1 h1 (by simp; omega) (by omega) c1
  refine ⟨l, i', h', ?_, by simp at hl; omega, c⟩
  unfold spec_l23Draw.f
  simp only [e1, Option.bind_some]
  rw [show x = ((x.toNat : Nat) : Int) by omega]
  exact e

/-! spec_l4Raw -/
theorem l4Raw_tot (b : List Int) (i h : Int) (hc : Cur b i) : ∃ x i' h', spec_l4Raw.f b i h = some (x, i', h') ∧ Cur b i' := by
  obtain ⟨x, i1, h1, e1, _, c1⟩ := l1Int_tot b i h [(-1), 0, 8, 50, 51, 1000, 9223372036854775807, (-9223372036854775808)] (by decide) hc
  unfold spec_l4Raw.f
  simp only [e1, Option.bind_some]
  exact ⟨_, _, _, rfl, c1⟩

/-! spec_l23Any -/
theorem l23Any_tot (b : List Int) (i h : Int) (hc : Cur b i) : ∃ l i' h', Ev (fun k => spec_l23Any.f k b i h) (l, i', h') ∧ l.length ≤ 8 ∧ Cur b i' := by
  obtain ⟨l, i1, h1, e1, hl, c1⟩ := l23Draw_tot b i h hc
  by_cases hz : (l.length : Int) = 0
  · refine ⟨l, i1, h1, ?_, hl, c1⟩
    unfold spec_l23Any.f
    refine Ev.bind e1 ?_
    simp only [if_pos hz]
    exact Ev.now _
  · obtain ⟨s, i2, h2, e2, s0, s1, c2⟩ := l1Below_tot b i1 h1 (l.length : Int) c1
    have s2 := s1 (by omega)
    obtain ⟨q, i3, h3, e3, _, _, c3⟩ := l1Below_tot b i2 h2 12 c2
    obtain ⟨z, i4, h4, e4, _, c4⟩ := l1Int_tot b i3 h3 [0, 3, 999, 1000] (by decide) c3
    obtain ⟨y, i5, h5, e5, c5⟩ := l4Raw_tot b i3 h3 c3
    by_cases q0 : q = 0
    · refine ⟨l.set s.toNat ⟨z, (rd_T81 l s).f1, (rd_T81 l s).f2⟩, i4, h4, ?_, by rw [List.length_set]; exact hl, c4⟩
      unfold spec_l23Any.f
      refine Ev.bind e1 ?_
      simp only [if_neg hz, e2, e3, e4, Option.bind_some, if_pos q0, if_pos s0, if_pos s2]
      exact Ev.now _
    by_cases q1 : q = 1
    · refine ⟨l.set s.toNat ⟨(rd_T81 l s).f0, y, (rd_T81 l s).f2⟩, i5, h5, ?_, by rw [List.length_set]; exact hl, c5⟩
      unfold spec_l23Any.f
      refine Ev.bind e1 ?_
      simp only [if_neg hz, e2, e3, e5, Option.bind_some, if_neg q0, if_pos q1, if_pos s0, if_pos s2]
      exact Ev.now _
    by_cases q2 : q = 2
    · refine ⟨l.set s.toNat ⟨(rd_T81 l s).f0, (rd_T81 l s).f1, y⟩, i5, h5, ?_, by rw [List.length_set]; exact hl, c5⟩
      unfold spec_l23Any.f
      refine Ev.bind e1 ?_
      simp only [if_neg hz, e2, e3, e5, Option.bind_some, if_neg q0, if_neg q1, if_pos q2, if_pos s0, if_pos s2]
      exact Ev.now _
    refine ⟨l, i3, h3, ?_, hl, c3⟩
    unfold spec_l23Any.f
    refine Ev.bind e1 ?_
    simp only [if_neg hz, e2, e3, Option.bind_some, if_neg q0, if_neg q1, if_neg q2]
    exact Ev.now _

/-! spec_l4Draw -/
theorem l4Draw_tot (b : List Int) (i h id : Int) (hc : Cur b i) : ∃ x0 x1 x2 x3 x4 i' h', spec_l4Draw.f b i h id = some (x0, x1, x2, x3, x4, i', h') ∧ Cur b i' := by
  obtain ⟨a1, i1, h1, e1, _, _, c1⟩ := l1Below_tot b i h 8 hc
  obtain ⟨a2, i2, h2, e2, _, _, c2⟩ := l1Below_tot b i1 h1 8 c1
  obtain ⟨a3, i3, h3, e3, _, _, c3⟩ := l1Below_tot b i2 h2 20 c2
  obtain ⟨a4, i4, h4, e4, _, _, c4⟩ := l1Below_tot b i3 h3 500 c3
  unfold spec_l4Draw.f
  simp only [e1, e2, e3, e4, Option.bind_some]
  exact ⟨_, _, _, _, _, _, _, rfl, c4⟩

/-! spec_l6Draw -/
theorem l6Draw_tot (b : List Int) (i h id : Int) (hc : Cur b i) : ∃ x0 x1 x2 x3 x4 x5 x6 x7 i' h', spec_l6Draw.f b i h id = some (x0, x1, x2, x3, x4, x5, x6, x7, i', h') ∧ Cur b i' := by
  obtain ⟨x0, x1, x2, x3, x4, i1, h1, e1, c1⟩ := l4Draw_tot b i h id hc
  obtain ⟨a2, i2, h2, e2, _, _, c2⟩ := l1Below_tot b i1 h1 6 c1
  obtain ⟨a3, i3, h3, e3, _, _, c3⟩ := l1Below_tot b i2 h2 80 c2
  obtain ⟨a4, i4, h4, e4, _, _, c4⟩ := l1Below_tot b i3 h3 5 c3
  unfold spec_l6Draw.f
  simp only [e1, e2, e3, e4, Option.bind_some]
  exact ⟨_, _, _, _, _, _, _, _, _, _, rfl, c4⟩

/-! spec_l6List -/
theorem l6List_tot (b : List Int) (i h : Int) (hc : Cur b i) : ∃ l i' h', Ev (fun k => spec_l6List.f k b i h) (l, i', h') ∧ l.length ≤ 8 ∧ Cur b i' := by
  have key : ∀ (m : Nat) (l : List (S126)) (x : Nat) (i h : Int), x + m = 8 → l.length + 1 ≤ x → Cur b i → ∃ l' i' h', Ev (fun k => spec_l6List.l0 k l (x : Int) b i h) (l', i', h') ∧ l'.length ≤ 8 ∧ Cur b i' := by
    intro m
    induction m with
    | zero =>
      intro l x i h hx hl hc
      obtain ⟨y, i1, h1, e1, _, hy, c1⟩ := l1Below_tot b i h 8 hc
      have := hy (by omega)
      refine ⟨l, i1, h1, ev_succ ?_, by omega, c1⟩
      simp only [spec_l6List.l0, e1, Option.bind_some, if_neg (show ¬ (x : Int) ≤ y by omega)]
      exact Ev.now _
    | succ m ih =>
      intro l x i h hx hl hc
      obtain ⟨y, i1, h1, e1, _, hy, c1⟩ := l1Below_tot b i h 8 hc
      by_cases hxy : (x : Int) ≤ y
      · obtain ⟨x0, x1, x2, x3, x4, x5, x6, x7, i2, h2, e2, c2⟩ := l6Draw_tot b i1 h1 (wrap64 (2 * (x : Int))) c1
        obtain ⟨l', i', h', e, hl', c'⟩ := ih (l ++ [⟨⟨x0, x1, x2, x3, x4⟩, x5, x6, x7⟩]) (x + 1) i2 h2 (by omega) (by simp; omega) c2
        refine ⟨l', i', h', ev_succ ?_, hl', c'⟩
        simp only [spec_l6List.l0, e1, e2, Option.bind_some, if_pos hxy, if_pos (show l.length < 2199023255552 by omega), wsucc (show x < 9223372036854775807 by omega)]
        exact e
      · refine ⟨l, i1, h1, ev_succ ?_, by omega, c1⟩
        simp only [spec_l6List.l0, e1, Option.bind_some, if_neg hxy]
        exact Ev.now _
  exact key 7 [] 1 i h (by omega) (by simp) hc

/-! spec_l1Once -/
theorem l1Once_tot (b : List Int) (i h n : Int) (hc : Cur b i) : ∃ x i' h', spec_l1Once.f b i h n = some (x, i', h') ∧ Cur b i' := by
  obtain ⟨x, i1, h1, e1, _, _, c1⟩ := l1Below_tot b i h n hc
  unfold spec_l1Once.f
  simp only [e1, Option.bind_some]
  exact ⟨_, _, _, rfl, c1⟩

/-! spec_l7Some -/
theorem l7Some_run (b : List Int) (hi n : Int) : ∀ (m : Nat) (l : List Int) (x i h : Int), x + m = hi + 1 → l.length + m ≤ 100 → -1000 ≤ x → x + m ≤ 1000 → Cur b i → ∃ l' i' h', Ev (fun k => spec_l7Some.l0 k hi n l x b i h) (l', i', h') ∧ l'.length ≤ l.length + m ∧ Cur b i'
  | 0, l, x, i, h, hx, hl, h0, h1, hc => ⟨l, i, h, by
    refine ev_succ ?_
    simp only [spec_l7Some.l0, if_neg (show ¬ x ≤ hi by omega)]
    exact Ev.now _, by omega, hc⟩
  | m + 1, l, x, i, h, hx, hl, h0, h1, hc => by
    obtain ⟨q, i1, h1', e1, c1⟩ := l1Once_tot b i h n hc
    have ew : wrap64 (x + 1) = x + 1 := w64 (by omega) (by omega)
    cases q with
    | true =>
      obtain ⟨l', i', h', e, hl', c'⟩ := l7Some_run b hi n m (l ++ [x]) (x + 1) i1 h1' (by omega) (by simp; omega) (by omega) (by omega) c1
      refine ⟨l', i', h', ev_succ ?_, by simp at hl'; omega, c'⟩
      simp only [spec_l7Some.l0, if_pos (show x ≤ hi by omega), e1, Option.bind_some, if_true, if_pos (show l.length < 17592186044416 by omega), ew]
      exact e
    | false =>
      obtain ⟨l', i', h', e, hl', c'⟩ := l7Some_run b hi n m l (x + 1) i1 h1' (by omega) (by omega) (by omega) (by omega) c1
      refine ⟨l', i', h', ev_succ ?_, by omega, c'⟩
      simp only [spec_l7Some.l0, if_pos (show x ≤ hi by omega), e1, Option.bind_some, Bool.false_eq_true, if_false, ew]
      exact e
theorem l7Some_tot (b : List Int) (i h lo hi n : Int) (m : Nat) (hm : lo + m = hi + 1) (h8 : m ≤ 8) (h0 : 0 ≤ lo) (hc : Cur b i) (h1 : lo ≤ 10) : ∃ l i' h', Ev (fun k => spec_l7Some.f k b i h lo hi n) (l, i', h') ∧ l.length ≤ 8 ∧ Cur b i' := by
  obtain ⟨l, i', h', e, hl, c⟩ := l7Some_run b hi n m [] lo i h hm (by simp; omega) (by omega) (by omega) hc
  exact ⟨l, i', h', e, by simp at hl; omega, c⟩

/-! spec_l5Draw -/
theorem l5Draw_tot (b : List Int) (i h : Int) (hc : Cur b i) : ∃ x y i' h', spec_l5Draw.f b i h = some (x, y, i', h') ∧ Cur b i' := by
  obtain ⟨x, i1, h1, e1, _, _, c1⟩ := l1Below_tot b i h 60 hc
  obtain ⟨y, i2, h2, e2, _, _, c2⟩ := l1Below_tot b i1 h1 30 c1
  unfold spec_l5Draw.f
  simp only [e1, e2, Option.bind_some]
  exact ⟨_, _, _, _, rfl, c2⟩

/-! rtot -/
def RTot (b : List Int) (g : Nat → Option (Int × Int × List Int × Int × Int × List Int × Int × Int × Int × Int)) : Prop := ∃ x0 x1 x2 x3 x4 x5 x6 x7 i h, Ev g (x0, x1, x2, x3, x4, x5, x6, x7, i, h) ∧ List.length x2 ≤ 8 ∧ List.length x5 ≤ 8 ∧ Cur b i
theorem RTot.bind {α : Type} {b : List Int} {g : Nat → Option α} {f : Nat → α → Option (Int × Int × List Int × Int × Int × List Int × Int × Int × Int × Int)} {a : α} (h : Ev g a) (k : RTot b (fun n => f n a)) : RTot b (fun n => (g n).bind fun x => f n x) := by
  obtain ⟨x0, x1, x2, x3, x4, x5, x6, x7, i, h', e, q⟩ := k
  exact ⟨x0, x1, x2, x3, x4, x5, x6, x7, i, h', Ev.bind h e, q⟩
theorem RTot.succ {b : List Int} {g : Nat → Option (Int × Int × List Int × Int × Int × List Int × Int × Int × Int × Int)} (k : RTot b (fun n => g (n + 1))) : RTot b g := by
  obtain ⟨x0, x1, x2, x3, x4, x5, x6, x7, i, h', e, q⟩ := k
  exact ⟨x0, x1, x2, x3, x4, x5, x6, x7, i, h', ev_succ e, q⟩
theorem RTot.now {b : List Int} {x0 x1 x3 x4 x6 x7 i h : Int} {x2 x5 : List Int} (h2 : x2.length ≤ 8) (h5 : x5.length ≤ 8) (hc : Cur b i) : RTot b (fun _ => some (x0, x1, x2, x3, x4, x5, x6, x7, i, h)) := ⟨x0, x1, x2, x3, x4, x5, x6, x7, i, h, Ev.now _, h2, h5, hc⟩

/-! spec_l7Draw -/
theorem l7Draw_tot (b : List Int) (i h id : Int) (hc : Cur b i) : RTot b (fun k => spec_l7Draw.f k b i h id) := by
  obtain ⟨s, i1, h1, e1, _, _, c1⟩ := l1Below_tot b i h 12 hc
  obtain ⟨x, i2, h2, e2, _, _, c2⟩ := l1Below_tot b i1 h1 8 c1
  obtain ⟨l, i3, h3, e3, hl, c3⟩ := l7Some_tot b i2 h2 0 7 3 8 (by decide) (by decide) (by decide) c2 (by decide)
  obtain ⟨y, i4, h4, e4, _, _, c4⟩ := l1Below_tot b i3 h3 15 c3
  obtain ⟨m, i5, h5, e5, hm, c5⟩ := l7Some_tot b i4 h4 1 6 2 6 (by decide) (by decide) (by decide) c4 (by decide)
  obtain ⟨u, v, i6, h6, e6, c6⟩ := l5Draw_tot b i5 h5 c5
  unfold spec_l7Draw.f
  simp only [e1, e2, Option.bind_some]
  refine RTot.bind e3 ?_
  simp only [e4, Option.bind_some]
  refine RTot.bind e5 ?_
  simp only [e6, Option.bind_some]
  exact RTot.now hl hm c6

/-! spec_l5Any -/
theorem l5Any_tot (b : List Int) (i h : Int) (hc : Cur b i) : ∃ x y i' h', spec_l5Any.f b i h = some (x, y, i', h') ∧ Cur b i' := by
  obtain ⟨x, y, i1, h1, e1, c1⟩ := l5Draw_tot b i h hc
  obtain ⟨q, i2, h2, e2, _, _, c2⟩ := l1Below_tot b i1 h1 10 c1
  unfold spec_l5Any.f
  simp only [e1, e2, Option.bind_some]
  by_cases q0 : q = 0
  · obtain ⟨z, i3, h3, e3, c3⟩ := l4Raw_tot b i2 h2 c2
    simp only [if_pos q0, e3, Option.bind_some]
    exact ⟨_, _, _, _, rfl, c3⟩
  by_cases q1 : q = 1
  · obtain ⟨z, i3, h3, e3, _, c3⟩ := l1Int_tot b i2 h2 [(-1), 0, 100000, 100001] (by decide) c2
    simp only [if_neg q0, if_pos q1, e3, Option.bind_some]
    exact ⟨_, _, _, _, rfl, c3⟩
  simp only [if_neg q0, if_neg q1]
  exact ⟨_, _, _, _, rfl, c2⟩

/-! spec_l7Any -/
theorem l7Any_tot (b : List Int) (i h : Int) (hc : Cur b i) : RTot b (fun k => spec_l7Any.f k b i h) := by
  obtain ⟨s, i1, h1, e1, _, _, c1⟩ := l1Below_tot b i h 9 hc
  obtain ⟨x0, x1, x2, x3, x4, x5, x6, x7, i2, h2, e2, hl, hm, c2⟩ := l7Draw_tot b i1 h1 (wrap64 (1 + s)) c1
  obtain ⟨q, i3, h3, e3, _, _, c3⟩ := l1Below_tot b i2 h2 14 c2
  obtain ⟨z, i4, h4, e4, c4⟩ := l4Raw_tot b i3 h3 c3
  obtain ⟨u, v, i5, h5, e5, c5⟩ := l5Any_tot b i3 h3 c3
  have I := fun (l : List Int) (hl : 0 < l.length) => l1Int_tot b i3 h3 l hl c3
  unfold spec_l7Any.f
  simp only [e1, Option.bind_some]
  refine RTot.bind e2 ?_
  simp only [e3, Option.bind_some]
  by_cases q0 : q = 0
  · obtain ⟨y, i6, h6, e6, _, c6⟩ := I [0, 999, 1000] (by decide)
    simp only [if_pos q0, e6, Option.bind_some]
    exact RTot.now hl hm c6
  by_cases q1 : q = 1
  · obtain ⟨y, i6, h6, e6, _, c6⟩ := I [0, 8, 9] (by decide)
    simp only [if_neg q0, if_pos q1, e6, Option.bind_some]
    exact RTot.now hl hm c6
  by_cases q2 : q = 2
  · obtain ⟨y, i6, h6, e6, _, c6⟩ := I [(-1), 3, 8] (by decide)
    simp only [if_neg q0, if_neg q1, if_pos q2, e6, Option.bind_some]
    exact RTot.now (by simp) hm c6
  by_cases q3 : q = 3
  · simp only [if_neg q0, if_neg q1, if_neg q2, if_pos q3, e4, Option.bind_some]
    exact RTot.now hl hm c4
  by_cases q4 : q = 4
  · simp only [if_neg q0, if_neg q1, if_neg q2, if_neg q3, if_pos q4, e4, Option.bind_some]
    exact RTot.now hl hm c4
  by_cases q5 : q = 5
  · obtain ⟨y, i6, h6, e6, _, c6⟩ := I [0, 30, 31] (by decide)
    simp only [if_neg q0, if_neg q1, if_neg q2, if_neg q3, if_neg q4, if_pos q5, e6, Option.bind_some]
    exact RTot.now hl (by simp) c6
  by_cases q6 : q = 6
  · simp only [if_neg q0, if_neg q1, if_neg q2, if_neg q3, if_neg q4, if_neg q5, if_pos q6, e5, Option.bind_some]
    exact RTot.now hl hm c5
  simp only [if_neg q0, if_neg q1, if_neg q2, if_neg q3, if_neg q4, if_neg q5, if_neg q6]
  by_cases q7 : q = 7
  · simp only [if_pos q7]
    exact RTot.now (by simp) (by simp) c3
  · simp only [if_neg q7]
    exact RTot.now hl hm c3

/-! ascends -/
def ascOk (lo hi : Int) : Option Int → List Int → Bool
  | _, [] => true
  | p, x :: rest => inr x lo hi && ((match p with | none => true | some y => decide (y < x)) && ascOk lo hi (some x) rest)

/-! has -/
def has (l : List Int) (n : Int) : Bool := l.any (fun y => decide (y = n))
theorem has_iff (l : List Int) (n : Int) : has l n = true ↔ n ∈ l := by
  unfold has
  rw [List.any_eq_true]
  constructor
  · rintro ⟨x, hx, h⟩
    rw [← of_decide_eq_true h]
    exact hx
  · intro h
    exact ⟨n, h, decide_eq_true rfl⟩

/-! report -/
def isSpan (a b : Int) : Bool := inr a 0 100000 && (inr b 0 100000 && decide (a ≤ b))
def isReport (id kind : Int) (cols : List Int) (lo hi : Int) (pl : List Int) (fr un : Int) : Bool :=
  inr id 1 999 && (inr kind 1 8 && (ascOk 0 7 none cols && (decide (1 ≤ lo) && (decide (lo ≤ hi) && (decide (hi ≤ 50) && (ascOk 1 30 none pl && (decide (pl.length ≤ 10) && isSpan fr un)))))))
def allows (l : List Int) (n : Int) : Bool := decide (l.length = 0) || has l n
theorem isReport_sizes {id kind : Int} {cols : List Int} {lo hi : Int} {pl : List Int} {fr un : Int} (h : isReport id kind cols lo hi pl fr un = true) : 1 ≤ lo ∧ lo ≤ hi ∧ hi ≤ 50 := by
  simp only [isReport, Bool.and_eq_true, decide_eq_true_eq] at h
  exact ⟨h.2.2.2.1, h.2.2.2.2.1, h.2.2.2.2.2.1⟩

/-! type_87 -/
theorem rd_T87_pre (pre : List (S87)) (x : S87) (rest : List (S87)) : rd_T87 (pre ++ x :: rest) (pre.length : Int) = x := getD_pre pre x rest z87

/-! areReports -/
def rpFits (x : S87) : Bool := isReport x.f0 x.f1 x.f2 x.f3 x.f4 x.f5 x.f6.f0 x.f6.f1
def rpOk : Option (S87) → List (S87) → Bool
  | _, [] => true
  | p, x :: rest => rpFits x && ((match p with | none => true | some y => decide (y.f0 < x.f0)) && rpOk (some x) rest)
def areReports (l : List (S87)) : Bool := decide (l.length ≤ 20) && rpOk none l
def RBnd (l : List (S87)) : Prop := ∀ x ∈ l, x.f2.length ≤ 1099511627776 ∧ x.f5.length ≤ 1099511627776

/-! spec_l7List -/
def RSm (l : List (S87)) : Prop := ∀ x ∈ l, x.f2.length ≤ 8 ∧ x.f5.length ≤ 8
theorem RSm.set {l : List (S87)} (h : RSm l) (i : Nat) (x : S87) (hx : x.f2.length ≤ 8 ∧ x.f5.length ≤ 8) : RSm (l.set i x) := fun y hy => by
  rcases List.mem_or_eq_of_mem_set hy with q | q
  · exact h y q
  · rw [q]; exact hx
theorem RSm.snoc {l : List (S87)} (h : RSm l) (x : S87) (hx : x.f2.length ≤ 8 ∧ x.f5.length ≤ 8) : RSm (l ++ [x]) := fun y hy => by
  rcases List.mem_append.1 hy with q | q
  · exact h y q
  · rw [List.mem_singleton.1 q]; exact hx
theorem l7List_j1 (b : List Int) (l : List (S87)) (q : Bool) (i h : Int) (hl : l.length ≤ 8) (hr : RSm l) (hq : q = true → 0 < l.length) (hc : Cur b i) : ∃ l' i' h', Ev (fun k => spec_l7List.j1 k l q b i h) (l', i', h') ∧ l'.length ≤ 8 ∧ RSm l' ∧ Cur b i' := by
  cases q with
  | false =>
    refine ⟨l, i, h, ev_succ ?_, hl, hr, hc⟩
    simp only [spec_l7List.j1, Bool.false_eq_true, if_false]
    exact Ev.now _
  | true =>
    have hp := hq rfl
    obtain ⟨s, i1, h1, e1, s0, s1, c1⟩ := l1Below_tot b i h (l.length : Int) hc
    have s2 := s1 (by omega)
    obtain ⟨x0, x1, x2, x3, x4, x5, x6, x7, i2, h2, e2, hl2, hm2, c2⟩ := l7Any_tot b i1 h1 c1
    refine ⟨l.set s.toNat ⟨x0, x1, x2, x3, x4, x5, ⟨x6, x7⟩⟩, i2, h2, ev_succ ?_, by rw [List.length_set]; exact hl, hr.set _ _ ⟨hl2, hm2⟩, c2⟩
    simp only [spec_l7List.j1, if_true, e1, Option.bind_some]
    refine Ev.bind e2 ?_
    simp only [if_pos s0, if_pos s2]
    exact Ev.now _
theorem l7List_tot (b : List Int) (i h : Int) (hc : Cur b i) : ∃ l i' h', Ev (fun k => spec_l7List.f k b i h) (l, i', h') ∧ l.length ≤ 8 ∧ RSm l ∧ Cur b i' := by
  have key : ∀ (m : Nat) (l : List (S87)) (x : Nat) (i h : Int), x + m = 8 → l.length + 1 ≤ x → RSm l → Cur b i → ∃ l' i' h', Ev (fun k => spec_l7List.l0 k l (x : Int) b i h) (l', i', h') ∧ l'.length ≤ 8 ∧ RSm l' ∧ Cur b i' := by
    have fin : ∀ (l : List (S87)) (x : Nat) (y i1 h1 i h : Int), spec_l1Below.f b i h 6 = some (y, i1, h1) → ¬ (x : Int) ≤ y → l.length ≤ 8 → RSm l → Cur b i1 → ∃ l' i' h', Ev (fun k => spec_l7List.l0 k l (x : Int) b i h) (l', i', h') ∧ l'.length ≤ 8 ∧ RSm l' ∧ Cur b i' := by
      intro l x y i1 h1 i h e1 hxy hl hr c1
      by_cases hp : (l.length : Int) > 0
      · obtain ⟨q, i2, h2, e2, c2⟩ := l1Once_tot b i1 h1 8 c1
        obtain ⟨l', i', h', e, r⟩ := l7List_j1 b l q i2 h2 hl hr (fun _ => by omega) c2
        refine ⟨l', i', h', ev_succ ?_, r⟩
        simp only [spec_l7List.l0, e1, e2, Option.bind_some, if_neg hxy, if_pos hp]
        exact e
      · obtain ⟨l', i', h', e, r⟩ := l7List_j1 b l false i1 h1 hl hr (fun q => absurd q (by decide)) c1
        refine ⟨l', i', h', ev_succ ?_, r⟩
        simp only [spec_l7List.l0, e1, Option.bind_some, if_neg hxy, if_neg hp]
        exact e
    intro m
    induction m with
    | zero =>
      intro l x i h hx hl hr hc
      obtain ⟨y, i1, h1, e1, _, hy, c1⟩ := l1Below_tot b i h 6 hc
      have := hy (by omega)
      exact fin l x y i1 h1 i h e1 (by omega) (by omega) hr c1
    | succ m ih =>
      intro l x i h hx hl hr hc
      obtain ⟨y, i1, h1, e1, _, hy, c1⟩ := l1Below_tot b i h 6 hc
      by_cases hxy : (x : Int) ≤ y
      · obtain ⟨x0, x1, x2, x3, x4, x5, x6, x7, i2, h2, e2, hl2, hm2, c2⟩ := l7Draw_tot b i1 h1 (wrap64 (3 * (x : Int))) c1
        obtain ⟨l', i', h', e, r⟩ := ih (l ++ [⟨x0, x1, x2, x3, x4, x5, ⟨x6, x7⟩⟩]) (x + 1) i2 h2 (by omega) (by simp; omega) (hr.snoc _ ⟨hl2, hm2⟩) c2
        refine ⟨l', i', h', ev_succ ?_, r⟩
        simp only [spec_l7List.l0, e1, Option.bind_some, if_pos hxy]
        refine Ev.bind e2 ?_
        simp only [if_pos (show l.length < 1466015503701 by omega), wsucc (show x < 9223372036854775807 by omega)]
        exact e
      · exact fin l x y i1 h1 i h e1 hxy (by omega) hr c1
  exact key 7 [] 1 i h (by omega) (by simp) (fun _ h => by cases h) hc

/-! spec_Max -/
theorem spec_Max_eq (a b : Int) : spec_Max.f a b = some (if b > a then b else a) := by
  simp only [spec_Max.f, ite_some]

/-! spec_Min -/
theorem spec_Min_eq (a b : Int) : spec_Min.f a b = some (if b < a then b else a) := by
  simp only [spec_Min.f, ite_some]

/-! spec_l8For -/
theorem l8For_j2 (b : List Int) (i h y0 y1 y2 y3 y4 y5 y6 y7 x0 x1 : Int) (x2 : List Int) (x3 x4 : Int) (x5 : List Int) (x6 x7 : Int) (hl : x2.length ≤ 8) (hm : x5.length ≤ 8) (hc : Cur b i) : RTot b (fun k => spec_l8For.j2 k b i h y0 y1 y2 y3 y4 y5 y6 y7 x0 x1 x2 x3 x4 x5 x6 x7) := by
  obtain ⟨q, i1, h1, e1, c1⟩ := l1Once_tot b i h 6 hc
  refine RTot.succ ?_
  simp only [spec_l8For.j2, e1, Option.bind_some]
  cases q with
  | true => exact RTot.now hl hm c1
  | false =>
    obtain ⟨s, i2, h2, e2, _, _, c2⟩ := l1Below_tot b i1 h1 40 c1
    simp only [Bool.false_eq_true, if_false, e2, spec_Max_eq, Option.bind_some]
    exact RTot.now hl hm c2
theorem l8For_j1 (b : List Int) (i h y0 y1 y2 y3 y4 y5 y6 y7 x0 x1 : Int) (x2 : List Int) (x3 x4 : Int) (x5 : List Int) (x6 x7 : Int) (hl : x2.length ≤ 8) (hm : x5.length ≤ 8) (hc : Cur b i) : RTot b (fun k => spec_l8For.j1 k b i h y0 y1 y2 y3 y4 y5 y6 y7 x0 x1 x2 x3 x4 x5 x6 x7) := by
  obtain ⟨q, i1, h1, e1, c1⟩ := l1Once_tot b i h 6 hc
  refine RTot.succ ?_
  simp only [spec_l8For.j1, e1, Option.bind_some]
  cases q with
  | true => exact l8For_j2 b i1 h1 _ _ _ _ _ _ _ _ _ _ _ _ _ _ _ _ hl hm c1
  | false => exact l8For_j2 b i1 h1 _ _ _ _ _ _ _ _ _ _ _ _ _ _ _ _ hl (by simp) c1
theorem l8For_j0 (b : List Int) (i h y0 y1 y2 y3 y4 y5 y6 y7 x0 x1 : Int) (x2 : List Int) (x3 x4 : Int) (x5 : List Int) (x6 x7 : Int) (hl : x2.length ≤ 8) (hm : x5.length ≤ 8) (hc : Cur b i) : RTot b (fun k => spec_l8For.j0 k b i h y0 y1 y2 y3 y4 y5 y6 y7 x0 x1 x2 x3 x4 x5 x6 x7) := by
  obtain ⟨q, i1, h1, e1, c1⟩ := l1Once_tot b i h 6 hc
  refine RTot.succ ?_
  simp only [spec_l8For.j0, e1, Option.bind_some]
  cases q with
  | true => exact l8For_j1 b i1 h1 _ _ _ _ _ _ _ _ _ _ _ _ _ _ _ _ hl hm c1
  | false =>
    obtain ⟨s, i2, h2, e2, _, _, c2⟩ := l1Below_tot b i1 h1 4 c1
    obtain ⟨t, i3, h3, e3, _, _, c3⟩ := l1Below_tot b i2 h2 4 c2
    simp only [Bool.false_eq_true, if_false, e2, e3, spec_Max_eq, spec_Min_eq, Option.bind_some]
    exact l8For_j1 b i3 h3 _ _ _ _ _ _ _ _ _ _ _ _ _ _ _ _ hl hm c3
theorem l8For_tot (b : List Int) (i h y0 y1 y2 y3 y4 y5 y6 y7 id : Int) (hc : Cur b i) : RTot b (fun k => spec_l8For.f k b i h y0 y1 y2 y3 y4 y5 y6 y7 id) := by
  obtain ⟨x0, x1, x2, x3, x4, x5, x6, x7, i2, h2, e2, hl, hm, c2⟩ := l7Draw_tot b i h id hc
  obtain ⟨q, i1, h1, e1, c1⟩ := l1Once_tot b i2 h2 6 c2
  unfold spec_l8For.f
  refine RTot.bind e2 ?_
  simp only [e1, Option.bind_some]
  cases q with
  | true => exact l8For_j0 b i1 h1 _ _ _ _ _ _ _ _ _ _ _ _ _ _ _ _ hl hm c1
  | false => exact l8For_j0 b i1 h1 _ _ _ _ _ _ _ _ _ _ _ _ _ _ _ _ (by simp) hm c1

/-! impl_InRange -/
theorem impl_InRange_eq (a b c : Int) : impl_InRange.f a b c = some (inr a b c) := by
  unfold impl_InRange.f inr
  by_cases h : b ≤ a <;> simp [h]

/-! impl_AreLetters -/
theorem impl_AreLetters_j1_true (l : List (S81)) (i n j a b c : Int) : Ev (fun k => impl_AreLetters.j1 k l i l n j true a b c) false := by
  refine ev_succ ?_
  simp only [impl_AreLetters.j1, if_true]
  exact Ev.now _
theorem impl_AreLetters_j1_false {l pre rest : List (S81)} {x : S81} (e : l = pre ++ x :: rest) (hl : l.length < 9223372036854775807) (R : Bool) (ih : Ev (fun k => impl_AreLetters.l0 k l l (l.length : Int) (wrap64 ((pre.length : Int) + 1))) R) :
    Ev (fun k => impl_AreLetters.j1 k l (pre.length : Int) l (l.length : Int) (pre.length : Int) false x.f0 x.f1 x.f2) (!pre.any (ltClash x) && R) := by
  have hlen : l.length = pre.length + (rest.length + 1) := by rw [e, len_pre]
  have ht : l.take ((pre.length : Int)).toNat = pre := by rw [e]; simp
  refine ev_succ ?_
  simp only [impl_AreLetters.j1, if_pos (ge0 pre.length), if_pos (show (pre.length : Int) ≤ (l.length : Int) by omega), ht, Option.bind_some]
  refine ev_range pre (fun k _ j => impl_AreLetters.l1 k l l (l.length : Int) (pre.length : Int) pre (pre.length : Int) j x.f0 x.f1 x.f2) (fun _ r => !r.any (ltClash x) && R) (fun _ _ => True) (by omega) ?_ ?_ () trivial
  · intro _ _
    simp only [impl_AreLetters.l1, if_neg (Int.lt_irrefl _)]
    simpa using ih
  · intro p y r _ ep hlt hget _ ihj
    have hr : rd_T81 pre (p.length : Int) = y := hget _
    simp only [impl_AreLetters.l1, if_pos hlt, if_pos (ge0 p.length), hr]
    by_cases h0 : x.f0 = y.f0
    · by_cases h1 : x.f1 = y.f1
      · simp only [if_pos h0, if_pos h1]
        exact ev_const (by simp [ltClash, h0, h1])
      · by_cases h2 : wrap64 (x.f2 - y.f2) < 168
        · simp only [if_pos h0, if_neg h1, if_pos h2]
          exact ev_const (by simp [ltClash, h0, h2])
        · simp only [if_pos h0, if_neg h1, if_neg h2]
          exact ev_map (ihj () trivial) (by simp [ltClash, h0, h1, h2])
    · simp only [if_neg h0]
      exact ev_map (ihj () trivial) (by simp [ltClash, h0])
theorem impl_AreLetters_ev (l : List (S81)) (hl : l.length < 9223372036854775807) : Ev (fun k => impl_AreLetters.f k l) (areLetters l) := by
  unfold impl_AreLetters.f areLetters
  by_cases hb : (l.length : Int) > 60
  · simp only [if_pos hb]
    exact ev_const (by simp; omega)
  · simp only [if_neg hb, show decide (l.length ≤ 60) = true from decide_eq_true (by omega), Bool.true_and]
    refine ev_range l (fun k (_ : List (S81)) i => impl_AreLetters.l0 k l l (l.length : Int) i) (fun s r => ltOk s r) (fun p s => s = p) hl ?_ ?_ [] rfl
    · intro s _
      simp only [impl_AreLetters.l0, if_neg (Int.lt_irrefl _)]
      exact ev_const (by simp [ltOk])
    · rintro pre x rest s e hlt hget rfl ih
      have hr : rd_T81 l (s.length : Int) = x := hget _
      have ih' := ih _ rfl
      simp only [impl_AreLetters.l0, if_pos hlt, if_pos (ge0 s.length), hr, impl_InRange_eq, Option.bind_some, ltOk, ltFits]
      cases h1 : inr x.f0 1 999 with
      | false => exact impl_AreLetters_j1_true _ _ _ _ _ _ _
      | true =>
        cases h2 : inr x.f1 1 999 with
        | false => exact impl_AreLetters_j1_true _ _ _ _ _ _ _
        | true =>
          cases h3 : inr x.f2 0 100000 with
          | false => exact impl_AreLetters_j1_true _ _ _ _ _ _ _
          | true =>
            simp only [if_true, Bool.true_and]
            rcases prev_cases e hl with ⟨hp, hn⟩ | ⟨y, hy, h4, h5, h6, h7⟩
            · simp only [if_neg hn]
              exact ev_map (impl_AreLetters_j1_false e hl _ ih') (by simp [ltLate, hp])
            · have hr7 : rd_T81 l (wrap64 ((s.length : Int) - 1)) = y := h7 _
              simp only [if_pos h4, if_pos h5, if_pos h6, hr7]
              by_cases h8 : x.f2 < y.f2
              · simp only [h8, decide_true]
                exact ev_map (impl_AreLetters_j1_true _ _ _ _ _ _ _) (by simp [ltLate, hy, h8])
              · simp only [h8, decide_false]
                exact ev_map (impl_AreLetters_j1_false e hl _ ih') (by simp [ltLate, hy, h8])

/-! clone:impl.Letter -/
theorem clone_Letter_eq (l : List (S81)) (h : l.length < 5864062014805) : impl_Letter_118.f l = some l := by
  unfold impl_Letter_118.f
  simp only [Option.bind_some, List.length_nil, List.nil_append, Nat.zero_add, if_pos h]

/-! impl_MayWrite -/
theorem impl_MayWrite_ev (l : List (S81)) (r t n : Int) (hl : l.length ≤ 1048576) : Ev (fun k => impl_MayWrite.f k l r t n) (mayWrite l r t n) := by
  unfold impl_MayWrite.f mayWrite
  refine Ev.bind (impl_AreLetters_ev l (by omega)) ?_
  cases h : areLetters l with
  | false => exact Ev.now _
  | true =>
    simp only [if_true, clone_Letter_eq l (by omega), Option.bind_some, List.length_nil, List.nil_append, Nat.zero_add, if_pos (show l.length < 5864062014805 by omega), Bool.true_and]
    refine Ev.bind (impl_AreLetters_ev _ (by simp; omega)) ?_
    exact Ev.now _

/-! impl_WriteLetter -/
theorem impl_WriteLetter_ev (l : List (S81)) (r t n : Int) (hl : l.length ≤ 1048576) : Ev (fun k => impl_WriteLetter.f k l r t n) (writeLetter l r t n) := by
  unfold impl_WriteLetter.f writeLetter
  simp only [clone_Letter_eq l (by omega), Option.bind_some]
  refine Ev.bind (impl_MayWrite_ev l r t n hl) ?_
  cases h : mayWrite l r t n
  · exact Ev.now _
  · simp only [if_true, if_pos (show l.length < 5864062014805 by omega)]
    exact Ev.now _

/-! impl_isAscending -/
theorem impl_isAscending_ev (l : List Int) (lo hi : Int) (h : l.length ≤ 1099511627776) : Ev (fun k => impl_isAscending.f k l lo hi) (ascOk lo hi none l) := by
  refine ev_range l (fun k (_ : Option Int) i => impl_isAscending.l0 k l lo hi l (l.length : Int) i) (fun s r => ascOk lo hi s r) (fun p s => s = p.getLast?) (by omega) ?_ ?_ none rfl
  · intro s _
    simp only [impl_isAscending.l0, if_neg (Int.lt_irrefl _)]
    exact Ev.now _
  · rintro pre x rest s e hlt hget rfl ih
    have hr : rd l (pre.length : Int) = x := hget 0
    have ih' := ih (some x) (by simp)
    simp only [impl_isAscending.l0, if_pos hlt, if_pos (ge0 pre.length), hr, impl_InRange_eq, Option.bind_some, ascOk]
    cases h1 : inr x lo hi with
    | false => exact Ev.now _
    | true =>
      simp only [if_true, Bool.true_and]
      rcases prev_cases e (by omega) with ⟨hp, hn⟩ | ⟨y, hy, h4, h5, h6, h7⟩
      · simp only [if_neg hn]
        exact ev_map ih' (by simp [hp])
      · have hr7 : rd l (wrap64 ((pre.length : Int) - 1)) = y := h7 0
        simp only [if_pos h4, if_pos h5, if_pos h6, hr7, hy]
        by_cases h8 : x ≤ y
        · simp only [if_pos h8]
          exact ev_const (by simp [show ¬ y < x by omega])
        · simp only [if_neg h8]
          exact ev_map ih' (by simp [show y < x by omega])

/-! impl_IsSpan -/
theorem impl_IsSpan_eq (a b : Int) : impl_IsSpan.f a b = some (isSpan a b) := by
  unfold impl_IsSpan.f isSpan
  simp only [impl_InRange_eq, Option.bind_some]
  cases inr a 0 100000 <;> cases inr b 0 100000 <;> simp

/-! impl_IsReport -/
theorem impl_IsReport_ev (id kind : Int) (cols : List Int) (lo hi : Int) (pl : List Int) (fr un : Int) (hc : cols.length ≤ 1099511627776) (hp : pl.length ≤ 1099511627776) :
    Ev (fun k => impl_IsReport.f k id kind cols lo hi pl fr un) (isReport id kind cols lo hi pl fr un) := by
  unfold impl_IsReport.f isReport
  simp only [impl_InRange_eq, impl_IsSpan_eq, Option.bind_some]
  cases h1 : inr id 1 999 with
  | false => exact Ev.now _
  | true =>
  cases h2 : inr kind 1 8 with
  | false => exact Ev.now _
  | true =>
  simp only [if_true, Bool.true_and]
  refine Ev.bind (impl_isAscending_ev cols 0 7 hc) ?_
  cases h3 : ascOk 0 7 none cols with
  | false => exact Ev.now _
  | true =>
  simp only [if_true, Bool.true_and]
  by_cases h4 : 1 ≤ lo
  · by_cases h5 : lo ≤ hi
    · by_cases h6 : hi ≤ 50
      · simp only [if_pos (show 1 ≤ lo from h4), if_pos h5, if_pos h6, decide_eq_true h4, decide_eq_true h5, decide_eq_true h6, Bool.true_and]
        refine Ev.bind (impl_isAscending_ev pl 1 30 hp) ?_
        cases h7 : ascOk 1 30 none pl with
        | false => exact Ev.now _
        | true =>
          simp only [if_true, Bool.true_and]
          by_cases h8 : pl.length ≤ 10
          · simp only [if_pos (show (pl.length : Int) ≤ 10 by omega), decide_eq_true h8, Bool.true_and]
            exact Ev.now _
          · simp only [if_neg (show ¬ (pl.length : Int) ≤ 10 by omega), decide_eq_false h8, Bool.false_and]
            exact Ev.now _
      · simp only [if_pos (show 1 ≤ lo from h4), if_pos h5, if_neg h6, decide_eq_false h6, Bool.false_and, Bool.and_false]
        exact Ev.now _
    · simp only [if_pos (show 1 ≤ lo from h4), if_neg h5, decide_eq_false h5, Bool.false_and, Bool.and_false]
      exact Ev.now _
  · simp only [if_neg (show ¬ 1 ≤ lo from h4), decide_eq_false h4, Bool.false_and]
    exact Ev.now _

/-! impl_AreReports -/
theorem impl_AreReports_ev (l : List (S87)) (hl : l.length < 9223372036854775807) (hb : RBnd l) : Ev (fun k => impl_AreReports.f k l) (areReports l) := by
  unfold impl_AreReports.f areReports
  by_cases hc : (l.length : Int) > 20
  · simp only [if_pos hc]
    exact ev_const (by simp; omega)
  · simp only [if_neg hc, show decide (l.length ≤ 20) = true from decide_eq_true (by omega), Bool.true_and]
    refine ev_range l (fun k (_ : Option (S87)) i => impl_AreReports.l0 k l l (l.length : Int) i) (fun s r => rpOk s r) (fun p s => s = p.getLast?) hl ?_ ?_ none rfl
    · intro s _
      simp only [impl_AreReports.l0, if_neg (Int.lt_irrefl _)]
      exact Ev.now _
    · rintro pre x rest s e hlt hget rfl ih
      have hr : rd_T87 l (pre.length : Int) = x := hget _
      have ih' := ih (some x) (by simp)
      have hx := hb x (by rw [e]; simp)
      have hf : isReport x.f0 x.f1 x.f2 x.f3 x.f4 x.f5 x.f6.f0 x.f6.f1 = rpFits x := rfl
      simp only [impl_AreReports.l0, if_pos hlt, if_pos (ge0 pre.length), hr, rpOk]
      refine Ev.bind (impl_IsReport_ev _ _ _ _ _ _ _ _ hx.1 hx.2) ?_
      simp only [hf]
      cases h1 : rpFits x with
      | false => exact Ev.now _
      | true =>
        simp only [if_true, Bool.true_and]
        rcases prev_cases e hl with ⟨hp, hn⟩ | ⟨y, hy, h4, h5, h6, h7⟩
        · simp only [if_neg hn]
          exact ev_map ih' (by simp [hp])
        · have hr7 : rd_T87 l (wrap64 ((pre.length : Int) - 1)) = y := h7 _
          simp only [if_pos h4, if_pos h5, if_pos h6, hr7, hy]
          by_cases h8 : x.f0 ≤ y.f0
          · simp only [if_pos h8]
            exact ev_const (by simp [show ¬ y.f0 < x.f0 by omega])
          · simp only [if_neg h8]
            exact ev_map ih' (by simp [show y.f0 < x.f0 by omega])

/-! impl_IsThing -/
theorem impl_IsThing_eq (a b c d e : Int) : impl_IsThing.f a b c d e = some (isThing a b c d e) := by
  simp only [impl_IsThing.f, impl_InRange_eq, Option.bind_some, ite_and, isThing]

/-! impl_IsFind -/
theorem impl_IsFind_eq (a b c d e f g h : Int) : impl_IsFind.f a b c d e f g h = some (isFind a b c d e f g h) := by
  simp only [impl_IsFind.f, impl_IsThing_eq, impl_InRange_eq, Option.bind_some, ite_and, isFind]

/-! type_126 -/
theorem rd_T126_pre (pre : List (S126)) (x : S126) (rest : List (S126)) : rd_T126 (pre ++ x :: rest) (pre.length : Int) = x := getD_pre pre x rest z126

/-! areFinds -/
def fdFits (x : S126) : Bool := isFind x.f0.f0 x.f0.f1 x.f0.f2 x.f0.f3 x.f0.f4 x.f1 x.f2 x.f3
def fdOk : Option (S126) → List (S126) → Bool
  | _, [] => true
  | p, x :: rest => fdFits x && ((match p with | none => true | some y => decide (y.f0.f0 < x.f0.f0)) && fdOk (some x) rest)
def areFinds (l : List (S126)) : Bool := decide (l.length ≤ 20) && fdOk none l
theorem fdOk_lt : ∀ (l : List (S126)) (y : S126), fdOk (some y) l = true → ∀ x ∈ l, y.f0.f0 < x.f0.f0
  | [], _, _ => by simp
  | z :: l, y, h => by
    simp only [fdOk, Bool.and_eq_true, decide_eq_true_eq] at h
    intro x hx
    rcases List.mem_cons.1 hx with rfl | hx
    · exact h.2.1
    · have := fdOk_lt l z h.2.2 x hx
      omega
theorem fdOk_inj : ∀ (l : List (S126)) (p : Option (S126)), fdOk p l = true → ∀ x ∈ l, ∀ y ∈ l, x.f0.f0 = y.f0.f0 → x = y
  | [], _, _ => by simp
  | z :: l, p, h => by
    simp only [fdOk, Bool.and_eq_true] at h
    have h1 := fdOk_lt l z h.2.2
    have h2 := fdOk_inj l (some z) h.2.2
    intro x hx y hy e
    rcases List.mem_cons.1 hx with ex | hx1
    · rcases List.mem_cons.1 hy with ey | hy1
      · rw [ex, ey]
      · have := h1 y hy1
        rw [ex] at e
        omega
    · rcases List.mem_cons.1 hy with ey | hy1
      · have := h1 x hx1
        rw [ey] at e
        omega
      · exact h2 x hx1 y hy1 e

/-! impl_AreFinds -/
theorem impl_AreFinds_ev (l : List (S126)) (hl : l.length < 9223372036854775807) : Ev (fun k => impl_AreFinds.f k l) (areFinds l) := by
  unfold impl_AreFinds.f areFinds
  by_cases hb : (l.length : Int) > 20
  · simp only [if_pos hb]
    exact ev_const (by simp; omega)
  · simp only [if_neg hb, show decide (l.length ≤ 20) = true from decide_eq_true (by omega), Bool.true_and]
    refine ev_range l (fun k (_ : Option (S126)) i => impl_AreFinds.l0 k l l (l.length : Int) i) (fun s r => fdOk s r) (fun p s => s = p.getLast?) hl ?_ ?_ none rfl
    · intro s _
      simp only [impl_AreFinds.l0, if_neg (Int.lt_irrefl _)]
      exact Ev.now _
    · rintro pre x rest s e hlt hget rfl ih
      have hr : rd_T126 l (pre.length : Int) = x := hget _
      have ih' := ih (some x) (by simp)
      have hf : isFind x.f0.f0 x.f0.f1 x.f0.f2 x.f0.f3 x.f0.f4 x.f1 x.f2 x.f3 = fdFits x := rfl
      simp only [impl_AreFinds.l0, if_pos hlt, if_pos (ge0 pre.length), hr, impl_IsFind_eq, Option.bind_some, fdOk, hf]
      cases h1 : fdFits x with
      | false => exact Ev.now _
      | true =>
        simp only [if_true, Bool.true_and]
        rcases prev_cases e hl with ⟨hp, hn⟩ | ⟨y, hy, h4, h5, h6, h7⟩
        · simp only [if_neg hn]
          exact ev_map ih' (by simp [hp])
        · have hr7 : rd_T126 l (wrap64 ((pre.length : Int) - 1)) = y := h7 _
          simp only [if_pos h4, if_pos h5, if_pos h6, hr7, hy]
          by_cases h8 : x.f0.f0 ≤ y.f0.f0
          · simp only [if_pos h8]
            exact ev_const (by simp [show ¬ y.f0.f0 < x.f0.f0 by omega])
          · simp only [if_neg h8]
            exact ev_map ih' (by simp [show y.f0.f0 < x.f0.f0 by omega])

/-! slices_Index_int_int -/
theorem slices_Index_ev (l : List Int) (n : Int) (h : l.length ≤ 1099511627776) : ∃ r, Ev (fun k => slices_Index_int_int.f k l n) r ∧ decide (r ≥ 0) = has l n := by
  have key : ∀ (rest pre : List Int), l = pre ++ rest → ∃ r, Ev (fun k => slices_Index_int_int.l0 k l n (l.length : Int) (pre.length : Int)) r ∧ decide (r ≥ 0) = has rest n := by
    intro rest
    induction rest with
    | nil =>
      intro pre e
      rw [List.append_nil] at e
      subst e
      refine ⟨-1, ev_succ ?_, by simp [has]⟩
      simp only [slices_Index_int_int.l0, if_neg (Int.lt_irrefl _)]
      exact Ev.now _
    | cons x rest ih =>
      intro pre e
      have hl : l.length = pre.length + (rest.length + 1) := by rw [e, len_pre]
      have hr : rd l (pre.length : Int) = x := by rw [e]; exact rd_pre pre x rest
      by_cases h2 : n = x
      · refine ⟨(pre.length : Int), ev_succ ?_, ?_⟩
        · simp only [slices_Index_int_int.l0, if_pos (show (pre.length : Int) < (l.length : Int) by omega), if_pos (ge0 pre.length), hr, if_pos h2]
          exact Ev.now _
        · rw [decide_eq_true (show (pre.length : Int) ≥ 0 by omega)]
          simp [has, h2]
      · obtain ⟨r, h3, h4⟩ := ih (pre ++ [x]) (by rw [← app_pre]; exact e)
        refine ⟨r, ev_succ ?_, ?_⟩
        · simp only [slices_Index_int_int.l0, if_pos (show (pre.length : Int) < (l.length : Int) by omega), if_pos (ge0 pre.length), hr, if_neg h2, wsucc (show pre.length < 9223372036854775807 by omega)]
          rw [snoc_len pre x]
          exact h3
        · rw [h4]
          simp [has, Ne.symm h2]
  exact key l [] rfl

/-! slices_Contains_int_int -/
theorem slices_Contains_ev (l : List Int) (n : Int) (h : l.length ≤ 1099511627776) : Ev (fun k => slices_Contains_int_int.f k l n) (has l n) := by
  obtain ⟨r, h1, h2⟩ := slices_Index_ev l n h
  unfold slices_Contains_int_int.f
  refine Ev.bind h1 ?_
  exact ev_const (by rw [← h2])

/-! impl_allows -/
theorem impl_allows_ev (l : List Int) (n : Int) (h : l.length ≤ 1099511627776) : Ev (fun k => impl_allows.f k l n) (allows l n) := by
  unfold impl_allows.f allows
  by_cases h0 : l.length = 0
  · simp only [if_pos (show (l.length : Int) = 0 by omega), decide_eq_true h0, Bool.true_or]
    exact Ev.now _
  · simp only [if_neg (show ¬ (l.length : Int) = 0 by omega), decide_eq_false h0, Bool.false_or]
    exact Ev.bind (slices_Contains_ev l n h) (Ev.now _)

/-! whyNot -/
def whyRest (kind : Int) (cols : List Int) (lo hi : Int) (pl : List Int) (fr b1 b2 b3 b5 b6 : Int) : ByteArray :=
  if kind = b1 then (if allows cols b2 = true then (if inr b3 lo hi = true then (if allows pl b5 = true then (if b6 < fr then ⟨#[116, 105, 109, 101]⟩ else ⟨#[]⟩) else ⟨#[112, 108, 97, 99, 101]⟩) else ⟨#[115, 105, 122, 101]⟩) else ⟨#[99, 111, 108, 111, 117, 114]⟩) else ⟨#[107, 105, 110, 100]⟩
def whyNot (id kind : Int) (cols : List Int) (lo hi : Int) (pl : List Int) (fr un b0 b1 b2 b3 b4 b5 b6 b7 : Int) : ByteArray :=
  if (isReport id kind cols lo hi pl fr un && isFind b0 b1 b2 b3 b4 b5 b6 b7) = true then whyRest kind cols lo hi pl fr b1 b2 b3 b5 b6 else ⟨#[105, 110, 118, 97, 108, 105, 100]⟩
def canBe (id kind : Int) (cols : List Int) (lo hi : Int) (pl : List Int) (fr un b0 b1 b2 b3 b4 b5 b6 b7 : Int) : Bool := (whyNot id kind cols lo hi pl fr un b0 b1 b2 b3 b4 b5 b6 b7).toList == ([] : List UInt8)
theorem canBe_ok {id kind : Int} {cols : List Int} {lo hi : Int} {pl : List Int} {fr un b0 b1 b2 b3 b4 b5 b6 b7 : Int} (h : canBe id kind cols lo hi pl fr un b0 b1 b2 b3 b4 b5 b6 b7 = true) : isReport id kind cols lo hi pl fr un = true ∧ isFind b0 b1 b2 b3 b4 b5 b6 b7 = true := by
  unfold canBe whyNot at h
  cases h1 : (isReport id kind cols lo hi pl fr un && isFind b0 b1 b2 b3 b4 b5 b6 b7) with
  | true => simpa only [Bool.and_eq_true] using h1
  | false =>
    rw [h1, if_neg (by decide), ByteArray.toList_eq] at h
    exact absurd h (by decide)

/-! impl_WhyNot -/
theorem impl_WhyNot_j0 (c : Bool) (id kind : Int) (cols : List Int) (lo hi : Int) (pl : List Int) (fr un b0 b1 b2 b3 b4 b5 b6 b7 : Int) (hc : cols.length ≤ 1099511627776) (hp : pl.length ≤ 1099511627776) :
    Ev (fun k => impl_WhyNot.j0 k c id kind cols lo hi pl fr un b0 b1 b2 b3 b4 b5 b6 b7) (if c = true then ⟨#[105, 110, 118, 97, 108, 105, 100]⟩ else whyRest kind cols lo hi pl fr b1 b2 b3 b5 b6) := by
  refine ev_succ ?_
  simp only [impl_WhyNot.j0]
  cases c with
  | true => exact Ev.now _
  | false =>
    simp only [Bool.false_eq_true, if_false, whyRest]
    by_cases h1 : kind = b1
    · simp only [if_pos h1]
      refine Ev.bind (impl_allows_ev cols b2 hc) ?_
      by_cases h2 : allows cols b2 = true
      · simp only [if_pos h2, impl_InRange_eq, Option.bind_some]
        by_cases h3 : inr b3 lo hi = true
        · simp only [if_pos h3]
          refine Ev.bind (impl_allows_ev pl b5 hp) ?_
          by_cases h4 : allows pl b5 = true
          · simp only [if_pos h4]
            exact ev_const (by split <;> rfl)
          · simp only [if_neg h4]
            exact Ev.now _
        · simp only [if_neg h3]
          exact Ev.now _
      · simp only [if_neg h2]
        exact Ev.now _
    · simp only [if_neg h1]
      exact Ev.now _
theorem impl_WhyNot_ev (id kind : Int) (cols : List Int) (lo hi : Int) (pl : List Int) (fr un b0 b1 b2 b3 b4 b5 b6 b7 : Int) (hc : cols.length ≤ 1099511627776) (hp : pl.length ≤ 1099511627776) :
    Ev (fun k => impl_WhyNot.f k id kind cols lo hi pl fr un b0 b1 b2 b3 b4 b5 b6 b7) (whyNot id kind cols lo hi pl fr un b0 b1 b2 b3 b4 b5 b6 b7) := by
  unfold impl_WhyNot.f whyNot
  refine Ev.bind (impl_IsReport_ev _ _ _ _ _ _ _ _ hc hp) ?_
  have J := fun c => impl_WhyNot_j0 c id kind cols lo hi pl fr un b0 b1 b2 b3 b4 b5 b6 b7 hc hp
  cases h1 : isReport id kind cols lo hi pl fr un with
  | false =>
    simp only [Bool.false_eq_true, if_false, Bool.false_and]
    exact ev_map (J true) rfl
  | true =>
    simp only [if_true, impl_IsFind_eq, Option.bind_some, Bool.true_and]
    cases h2 : isFind b0 b1 b2 b3 b4 b5 b6 b7 with
    | false => exact ev_map (J true) rfl
    | true => exact ev_map (J false) rfl

/-! impl_CanBe -/
theorem impl_CanBe_ev (id kind : Int) (cols : List Int) (lo hi : Int) (pl : List Int) (fr un b0 b1 b2 b3 b4 b5 b6 b7 : Int) (hc : cols.length ≤ 1099511627776) (hp : pl.length ≤ 1099511627776) :
    Ev (fun k => impl_CanBe.f k id kind cols lo hi pl fr un b0 b1 b2 b3 b4 b5 b6 b7) (canBe id kind cols lo hi pl fr un b0 b1 b2 b3 b4 b5 b6 b7) := by
  unfold impl_CanBe.f canBe
  exact Ev.bind (impl_WhyNot_ev _ _ _ _ _ _ _ _ _ _ _ _ _ _ _ _ hc hp) (Ev.now _)

/-! score -/
def b2i (b : Bool) : Int := if b = true then 1 else 0
def score (id kind : Int) (cols : List Int) (lo hi : Int) (pl : List Int) (fr un b0 b1 b2 b3 b4 b5 b6 b7 : Int) : Int :=
  if canBe id kind cols lo hi pl fr un b0 b1 b2 b3 b4 b5 b6 b7 = true then 1 + b2i (inr (cols.length : Int) 1 2) + b2i (decide (wrap64 (hi - lo) ≤ 5)) + b2i (inr (pl.length : Int) 1 2) + b2i (decide (wrap64 (b6 - un) ≤ 24)) else 0
theorem score_late {id kind : Int} {cols : List Int} {lo hi : Int} {pl : List Int} {fr un b0 b1 b2 b3 b4 b5 b6 b7 : Int} (h : canBe id kind cols lo hi pl fr un b0 b1 b2 b3 b4 b5 b6 b7 = true) : decide (b6 ≤ wrap64 (un + 24)) = decide (wrap64 (b6 - un) ≤ 24) := by
  obtain ⟨h1, h2⟩ := canBe_ok h
  simp only [isReport, isSpan, isFind, Bool.and_eq_true, inr_iff, decide_eq_true_eq] at h1 h2
  rw [w64 (x := un + 24) (by omega) (by omega), w64 (x := b6 - un) (by omega) (by omega)]
  exact decide_eq_decide.2 (by omega)

/-! impl_Score -/
theorem impl_Score_j1 (n id kind : Int) (cols : List Int) (lo hi : Int) (pl : List Int) (fr un b0 b1 b2 b3 b4 b5 b6 b7 : Int) (h0 : 0 ≤ n) (h1 : n ≤ 10) :
    Ev (fun k => impl_Score.j1 k n id kind cols lo hi pl fr un b0 b1 b2 b3 b4 b5 b6 b7) (n + b2i (inr (pl.length : Int) 1 2) + b2i (decide (wrap64 (b6 - un) ≤ 24))) := by
  refine ev_succ ?_
  have e1 : wrap64 (n + 1) = n + 1 := w64 (by omega) (by omega)
  have e2 : wrap64 (n + 1 + 1) = n + 1 + 1 := w64 (by omega) (by omega)
  simp only [impl_Score.j1, impl_InRange_eq, Option.bind_some, e1, e2]
  refine ev_const ?_
  cases inr (pl.length : Int) 1 2 <;> by_cases h : wrap64 (b6 - un) ≤ 24 <;> simp [h, b2i]
theorem impl_Score_j0 (n id kind : Int) (cols : List Int) (lo hi : Int) (pl : List Int) (fr un b0 b1 b2 b3 b4 b5 b6 b7 : Int) (h0 : 0 ≤ n) (h1 : n ≤ 9) :
    Ev (fun k => impl_Score.j0 k n id kind cols lo hi pl fr un b0 b1 b2 b3 b4 b5 b6 b7) (n + b2i (decide (wrap64 (hi - lo) ≤ 5)) + b2i (inr (pl.length : Int) 1 2) + b2i (decide (wrap64 (b6 - un) ≤ 24))) := by
  refine ev_succ ?_
  have e1 : wrap64 (n + 1) = n + 1 := w64 (by omega) (by omega)
  simp only [impl_Score.j0, e1]
  by_cases h : wrap64 (hi - lo) ≤ 5
  · simp only [if_pos h]
    exact ev_map (impl_Score_j1 (n + 1) _ _ _ _ _ _ _ _ _ _ _ _ _ _ _ _ (by omega) (by omega)) (by simp [h, b2i])
  · simp only [if_neg h]
    exact ev_map (impl_Score_j1 n _ _ _ _ _ _ _ _ _ _ _ _ _ _ _ _ h0 (by omega)) (by simp [h, b2i])
theorem impl_Score_ev (id kind : Int) (cols : List Int) (lo hi : Int) (pl : List Int) (fr un b0 b1 b2 b3 b4 b5 b6 b7 : Int) (hc : cols.length ≤ 1099511627776) (hp : pl.length ≤ 1099511627776) :
    Ev (fun k => impl_Score.f k id kind cols lo hi pl fr un b0 b1 b2 b3 b4 b5 b6 b7) (score id kind cols lo hi pl fr un b0 b1 b2 b3 b4 b5 b6 b7) := by
  unfold impl_Score.f score
  refine Ev.bind (impl_CanBe_ev _ _ _ _ _ _ _ _ _ _ _ _ _ _ _ _ hc hp) ?_
  cases h : canBe id kind cols lo hi pl fr un b0 b1 b2 b3 b4 b5 b6 b7 with
  | false => exact Ev.now _
  | true =>
    simp only [if_true, impl_InRange_eq, Option.bind_some]
    cases h2 : inr (cols.length : Int) 1 2 with
    | true =>
      simp only [if_true]
      exact ev_map (impl_Score_j0 (1 + 1) _ _ _ _ _ _ _ _ _ _ _ _ _ _ _ _ (by decide) (by decide)) (by simp [b2i])
    | false =>
      simp only [Bool.false_eq_true, if_false]
      exact ev_map (impl_Score_j0 1 _ _ _ _ _ _ _ _ _ _ _ _ _ _ _ _ (by decide) (by decide)) (by simp [b2i])

/-! nextFor -/
def scoreFor (r : S87) (x : S126) : Int := score r.f0 r.f1 r.f2 r.f3 r.f4 r.f5 r.f6.f0 r.f6.f1 x.f0.f0 x.f0.f1 x.f0.f2 x.f0.f3 x.f0.f4 x.f1 x.f2 x.f3
def wrote (l : List (S81)) (id t : Int) : Bool := l.any (fun y => (y.f0 == id) && (y.f1 == t))
def nStep (l : List (S81)) (r : S87) (s : Int × Int) (x : S126) : Int × Int :=
  if scoreFor r x > s.2 then (if wrote l r.f0 x.f0.f0 = true then s else (x.f0.f0, scoreFor r x)) else s
def nextFor (l : List (S81)) (r : S87) (f : List (S126)) : Int := (f.foldl (nStep l r) (0, 0)).1
def runLet (f : List (S126)) (now : Int) : List (S87) → List (S81) → List (S81)
  | [], _ => []
  | r :: rs, l => if mayWrite l r.f0 (nextFor l r f) now = true then ⟨r.f0, nextFor l r f, now⟩ :: runLet f now rs (l ++ [⟨r.f0, nextFor l r f, now⟩]) else runLet f now rs l
theorem runLet_len (f : List (S126)) (now : Int) : ∀ (rs : List (S87)) (l : List (S81)), (runLet f now rs l).length ≤ rs.length
  | [], _ => Nat.le_refl _
  | r :: rs, l => by
    have h1 := runLet_len f now rs (l ++ [⟨r.f0, nextFor l r f, now⟩])
    have h2 := runLet_len f now rs l
    simp only [runLet]
    split <;> simp only [List.length_cons] <;> omega
def lettersFor (l : List (S81)) (r : List (S87)) (f : List (S126)) (now : Int) : List (S81) :=
  if (areLetters l && (areReports r && areFinds f)) = true then runLet f now r l else []
theorem lettersFor_len (l : List (S81)) (r : List (S87)) (f : List (S126)) (now : Int) : (lettersFor l r f now).length ≤ r.length := by
  unfold lettersFor
  split
  · exact runLet_len f now r l
  · simp

/-! impl_toWrite -/
theorem impl_toWrite_ev (l : List (S81)) (r : S87) (f : List (S126)) (hf : f.length ≤ 1099511627776) (hc : r.f2.length ≤ 1099511627776) (hp : r.f5.length ≤ 1099511627776) :
    Ev (fun k => impl_toWrite.f k l r.f0 r.f1 r.f2 r.f3 r.f4 r.f5 r.f6.f0 r.f6.f1 f) (nextFor l r f) := by
  unfold impl_toWrite.f nextFor
  refine ev_range f (fun k (s : Int × Int) i => impl_toWrite.l0 k l s.1 s.2 f (f.length : Int) i r.f0 r.f1 r.f2 r.f3 r.f4 r.f5 r.f6.f0 r.f6.f1) (fun s q => (q.foldl (nStep l r) s).1) (fun _ _ => True) (by omega) ?_ ?_ (0, 0) trivial
  · intro s _
    simp only [impl_toWrite.l0, if_neg (Int.lt_irrefl _)]
    exact Ev.now _
  · rintro pre x rest ⟨b, m⟩ e hlt hget _ ih
    have hr : rd_T126 f (pre.length : Int) = x := hget _
    have hs : score r.f0 r.f1 r.f2 r.f3 r.f4 r.f5 r.f6.f0 r.f6.f1 x.f0.f0 x.f0.f1 x.f0.f2 x.f0.f3 x.f0.f4 x.f1 x.f2 x.f3 = scoreFor r x := rfl
    simp only [impl_toWrite.l0, if_pos hlt, if_pos (ge0 pre.length), hr]
    refine Ev.bind (impl_Score_ev _ _ _ _ _ _ _ _ _ _ _ _ _ _ _ _ hc hp) ?_
    rw [List.foldl_cons]
    simp only [hs]
    by_cases h1 : scoreFor r x > m
    · have hw : impl_toWrite_1.f l r.f0 x.f0.f0 = some (wrote l r.f0 x.f0.f0) := rfl
      simp only [if_pos h1, hw, Option.bind_some]
      cases h2 : wrote l r.f0 x.f0.f0 with
      | true =>
        simp only [if_true]
        exact ev_map (ih (b, m) trivial) (by simp only [nStep, if_pos h1, h2, if_true])
      | false =>
        simp only [Bool.false_eq_true, if_false]
        exact ev_map (ih (x.f0.f0, scoreFor r x) trivial) (by simp only [nStep, if_pos h1, h2, Bool.false_eq_true, if_false])
    · simp only [if_neg h1]
      exact ev_map (ih (b, m) trivial) (by simp only [nStep, if_neg h1])

/-! ltFacts -/
theorem ltOk_fits : ∀ (l pre : List (S81)), ltOk pre l = true → ∀ x ∈ l, ltFits x = true
  | [], _, _ => by simp
  | y :: l, pre, h => by
    simp only [ltOk, Bool.and_eq_true] at h
    intro x hx
    rcases List.mem_cons.1 hx with e | hx
    · rw [e]; exact h.1
    · exact ltOk_fits l _ h.2.2.2 x hx
theorem mayWrite_zero (l : List (S81)) (r n : Int) : mayWrite l r 0 n = false := by
  cases h : mayWrite l r 0 n with
  | false => rfl
  | true =>
    simp only [mayWrite, areLetters, Bool.and_eq_true] at h
    have h2 := ltOk_fits _ _ h.2.2 ⟨r, 0, n⟩ (by simp)
    simp only [ltFits, Bool.and_eq_true, inr_iff] at h2
    omega

/-! impl_LettersFor -/
theorem impl_LettersFor_l0 (l : List (S81)) (r : List (S87)) (f : List (S126)) (now : Int) (hb : l.length + r.length ≤ 1048576) (hf : f.length ≤ 1048576) (hr : RBnd r) :
    Ev (fun k => impl_LettersFor.l0 k l f now l r (r.length : Int) 0) (runLet f now r l) := by
  refine ev_map (ev_range r (fun k (s : List (S81)) i => impl_LettersFor.l0 k l f now s r (r.length : Int) i) (fun s q => s.drop l.length ++ runLet f now q s) (fun p s => l.length ≤ s.length ∧ s.length ≤ l.length + p.length) (by omega) ?_ ?_ l ⟨Nat.le_refl _, Nat.le_refl _⟩) (by simp)
  · rintro s ⟨h1, h2⟩
    simp only [impl_LettersFor.l0, if_neg (Int.lt_irrefl _), if_pos (ge0 l.length), if_pos (show (l.length : Int) ≤ (s.length : Int) by omega), Int.toNat_natCast]
    exact ev_const (by simp [runLet])
  · rintro pre x rest s e hlt hget ⟨h1, h2⟩ ih
    have hx0 : rd_T87 r (pre.length : Int) = x := hget _
    have hx := hr x (by rw [e]; simp)
    have hn : r.length = pre.length + (rest.length + 1) := by rw [e, len_pre]
    simp only [impl_LettersFor.l0, if_pos hlt, if_pos (ge0 pre.length), hx0]
    refine Ev.bind (impl_toWrite_ev s x f (by omega) hx.1 hx.2) ?_
    simp only [runLet]
    have keep : ¬ mayWrite s x.f0 (nextFor s x f) now = true → s.drop l.length ++ (if mayWrite s x.f0 (nextFor s x f) now = true then ⟨x.f0, nextFor s x f, now⟩ :: runLet f now rest (s ++ [⟨x.f0, nextFor s x f, now⟩]) else runLet f now rest s) = s.drop l.length ++ runLet f now rest s := fun h => by rw [if_neg h]
    by_cases h0 : nextFor s x f = 0
    · simp only [if_pos h0]
      have hm : ¬ mayWrite s x.f0 (nextFor s x f) now = true := by rw [h0, mayWrite_zero]; decide
      exact ev_map (ih s ⟨h1, by rw [List.length_append]; omega⟩) (keep hm).symm
    · simp only [if_neg h0]
      refine Ev.bind (impl_WriteLetter_ev s x.f0 (nextFor s x f) now (by omega)) ?_
      by_cases hm : mayWrite s x.f0 (nextFor s x f) now = true
      · have hw : writeLetter s x.f0 (nextFor s x f) now = (s ++ [⟨x.f0, nextFor s x f, now⟩], true) := if_pos hm
        rw [hw]
        refine ev_map (ih (s ++ [⟨x.f0, nextFor s x f, now⟩]) ⟨by rw [List.length_append]; omega, by simp only [List.length_append, List.length_singleton]; omega⟩) ?_
        rw [if_pos hm, List.drop_append_of_le_length h1, List.append_assoc]
        rfl
      · have hw : writeLetter s x.f0 (nextFor s x f) now = (s, false) := if_neg hm
        rw [hw]
        exact ev_map (ih s ⟨h1, by rw [List.length_append]; omega⟩) (keep hm).symm
theorem impl_LettersFor_ev (l : List (S81)) (r : List (S87)) (f : List (S126)) (now : Int) (hb : l.length + r.length ≤ 1048576) (hf : f.length ≤ 1048576) (hr : RBnd r) :
    Ev (fun k => impl_LettersFor.f k l r f now) (lettersFor l r f now) := by
  have J0 : ∀ c : Bool, Ev (fun k => impl_LettersFor.j0 k l r f now c) (if c = true then [] else runLet f now r l) := fun c => by
    refine ev_succ ?_
    simp only [impl_LettersFor.j0]
    cases c with
    | true => exact Ev.now _
    | false =>
      simp only [Bool.false_eq_true, if_false, clone_Letter_eq l (by omega), Option.bind_some]
      exact impl_LettersFor_l0 l r f now hb hf hr
  unfold impl_LettersFor.f lettersFor
  refine Ev.bind (impl_AreLetters_ev l (by omega)) ?_
  cases h1 : areLetters l with
  | false => exact ev_map (J0 true) rfl
  | true =>
    simp only [if_true, Bool.true_and]
    refine Ev.bind (impl_AreReports_ev r (by omega) hr) ?_
    cases h2 : areReports r with
    | false => exact ev_map (J0 true) rfl
    | true =>
      simp only [if_true, Bool.true_and]
      refine Ev.bind (impl_AreFinds_ev f (by omega)) ?_
      cases h3 : areFinds f with
      | false => exact ev_map (J0 true) rfl
      | true => exact ev_map (J0 false) rfl

/-! laws_contains -/
theorem laws_contains_ev (l : List Int) (n : Int) (h : l.length ≤ 1099511627776) : Ev (fun k => laws_contains.f k l n) (l.any (fun x => decide (x = n))) := by
  refine ev_range l (fun k (_ : Unit) i => laws_contains.l0 k l n i) (fun _ r => r.any (fun x => decide (x = n))) (fun _ _ => True) (by omega) ?_ ?_ () trivial
  · intro _ _
    simp only [laws_contains.l0, if_neg (Int.lt_irrefl _)]
    exact Ev.now _
  · intro pre x rest _ _ hlt hget _ ih
    have hr : rd l (pre.length : Int) = x := hget 0
    simp only [laws_contains.l0, if_pos hlt, if_pos (ge0 pre.length), hr]
    by_cases hx : x = n
    · simp only [if_pos hx]
      exact ev_const (by simp [hx])
    · simp only [if_neg hx]
      exact ev_map (ih () trivial) (by simp [hx])

/-! impl_Candidates -/
def canFor (r : S87) (x : S126) : Bool := canBe r.f0 r.f1 r.f2 r.f3 r.f4 r.f5 r.f6.f0 r.f6.f1 x.f0.f0 x.f0.f1 x.f0.f2 x.f0.f3 x.f0.f4 x.f1 x.f2 x.f3
def cands (r : S87) (f : List (S126)) : List Int := if areFinds f = true then (f.filter (canFor r)).map (fun x => x.f0.f0) else []
theorem impl_Candidates_ev (r : S87) (f : List (S126)) (hf : f.length ≤ 1048576) (hc : r.f2.length ≤ 1099511627776) (hp : r.f5.length ≤ 1099511627776) :
    Ev (fun k => impl_Candidates.f k r.f0 r.f1 r.f2 r.f3 r.f4 r.f5 r.f6.f0 r.f6.f1 f) (cands r f) := by
  unfold impl_Candidates.f cands
  simp only [Option.bind_some]
  refine Ev.bind (impl_AreFinds_ev f (by omega)) ?_
  cases h : areFinds f with
  | false => exact Ev.now _
  | true =>
    simp only [if_true]
    refine ev_map (ev_range f (fun k (o : List Int) i => impl_Candidates.l0 k o f (f.length : Int) i r.f0 r.f1 r.f2 r.f3 r.f4 r.f5 r.f6.f0 r.f6.f1) (fun o q => o ++ (q.filter (canFor r)).map (fun x => x.f0.f0)) (fun p o => o.length ≤ p.length) (by omega) ?_ ?_ [] (Nat.le_refl _)) (by simp)
    · intro o _
      simp only [impl_Candidates.l0, if_neg (Int.lt_irrefl _)]
      exact ev_const (by simp)
    · rintro pre x rest o e hlt hget ho ih
      have hr : rd_T126 f (pre.length : Int) = x := hget _
      have ho' : o.length ≤ pre.length := ho
      have hs : canBe r.f0 r.f1 r.f2 r.f3 r.f4 r.f5 r.f6.f0 r.f6.f1 x.f0.f0 x.f0.f1 x.f0.f2 x.f0.f3 x.f0.f4 x.f1 x.f2 x.f3 = canFor r x := rfl
      have hn : f.length = pre.length + (rest.length + 1) := by rw [e, len_pre]
      simp only [impl_Candidates.l0, if_pos hlt, if_pos (ge0 pre.length), hr]
      refine Ev.bind (impl_CanBe_ev _ _ _ _ _ _ _ _ _ _ _ _ _ _ _ _ hc hp) ?_
      simp only [hs]
      rcases Bool.eq_false_or_eq_true (canFor r x) with hm | hm
      · simp only [hm, if_true, if_pos (show o.length < 17592186044416 by omega)]
        exact ev_map (ih _ (by simp; omega)) (by simp [List.filter_cons, hm])
      · simp only [hm, Bool.false_eq_true, if_false]
        exact ev_map (ih o (by rw [List.length_append]; omega)) (by simp [List.filter_cons, hm])

/-! impl_CountLetters -/
theorem impl_CountLetters_ev (l : List (S81)) (f : Int) (h : l.length ≤ 1099511627776) : Ev (fun k => impl_CountLetters.f k l f) (l.foldl (fun n x => if x.f0 = f then wrap64 (n + 1) else n) 0) := by
  refine ev_range l (fun k n i => impl_CountLetters.l0 k f n l (l.length : Int) i) (fun n r => r.foldl (fun n x => if x.f0 = f then wrap64 (n + 1) else n) n) (fun _ _ => True) (by omega) ?_ ?_ 0 trivial
  · intro n _
    simp only [impl_CountLetters.l0, if_neg (Int.lt_irrefl _)]
    exact Ev.now _
  · intro pre x rest n _ hlt hget _ ih
    have hr : rd_T81 l (pre.length : Int) = x := hget _
    simp only [impl_CountLetters.l0, if_pos hlt, if_pos (ge0 pre.length), hr]
    by_cases hx : x.f0 = f
    · simp only [if_pos hx]
      exact ev_map (ih _ trivial) (by simp [hx])
    · simp only [if_neg hx]
      exact ev_map (ih _ trivial) (by simp [hx])

/-! impl_LastLetter -/
theorem impl_LastLetter_ev (l : List (S81)) (f : Int) (h : l.length ≤ 1099511627776) : Ev (fun k => impl_LastLetter.f k l f) (l.foldl (fun n x => if x.f0 = f then x.f2 else n) (-1)) := by
  refine ev_range l (fun k n i => impl_LastLetter.l0 k f n l (l.length : Int) i) (fun n r => r.foldl (fun n x => if x.f0 = f then x.f2 else n) n) (fun _ _ => True) (by omega) ?_ ?_ (-1) trivial
  · intro n _
    simp only [impl_LastLetter.l0, if_neg (Int.lt_irrefl _)]
    exact Ev.now _
  · intro pre x rest n _ hlt hget _ ih
    have hr : rd_T81 l (pre.length : Int) = x := hget _
    simp only [impl_LastLetter.l0, if_pos hlt, if_pos (ge0 pre.length), hr]
    by_cases hx : x.f0 = f
    · simp only [if_pos hx]
      exact ev_map (ih _ trivial) (by simp [hx])
    · simp only [if_neg hx]
      exact ev_map (ih _ trivial) (by simp [hx])

/-! spec_DrawLetters -/
theorem DrawMayWrite_tot (b : List Int) (hl : b.length ≤ 1048576) : ∃ l r t n, Ev (fun k => spec_DrawMayWrite.f k b) (l, r, t, n) ∧ l.length ≤ 8 := by
  obtain ⟨h0, e0⟩ := l1New_tot b hl
  obtain ⟨l, i1, h1, e1, hl1, c1⟩ := l23Any_tot b 0 h0 (cur0 b hl)
  obtain ⟨x, i2, h2, e2, _, _, c2⟩ := l1Below_tot b i1 h1 5 c1
  obtain ⟨y, i3, h3, e3, _, _, c3⟩ := l1Below_tot b i2 h2 7 c2
  obtain ⟨z, i4, h4, e4, _, c4⟩ := l1Int_tot b i3 h3 [0, 300, 500, 900, 100000, 100001] (by decide) c3
  refine ⟨l, wrap64 (3 * x), wrap64 (2 * y), z, ?_, hl1⟩
  unfold spec_DrawMayWrite.f
  refine Ev.bind e0 ?_
  refine Ev.bind e1 ?_
  simp only [e2, e3, e4, Option.bind_some]
  exact Ev.now _
theorem DrawLettersFor_run (b : List Int) (l : List (S81)) (f : List (S126)) (L : Nat) (hL : L ≤ 8) : ∀ (m : Nat) (r : List (S87)) (x : Nat) (i h : Int), r.length = L → x + m = L → RSm r → Cur b i → ∃ r' n, Ev (fun k => spec_DrawLettersFor.l0 k l f r (x : Int) b i h) (l, r', f, n) ∧ r'.length = L ∧ RSm r' := by
  have fin : ∀ (r : List (S87)) (x i h : Int), Cur b i → ∃ n, Ev (fun k => spec_DrawLettersFor.j1 k l f r x false b i h) (l, r, f, n) := fun r x i h hc => by
    obtain ⟨z, i4, h4, e4, _, c4⟩ := l1Int_tot b i h [0, 400, 900, 1500, 100001] (by decide) hc
    refine ⟨z, ev_succ ?_⟩
    simp only [spec_DrawLettersFor.j1, Bool.false_eq_true, if_false, e4, Option.bind_some]
    exact Ev.now _
  intro m
  induction m with
  | zero =>
    intro r x i h hr hx hs hc
    obtain ⟨n, e⟩ := fin r (x : Int) i h hc
    refine ⟨r, n, ev_succ ?_, hr, hs⟩
    simp only [spec_DrawLettersFor.l0, if_neg (show ¬ (x : Int) < (r.length : Int) by omega)]
    exact e
  | succ m ih =>
    intro r x i h hr hx hs hc
    by_cases hf : (f.length : Int) > 0
    · obtain ⟨q, i1, h1, e1, c1⟩ := l1Once_tot b i h 3 hc
      cases q with
      | true =>
        obtain ⟨r', n, e, p⟩ := ih r (x + 1) i1 h1 hr (by omega) hs c1
        refine ⟨r', n, ev_succ ?_, p⟩
        simp only [spec_DrawLettersFor.l0, if_pos (show (x : Int) < (r.length : Int) by omega), decide_eq_true hf]
        refine ev_succ ?_
        simp only [spec_DrawLettersFor.j1, if_true, e1, Option.bind_some, wsucc (show x < 9223372036854775807 by omega)]
        exact e
      | false =>
        obtain ⟨s, i2, h2, e2, s0, s1, c2⟩ := l1Below_tot b i1 h1 (f.length : Int) c1
        have s2 := s1 hf
        obtain ⟨x0, x1, x2, x3, x4, x5, x6, x7, i3, h3, e3, hl3, hm3, c3⟩ := l8For_tot b i2 h2 (rd_T126 f s).f0.f0 (rd_T126 f s).f0.f1 (rd_T126 f s).f0.f2 (rd_T126 f s).f0.f3 (rd_T126 f s).f0.f4 (rd_T126 f s).f1 (rd_T126 f s).f2 (rd_T126 f s).f3 (rd_T87 r (x : Int)).f0 c2
        obtain ⟨r', n, e, p⟩ := ih (r.set ((x : Int)).toNat ⟨x0, x1, x2, x3, x4, x5, ⟨x6, x7⟩⟩) (x + 1) i3 h3 (by rw [List.length_set]; exact hr) (by omega) (hs.set _ _ ⟨hl3, hm3⟩) c3
        refine ⟨r', n, ev_succ ?_, p⟩
        simp only [spec_DrawLettersFor.l0, if_pos (show (x : Int) < (r.length : Int) by omega), decide_eq_true hf]
        refine ev_succ ?_
        simp only [spec_DrawLettersFor.j1, if_true, e1, e2, Option.bind_some, Bool.false_eq_true, if_false, if_pos s0, if_pos s2, if_pos (ge0 x), if_pos (show (x : Int) < (r.length : Int) by omega)]
        refine Ev.bind e3 ?_
        simp only [wsucc (show x < 9223372036854775807 by omega)]
        exact e
    · obtain ⟨n, e⟩ := fin r (x : Int) i h hc
      refine ⟨r, n, ev_succ ?_, hr, hs⟩
      simp only [spec_DrawLettersFor.l0, if_pos (show (x : Int) < (r.length : Int) by omega), decide_eq_false hf]
      exact e
theorem DrawLettersFor_tot (b : List Int) (hl : b.length ≤ 1048576) : ∃ l r f n, Ev (fun k => spec_DrawLettersFor.f k b) (l, r, f, n) ∧ l.length ≤ 8 ∧ r.length ≤ 8 ∧ f.length ≤ 8 ∧ RSm r := by
  obtain ⟨h0, e0⟩ := l1New_tot b hl
  obtain ⟨l, i1, h1, e1, hl1, c1⟩ := l23Any_tot b 0 h0 (cur0 b hl)
  obtain ⟨f, i2, h2, e2, hf, c2⟩ := l6List_tot b i1 h1 c1
  obtain ⟨r, i3, h3, e3, hr, hs, c3⟩ := l7List_tot b i2 h2 c2
  obtain ⟨r', n, e, q, hs'⟩ := DrawLettersFor_run b l f r.length hr r.length r 0 i3 h3 rfl (by omega) hs c3
  refine ⟨l, r', f, n, ?_, hl1, by omega, hf, hs'⟩
  unfold spec_DrawLettersFor.f
  refine Ev.bind e0 ?_
  refine Ev.bind e1 ?_
  refine Ev.bind e2 ?_
  refine Ev.bind e3 ?_
  exact e

/-! the law -/
theorem runLet_ok (f : List (S126)) (now : Int) : ∀ (rs : List (S87)) (a : List (S81)), areLetters a = true → areLetters (a ++ runLet f now rs a) = true
  | [], a, h => by simpa [runLet] using h
  | r :: rs, a, h => by
    simp only [runLet]
    by_cases hm : mayWrite a r.f0 (nextFor a r f) now = true
    · have h2 := hm
      simp only [mayWrite, Bool.and_eq_true] at h2
      have := runLet_ok f now rs _ h2.2
      rw [if_pos hm]
      simpa using this
    · rw [if_neg hm]
      exact runLet_ok f now rs a h
theorem runLet_mem (f : List (S126)) (now : Int) : ∀ (rs : List (S87)) (a : List (S81)) (y : S81), y ∈ runLet f now rs a → y.f2 = now ∧ y.f1 ≠ 0 ∧ ∃ r ∈ rs, y.f0 = r.f0 ∧ ∃ a', y.f1 = nextFor a' r f
  | [], a, y, h => by simp [runLet] at h
  | r :: rs, a, y, h => by
    simp only [runLet] at h
    by_cases hm : mayWrite a r.f0 (nextFor a r f) now = true
    · rw [if_pos hm] at h
      rcases List.mem_cons.1 h with e | h
      · subst e
        refine ⟨rfl, fun h0 => ?_, r, by simp, rfl, a, rfl⟩
        have h0' : nextFor a r f = 0 := h0
        rw [h0', mayWrite_zero] at hm
        cases hm
      · obtain ⟨h1, h2, q, hq, h3⟩ := runLet_mem f now rs _ y h
        exact ⟨h1, h2, q, by simp [hq], h3⟩
    · rw [if_neg hm] at h
      obtain ⟨h1, h2, q, hq, h3⟩ := runLet_mem f now rs _ y h
      exact ⟨h1, h2, q, by simp [hq], h3⟩
theorem rpOk_lt : ∀ (l : List (S87)) (y : S87), rpOk (some y) l = true → ∀ x ∈ l, y.f0 < x.f0
  | [], _, _ => by simp
  | z :: l, y, h => by
    simp only [rpOk, Bool.and_eq_true, decide_eq_true_eq] at h
    intro x hx
    rcases List.mem_cons.1 hx with rfl | hx
    · exact h.2.1
    · have := rpOk_lt l z h.2.2 x hx
      omega
theorem rpOk_pw : ∀ (l : List (S87)) (p : Option (S87)), rpOk p l = true → l.Pairwise (fun x y => x.f0 < y.f0)
  | [], _, _ => List.Pairwise.nil
  | z :: l, p, h => by
    simp only [rpOk, Bool.and_eq_true] at h
    exact List.Pairwise.cons (rpOk_lt l z h.2.2) (rpOk_pw l (some z) h.2.2)
theorem pw_inj {l : List (S87)} (h : l.Pairwise (fun x y => x.f0 < y.f0)) : ∀ x ∈ l, ∀ y ∈ l, x.f0 = y.f0 → x = y := by
  induction h with
  | nil => simp
  | cons hz _ ih =>
    intro x hx y hy e
    rcases List.mem_cons.1 hx with ex | hx1
    · rcases List.mem_cons.1 hy with ey | hy1
      · rw [ex, ey]
      · have := hz y hy1
        rw [ex] at e
        omega
    · rcases List.mem_cons.1 hy with ey | hy1
      · have := hz x hx1
        rw [ey] at e
        omega
      · exact ih x hx1 y hy1 e
theorem runLet_pw (f : List (S126)) (now : Int) : ∀ (rs : List (S87)) (a : List (S81)), rs.Pairwise (fun x y => x.f0 < y.f0) → (runLet f now rs a).Pairwise (fun x y => x.f0 ≠ y.f0)
  | [], _, _ => List.Pairwise.nil
  | r :: rs, a, h => by
    obtain ⟨h1, h2⟩ := List.pairwise_cons.1 h
    simp only [runLet]
    split
    · refine List.Pairwise.cons (fun y hy => ?_) (runLet_pw f now rs _ h2)
      obtain ⟨_, _, q, hq, e, _⟩ := runLet_mem f now rs _ y hy
      have := h1 q hq
      show r.f0 ≠ y.f0
      omega
    · exact runLet_pw f now rs a h2
theorem cnt_none (i : Int) : ∀ (l : List (S81)) (n : Int), (∀ z ∈ l, z.f0 ≠ i) → l.foldl (fun n x => if x.f0 = i then wrap64 (n + 1) else n) n = n
  | [], _, _ => rfl
  | z :: l, n, h => by
    rw [List.foldl_cons, if_neg (h z (by simp))]
    exact cnt_none i l n (fun y hy => h y (by simp [hy]))
theorem cnt_one {l : List (S81)} (h : l.Pairwise (fun x y => x.f0 ≠ y.f0)) : ∀ y ∈ l, l.foldl (fun n x => if x.f0 = y.f0 then wrap64 (n + 1) else n) 0 = 1 := by
  induction h with
  | nil => simp
  | cons hz _ ih =>
    intro y hy
    rw [List.foldl_cons]
    rcases List.mem_cons.1 hy with e | hy
    · subst e
      rw [if_pos rfl, cnt_none _ _ _ (fun z hz' => Ne.symm (hz z hz'))]
      exact (w64 (x := 0 + 1) (by decide) (by decide)).trans rfl
    · rw [if_neg (hz y hy)]
      exact ih y hy
theorem next_can (l : List (S81)) (r : S87) (f : List (S126)) (h : nextFor l r f ≠ 0) : ∃ x ∈ f, x.f0.f0 = nextFor l r f ∧ canFor r x = true := by
  have key : ∀ (q : List (S126)) (s : Int × Int), (∀ x ∈ q, x ∈ f) → 0 ≤ s.2 → (s.1 = 0 ∨ ∃ x ∈ f, x.f0.f0 = s.1 ∧ canFor r x = true) → ((q.foldl (nStep l r) s).1 = 0 ∨ ∃ x ∈ f, x.f0.f0 = (q.foldl (nStep l r) s).1 ∧ canFor r x = true) := by
    intro q
    induction q with
    | nil => intro s _ _ h; exact h
    | cons x q ih =>
      intro s hq h0 hs
      rw [List.foldl_cons]
      have hq' : ∀ y ∈ q, y ∈ f := fun y hy => hq y (by simp [hy])
      unfold nStep
      by_cases h1 : scoreFor r x > s.2
      · rw [if_pos h1]
        split
        · exact ih s hq' h0 hs
        · refine ih (x.f0.f0, scoreFor r x) hq' (by show 0 ≤ scoreFor r x; omega) (.inr ⟨x, hq x (by simp), rfl, ?_⟩)
          cases hc : canFor r x with
          | true => rfl
          | false =>
            have : scoreFor r x = 0 := by
              unfold scoreFor score
              rw [if_neg (by show ¬ canFor r x = true; rw [hc]; decide)]
            omega
      · rw [if_neg h1]
        exact ih s hq' h0 hs
  rcases key f (0, 0) (fun _ h => h) (Int.le_refl _) (.inl rfl) with e | e
  · exact absurd e h
  · exact e
theorem idx_at (q : S87 → Bool) : ∀ (l : List (S87)) (i : Nat), (∃ x ∈ l, q x = true) → ∃ j x, impl_FindReport.idx q i l = ((i + j : Nat) : Int) ∧ l[j]? = some x ∧ q x = true
  | [], _, h => by obtain ⟨x, hx, _⟩ := h; cases hx
  | y :: l, i, h => by
    by_cases hy : q y = true
    · exact ⟨0, y, by simp [impl_FindReport.idx, hy], rfl, hy⟩
    · obtain ⟨x, hx, hq⟩ := h
      have hx' : x ∈ l := by
        rcases List.mem_cons.1 hx with e | hx
        · rw [e] at hq; exact absurd hq hy
        · exact hx
      obtain ⟨j, z, h1, h2, h3⟩ := idx_at q l (i + 1) ⟨x, hx', hq⟩
      refine ⟨j + 1, z, ?_, h2, h3⟩
      rw [show impl_FindReport.idx q i (y :: l) = impl_FindReport.idx q (i + 1) l by simp [impl_FindReport.idx, hy], h1]
      congr 1
      omega
theorem let_end (code : List Int) (hl : code.length ≤ 1048576) (r : List (S87)) (f : List (S126)) (now : Int) (x : List (S81)) : Ev (fun k => laws_FnLetters.l0 (k + 1) code r f now x (x.length : Int)) true := by
  obtain ⟨a, rp, t, n, e1, ha⟩ := DrawMayWrite_tot code hl
  simp only [laws_FnLetters.l0, if_neg (Int.lt_irrefl _)]
  refine Ev.bind (show Ev (fun k => spec_DrawWriteLetter.f k code) (a, rp, t, n) from Ev.bind e1 (Ev.now _)) ?_
  refine Ev.bind (impl_WriteLetter_ev a rp t n (by omega)) ?_
  refine Ev.bind (impl_MayWrite_ev a rp t n (by omega)) ?_
  by_cases hm : mayWrite a rp t n = true
  · rw [show writeLetter a rp t n = (a ++ [⟨rp, t, n⟩], true) from if_pos hm, hm]
    simp only [bne_self_eq_false, Bool.false_eq_true, if_false, if_true]
    refine Ev.bind (impl_LastLetter_ev _ rp (by simp; omega)) ?_
    simp only [List.foldl_append, List.foldl_cons, List.foldl_nil, if_true]
    refine Ev.bind (impl_CountLetters_ev _ rp (by simp; omega)) ?_
    refine Ev.bind (impl_CountLetters_ev a rp (by omega)) ?_
    simp only [List.foldl_append, List.foldl_cons, List.foldl_nil, if_true]
    exact Ev.now _
  · have hf : mayWrite a rp t n = false := Bool.eq_false_iff.2 hm
    rw [show writeLetter a rp t n = (a, false) from if_neg hm, hf]
    simp only [bne_self_eq_false, Bool.false_eq_true, if_false, beq_self_eq_true]
    exact Ev.now _
theorem let_l0 (code : List Int) (hl : code.length ≤ 1048576) (l : List (S81)) (r : List (S87)) (f : List (S126)) (now : Int) (hr : r.length ≤ 8) (hf : f.length ≤ 8) (hs : RSm r) :
    Ev (fun k => laws_FnLetters.l0 k code r f now (lettersFor l r f now) 0) true := by
  have hlen := lettersFor_len l r f now
  refine ev_range (lettersFor l r f now) (fun k (_ : Unit) i => laws_FnLetters.l0 k code r f now (lettersFor l r f now) i) (fun _ _ => true) (fun _ _ => True) (by omega) ?_ ?_ () trivial
  · intro _ _
    exact let_end code hl r f now _
  · rintro pre y rest _ e hlt hget _ ih
    have hy0 : rd_T81 (lettersFor l r f now) (pre.length : Int) = y := hget _
    have hy : y ∈ lettersFor l r f now := by rw [e]; simp
    unfold lettersFor at hy
    by_cases hok : (areLetters l && (areReports r && areFinds f)) = true
    · rw [if_pos hok] at hy
      have heq : lettersFor l r f now = runLet f now r l := if_pos hok
      simp only [Bool.and_eq_true] at hok
      have hpw : r.Pairwise (fun x y => x.f0 < y.f0) := by
        have := hok.2.1
        simp only [areReports, Bool.and_eq_true] at this
        exact rpOk_pw r none this.2
      obtain ⟨h1, h2, q, hq, h3, a', h4⟩ := runLet_mem f now r l y hy
      obtain ⟨x, hx, hx1, hx2⟩ := next_can a' q f (by rw [← h4]; exact h2)
      obtain ⟨j, z, hj, hz, hz2⟩ := idx_at (impl_FindReport.p y.f0) r 0 ⟨q, hq, decide_eq_true h3.symm⟩
      have hzr : z ∈ r := List.mem_of_getElem? hz
      have hzq : z = q := pw_inj hpw z hzr q hq ((of_decide_eq_true hz2).trans h3)
      have hjl : j < r.length := (List.getElem?_eq_some_iff.1 hz).1
      rw [Nat.zero_add] at hj
      have hrz : rd_T87 r (j : Int) = q := by
        show r.getD ((j : Int)).toNat _ = q
        rw [Int.toNat_natCast, List.getD_eq_getElem?_getD, hz, hzq]
        rfl
      have hfr : impl_FindReport.f r y.f0 = some (j : Int) := by
        unfold impl_FindReport.f
        rw [hj]
      have hb := hs q hq
      simp only [laws_FnLetters.l0, if_pos hlt, if_pos (ge0 pre.length), hy0, hfr, Option.bind_some, if_neg (show ¬ (j : Int) < 0 by omega), if_pos (ge0 j), if_pos (show (j : Int) < (r.length : Int) by omega), hrz]
      refine Ev.bind (impl_Candidates_ev q f (by omega) (by omega) (by omega)) ?_
      have hcl : (cands q f).length ≤ f.length := by
        unfold cands
        split
        · rw [List.length_map]; exact List.length_filter_le _ _
        · simp
      refine Ev.bind (laws_contains_ev (cands q f) y.f1 (by omega)) ?_
      have hcon : (cands q f).any (fun x => decide (x = y.f1)) = true := by
        refine List.any_eq_true.2 ⟨y.f1, ?_, decide_eq_true rfl⟩
        unfold cands
        rw [if_pos hok.2.2, h4, ← hx1]
        exact List.mem_map.2 ⟨x, List.mem_filter.2 ⟨hx, hx2⟩, rfl⟩
      simp only [hcon, if_true, if_pos h1]
      refine Ev.bind (impl_CountLetters_ev (lettersFor l r f now) y.f0 (by omega)) ?_
      have hone := cnt_one (runLet_pw f now r l hpw) y hy
      rw [heq] at ih ⊢
      simp only [hone, if_true]
      exact ih () trivial
    · rw [if_neg hok] at hy
      cases hy
theorem Pf.FnLetters : FnLettersLaw := by
  intro code hm hq
  refine Ev.rounds ?_
  unfold laws_FnLetters.f
  simp only [laws_big.f, Option.bind_some]
  by_cases hb : (code.length : Int) > 1048576
  · simp only [decide_eq_true hb, if_true]
    exact Ev.now _
  · have hl : code.length ≤ 1048576 := by omega
    simp only [decide_eq_false hb, Bool.false_eq_true, if_false]
    obtain ⟨l, r, f, now, e1, h1, h2, h3, hs⟩ := DrawLettersFor_tot code hl
    refine Ev.bind e1 ?_
    refine Ev.bind (impl_LettersFor_ev l r f now (by omega) (by omega) (fun x hx => by have := hs x hx; omega)) ?_
    have hlen := lettersFor_len l r f now
    simp only [List.nil_append, List.length_nil, Nat.zero_add, if_pos (show l.length < 5864062014805 by omega), if_pos (show l.length + (lettersFor l r f now).length < 5864062014805 by omega)]
    have hj : Ev (fun k => laws_FnLetters.j0 k code r f now (lettersFor l r f now) false) true := by
      refine ev_succ ?_
      simp only [laws_FnLetters.j0, Bool.false_eq_true, if_false]
      exact let_l0 code hl l r f now h2 h3 hs
    refine Ev.bind (impl_AreLetters_ev l (by omega)) ?_
    cases ha : areLetters l with
    | false =>
      simp only [Bool.false_eq_true, if_false]
      exact hj
    | true =>
      simp only [if_true]
      refine Ev.bind (impl_AreLetters_ev _ (by rw [List.length_append]; omega)) ?_
      have hall : areLetters (l ++ lettersFor l r f now) = true := by
        unfold lettersFor
        split
        · exact runLet_ok f now r l ha
        · rw [List.append_nil]; exact ha
      simp only [hall, Bool.not_true]
      exact hj

end Go.Proofs.Ytpkdbkheggfkkaa.PFnLetters
