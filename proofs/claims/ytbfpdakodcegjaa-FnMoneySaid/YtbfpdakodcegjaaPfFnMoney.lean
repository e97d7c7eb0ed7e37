/- The plain part of FnMoney: what the printed functions come to, and that the law's answer is true. No conditions beyond those of the statement. -/
import Derived.Test.YtbfpdakodcegjaaPFnMoneyx
import Derived.Test.YtbfpdakodcegjaaBase
import Derived.Test.YtbfpdakodcegjaaDefFnMoney
namespace Go.Proofs.Ytbfpdakodcegjaa.PFnMoney
open Go.RowKit Go.Proofs.YtbfpdakodcegjaaW.PrintWords Go.Proofs.YtbfpdakodcegjaaW.PrintMore Go.Proofs.Ytbfpdakodcegjaa.Base
set_option linter.unusedVariables false
set_option linter.unusedSimpArgs false

/-! cursor -/
theorem i64_and255 (n : Int) : bits .and .i64 n 255 = n % 256 := by
  have h255 : (BitVec.ofInt 64 255).toNat = 2 ^ 8 - 1 := by decide
  have key : (BitVec.ofInt 64 n &&& BitVec.ofInt 64 255).toNat = (n % ((2 ^ 64 : Nat) : Int)).toNat % 2 ^ 8 := by
    rw [BitVec.toNat_and, BitVec.toNat_ofInt, h255, Nat.and_two_pow_sub_one_eq_mod]
  show IntKind.i64.wrap ((BitVec.ofInt 64 n &&& BitVec.ofInt 64 255).toNat : Nat) = n % 256
  rw [key, IntKind.wrap_i64]
  omega
/-- A cursor over the bytes b stands at place i. -/
def Cur (b : List Int) (i : Int) : Prop := b.length ≤ 1048576 ∧ 0 ≤ i ∧ i ≤ (b.length : Int)

/-! spec_l1New -/
theorem l1New_tot (b : List Int) (hl : b.length ≤ 1048576) : ∃ h, Ev (fun k => spec_l1New.f k b) (b, 0, h) := by
  have key : ∀ (d i : Nat) (h : Int), i + d = b.length → ∃ h', Ev (fun k => spec_l1New.l0 k b h (i : Int)) (b, 0, h') := by
    intro d
    induction d with
    | zero =>
      intro i h hi
      refine ⟨h, ev_succ ?_⟩
      simp only [spec_l1New.l0, if_neg (show ¬ (i : Int) < (b.length : Int) by omega)]
      exact Ev.now _
    | succ d ih =>
      intro i h hi
      by_cases h4 : (i : Int) < 4000
      · obtain ⟨h', e⟩ := ih (i + 1) (bits .and .i64 (wrap64 (wrap64 (wrap64 (h * 137) + wrap64 (rd b i)) + 11)) 1073741823) (by omega)
        refine ⟨h', ev_succ ?_⟩
        simp only [spec_l1New.l0, if_pos (show (i : Int) < (b.length : Int) by omega), if_pos h4, if_pos (ge0 i), wsucc (show i < 9223372036854775807 by omega)]
        exact e
      · refine ⟨h, ev_succ ?_⟩
        simp only [spec_l1New.l0, if_pos (show (i : Int) < (b.length : Int) by omega), if_neg h4]
        exact Ev.now _
  exact key b.length 0 _ (by omega)
theorem cur0 (b : List Int) (hl : b.length ≤ 1048576) : Cur b 0 := ⟨hl, by omega, by omega⟩

/-! spec_l1Byte -/
theorem l1Byte_tot (b : List Int) (i h : Int) (hc : Cur b i) : ∃ x i' h', spec_l1Byte.f b i h = some (x, i', h') ∧ 0 ≤ x ∧ x < 256 ∧ Cur b i' := by
  obtain ⟨h1, h2, h3⟩ := hc
  unfold spec_l1Byte.f
  by_cases hi : i < (b.length : Int)
  · rw [if_pos hi, if_pos h2]
    refine ⟨_, _, _, rfl, ?_, ?_, h1, ?_⟩
    · rw [i64_and255 (wrap64 _)]
      omega
    · rw [i64_and255 (wrap64 _)]
      omega
    · rw [w64 (by omega) (by omega)]
      omega
  · rw [if_neg hi]
    refine ⟨_, _, _, rfl, ?_, ?_, h1, h2, h3⟩
    · rw [i64_and255]
      omega
    · rw [i64_and255]
      omega

/-! spec_l1Below -/
theorem l1Below_tot (b : List Int) (i h n : Int) (hc : Cur b i) : ∃ x i' h', spec_l1Below.f b i h n = some (x, i', h') ∧ 0 ≤ x ∧ (0 < n → x < n) ∧ Cur b i' := by
  unfold spec_l1Below.f
  by_cases hn : n ≤ 0
  · rw [if_pos hn]
    exact ⟨_, _, _, rfl, by omega, fun h => by omega, hc⟩
  · rw [if_neg hn]
    by_cases h256 : n ≤ 256
    · rw [if_pos h256]
      obtain ⟨x, i1, h1, e1, hx0, hx1, c1⟩ := l1Byte_tot b i h hc
      simp only [e1, Option.bind_some, if_neg (show ¬ n = 0 by omega)]
      exact ⟨_, _, _, rfl, Int.tmod_nonneg _ hx0, fun h => Int.tmod_lt_of_pos _ h, c1⟩
    · rw [if_neg h256]
      obtain ⟨x, i1, h1, e1, hx0, hx1, c1⟩ := l1Byte_tot b i h hc
      obtain ⟨y, i2, h2, e2, hy0, hy1, c2⟩ := l1Byte_tot b i1 h1 c1
      obtain ⟨z, i3, h3, e3, hz0, hz1, c3⟩ := l1Byte_tot b i2 h2 c2
      simp only [e1, e2, e3, Option.bind_some, if_neg (show ¬ n = 0 by omega)]
      refine ⟨_, _, _, rfl, Int.tmod_nonneg _ ?_, fun h => Int.tmod_lt_of_pos _ h, c3⟩
      rw [w64 (x := x * 65536) (by omega) (by omega), w64 (x := y * 256) (by omega) (by omega), w64 (x := x * 65536 + y * 256) (by omega) (by omega), w64 (by omega) (by omega)]
      omega

/-! spec_l1Int -/
theorem l1Int_tot (b : List Int) (i h : Int) (l : List Int) (hl : 0 < l.length) (hc : Cur b i) : ∃ x i' h', spec_l1Int.f b i h l = some (x, i', h') ∧ x ∈ l ∧ Cur b i' := by
  obtain ⟨x, i1, h1, e1, hx0, hx1, c1⟩ := l1Below_tot b i h (l.length : Int) hc
  have hx := hx1 (by omega)
  unfold spec_l1Int.f
  simp only [e1, Option.bind_some, if_pos hx0, if_pos hx]
  refine ⟨_, _, _, rfl, ?_, c1⟩
  unfold rd
  rw [List.getD_eq_getElem?_getD, List.getElem?_eq_getElem (by omega)]
  exact List.getElem_mem _

/-! spec_l1Once -/
theorem l1Once_tot (b : List Int) (i h n : Int) (hc : Cur b i) : ∃ x i' h', spec_l1Once.f b i h n = some (x, i', h') ∧ Cur b i' := by
  obtain ⟨x, i1, h1, e1, _, _, c1⟩ := l1Below_tot b i h n hc
  unfold spec_l1Once.f
  simp only [e1, Option.bind_some]
  exact ⟨_, _, _, rfl, c1⟩

/-! spec_DrawSplitMoney -/
theorem DrawSplitMoney_tot (b : List Int) (hl : b.length ≤ 1048576) : ∃ n parts, Ev (fun k => spec_DrawSplitMoney.f k b) (n, parts) ∧ parts.length ≤ 6 := by
  have key : ∀ (m : Nat) (n : Int) (p : List Int) (i h : Int), Cur b i → p.length + m ≤ 6 → ∃ parts, Ev (fun k => spec_DrawSplitMoney.l0 k n p (m : Int) b i h) (n, parts) ∧ parts.length ≤ 6 := by
    intro m
    induction m with
    | zero =>
      intro n p i h hc hp
      by_cases h0 : (p.length : Int) > 0
      · obtain ⟨o, i1, h1, e1, c1⟩ := l1Once_tot b i h 8 hc
        cases o with
        | false =>
          refine ⟨p, ev_succ ?_, by omega⟩
          simp only [spec_DrawSplitMoney.l0, if_neg (show ¬ ((0 : Nat) : Int) > 0 by omega), if_pos h0, e1, Option.bind_some, Bool.false_eq_true, if_false]
          exact Ev.now _
        | true =>
          obtain ⟨y, i2, h2, e2, _, c2⟩ := l1Int_tot b i1 h1 [(-1), 1001] (by decide) c1
          refine ⟨p.set (0 : Int).toNat y, ev_succ ?_, by rw [List.length_set]; omega⟩
          simp only [spec_DrawSplitMoney.l0, if_neg (show ¬ ((0 : Nat) : Int) > 0 by omega), if_pos h0, e1, e2, Option.bind_some, if_true, if_pos (show (0 : Int) < (p.length : Int) by omega)]
          exact Ev.now _
      · refine ⟨p, ev_succ ?_, by omega⟩
        simp only [spec_DrawSplitMoney.l0, if_neg (show ¬ ((0 : Nat) : Int) > 0 by omega), if_neg h0]
        exact Ev.now _
    | succ m ih =>
      intro n p i h hc hp
      obtain ⟨y, i1, h1, e1, _, c1⟩ := l1Int_tot b i h [0, 1, 2, 3, 7, 1000] (by decide) hc
      obtain ⟨q, e, hq⟩ := ih n (p ++ [y]) i1 h1 c1 (by simp; omega)
      refine ⟨q, ev_succ ?_, hq⟩
      simp only [spec_DrawSplitMoney.l0, if_pos (show ((m + 1 : Nat) : Int) > 0 by omega), e1, Option.bind_some, if_pos (show p.length < 17592186044416 by omega), show wrap64 (((m + 1 : Nat) : Int) - 1) = (m : Int) by rw [w64 (by omega) (by omega)]; omega]
      exact e
  obtain ⟨h0, e0⟩ := l1New_tot b hl
  obtain ⟨n, i1, h1, e1, _, c1⟩ := l1Int_tot b 0 h0 [0, 1, 7, 100, 9999, 10000000, 10000001, (-1)] (by decide) (cur0 b hl)
  obtain ⟨m, i2, h2, e2, hm0, hm1, c2⟩ := l1Below_tot b i1 h1 6 c1
  obtain ⟨mm, rfl⟩ : ∃ mm : Nat, m = (mm : Int) := ⟨m.toNat, by omega⟩
  obtain ⟨p, e, hp⟩ := key mm n [] i2 h2 c2 (by have := hm1 (by omega); simp; omega)
  refine ⟨n, p, ?_, hp⟩
  unfold spec_DrawSplitMoney.f
  refine Ev.bind e0 ?_
  simp only [e1, e2, Option.bind_some]
  exact e

/-! impl_InRange -/
theorem impl_InRange_eq (a b c : Int) : impl_InRange.f a b c = some (inr a b c) := by
  unfold impl_InRange.f inr
  by_cases h : b ≤ a <;> simp [h]

/-! splitMoney -/
def isum : List Int → Int
  | [] => 0
  | x :: l => x + isum l
theorem isum_append (a b : List Int) : isum (a ++ b) = isum a + isum b := by
  induction a with
  | nil => simp [isum]
  | cons x a ih =>
    simp only [List.cons_append, isum, ih]
    omega
def partsOk (l : List Int) : Bool := l.all (fun p => inr p 0 1000)
def floors (c s : Int) (l : List Int) : List Int := l.map (fun p => c * p / s)
theorem floors_length (c s : Int) (l : List Int) : (floors c s l).length = l.length := by simp [floors]
def bump : Nat → List Int → List Int
  | 0, l => l
  | _ + 1, [] => []
  | n + 1, x :: l => (x + 1) :: bump n l
def splitFits (c : Int) (n : Nat) (s : Int) : Bool := inr c 0 10000000 && (inr (n : Int) 1 20 && !decide (s = 0))
def splitTail (c : Int) (l : List Int) : List Int := if splitFits c l.length (isum l) = true then bump (c - isum (floors c (isum l) l)).toNat (floors c (isum l) l) else []
def splitMoney (c : Int) (l : List Int) : List Int := if partsOk l = true then splitTail c l else []
theorem bump_length : ∀ (n : Nat) (l : List Int), (bump n l).length = l.length
  | 0, l => by simp [bump]
  | _ + 1, [] => by simp [bump]
  | n + 1, x :: l => by simp [bump, bump_length n l]
theorem splitMoney_len (c : Int) (l : List Int) : (splitMoney c l).length ≤ l.length := by
  unfold splitMoney splitTail
  split
  · split
    · rw [bump_length]
      simp [floors]
    · simp
  · simp
theorem isum_bounds (l : List Int) (h : partsOk l = true) : 0 ≤ isum l ∧ isum l ≤ 1000 * (l.length : Int) := by
  induction l with
  | nil => simp [isum]
  | cons x l ih =>
    simp only [partsOk, List.all_cons, Bool.and_eq_true, inr_iff] at h
    have := ih h.2
    simp only [isum, List.length_cons]
    omega
/-- The floors' sum: at most c, and less than a cent a part away from it. -/
theorem floors_sum (c s : Int) (hc : 0 ≤ c) (hs : 0 < s) : ∀ l : List Int, isum (floors c s l) * s ≤ c * isum l ∧ c * isum l + (l.length : Int) ≤ isum (floors c s l) * s + (l.length : Int) * s
  | [] => by simp [isum, floors]
  | x :: l => by
    have ih := floors_sum c s hc hs l
    have h1 := Int.ediv_mul_le (c * x) (show s ≠ 0 by omega)
    have h2 := Int.lt_ediv_add_one_mul_self (c * x) hs
    have e1 : (c * x / s + 1) * s = c * x / s * s + s := by rw [Int.add_mul, Int.one_mul]
    have e2 : ((l.length : Int) + 1) * s = (l.length : Int) * s + s := by rw [Int.add_mul, Int.one_mul]
    simp only [floors, List.map_cons, isum, List.length_cons, Int.add_mul, Int.mul_add] at ih ⊢
    push_cast
    rw [e2]
    constructor <;> omega
theorem floors_left {c : Int} {l : List Int} (hp : partsOk l = true) (hf : splitFits c l.length (isum l) = true) : 0 ≤ c - isum (floors c (isum l) l) ∧ c - isum (floors c (isum l) l) < (l.length : Int) := by
  simp only [splitFits, Bool.and_eq_true, inr_iff, Bool.not_eq_true', decide_eq_false_iff_not] at hf
  have hb := isum_bounds l hp
  have hs : 0 < isum l := by omega
  obtain ⟨h1, h2⟩ := floors_sum c (isum l) hf.1.1 hs l
  have h3 : isum (floors c (isum l) l) ≤ c := Int.le_of_mul_le_mul_right h1 hs
  have h4 : c * isum l < (isum (floors c (isum l) l) + (l.length : Int)) * isum l := by
    rw [Int.add_mul]
    omega
  have h5 := Int.lt_of_mul_lt_mul_right h4 (by omega)
  omega
theorem floor_le {c s p : Int} (hc : 0 ≤ c) (h1 : c ≤ 10000000) (hs : 0 < s) (hp : 0 ≤ p) (hp1 : p ≤ 1000) : 0 ≤ c * p / s ∧ c * p / s ≤ 10000000000 ∧ 0 ≤ c * p ∧ c * p ≤ 10000000000 := by
  have h2 : 0 ≤ c * p := Int.mul_nonneg hc hp
  have h3 : c * p ≤ 10000000 * 1000 := Int.mul_le_mul h1 hp1 hp (by omega)
  have h4 : 0 ≤ c * p / s := Int.ediv_nonneg h2 (by omega)
  have h5 : c * p / s ≤ c * p := Int.ediv_le_self _ h2
  omega
theorem floor_wrap {c s p : Int} (hc : 0 ≤ c) (h1 : c ≤ 10000000) (hs : 0 < s) (hp : 0 ≤ p) (hp1 : p ≤ 1000) : wrap64 (Int.tdiv (wrap64 (c * p)) s) = c * p / s := by
  obtain ⟨a, b, d, e⟩ := floor_le hc h1 hs hp hp1
  rw [w64 (x := c * p) (by omega) (by omega), Int.tdiv_eq_ediv_of_nonneg d, w64 (by omega) (by omega)]
theorem floors_mem {c : Int} {l : List Int} (hp : partsOk l = true) (hf : splitFits c l.length (isum l) = true) : ∀ y ∈ floors c (isum l) l, 0 ≤ y ∧ y ≤ 10000000000 := by
  have hb := isum_bounds l hp
  simp only [splitFits, Bool.and_eq_true, inr_iff, Bool.not_eq_true', decide_eq_false_iff_not] at hf
  intro y hy
  simp only [floors, List.mem_map] at hy
  obtain ⟨p, hpm, rfl⟩ := hy
  simp only [partsOk, List.all_eq_true, inr_iff] at hp
  have := hp p hpm
  have := floor_le (c := c) (s := isum l) (p := p) hf.1.1 hf.1.2 (by omega) this.1 this.2
  omega

/-! impl_SplitMoney -/
theorem impl_Split_l2 : ∀ (m : Nat) (done rest : List Int), m < rest.length → (∀ y ∈ rest, 0 ≤ y ∧ y ≤ 10000000000) → (done ++ rest).length ≤ 1099511627776 →
    Ev (fun k => impl_SplitMoney.l2 k (done ++ rest) (m : Int) (done.length : Int)) (done ++ bump m rest)
  | 0, done, rest, _, _, _ => by
    refine ev_succ ?_
    simp only [impl_SplitMoney.l2, if_neg (show ¬ ((0 : Nat) : Int) > 0 by omega)]
    exact ev_const (by simp [bump])
  | m + 1, done, [], hm, _, _ => by simp at hm
  | m + 1, done, y :: rest, hm, hy, hl => by
    have hy0 := hy y (by simp)
    have hlen := len_pre done y rest
    have hm' : m < rest.length := by simpa using hm
    have ih := impl_Split_l2 m (done ++ [y + 1]) rest hm' (fun z hz => hy z (by simp [hz])) (by rw [← app_pre, len_pre]; omega)
    have ht : Int.tmod ((done.length + 1 : Nat) : Int) ((done ++ y :: rest).length : Int) = ((done.length + 1 : Nat) : Int) := by
      rw [Int.tmod_eq_of_lt (by omega) (by omega)]
    refine ev_succ ?_
    simp only [impl_SplitMoney.l2, if_pos (show ((m + 1 : Nat) : Int) > 0 by omega), if_pos (ge0 done.length), if_pos (lt_pre done y rest), if_neg (show ¬ ((done ++ y :: rest).length : Int) = 0 by omega), rd_pre, set_pre, w64 (x := y + 1) (by omega) (by omega), wsucc (show done.length < 9223372036854775807 by omega), ht,
      show wrap64 (((m + 1 : Nat) : Int) - 1) = (m : Int) by rw [w64 (by omega) (by omega)]; omega]
    refine ev_map (Ev.congr (fun k => ?_) ih) (by simp [bump])
    rw [snoc_len done (y + 1), ← app_pre done (y + 1) rest]
theorem impl_Split_l1 {c : Int} {l : List Int} (hp : partsOk l = true) (hf : splitFits c l.length (isum l) = true) (hl : l.length ≤ 1099511627776) :
    Ev (fun k => impl_SplitMoney.l1 k c [] (isum l) c l (l.length : Int) 0) (splitTail c l) := by
  have hb := isum_bounds l hp
  have hf' := hf
  simp only [splitFits, Bool.and_eq_true, inr_iff, Bool.not_eq_true', decide_eq_false_iff_not] at hf'
  have hleft := floors_left hp hf
  refine ev_range l (fun k (s : List Int × Int) i => impl_SplitMoney.l1 k c s.1 (isum l) s.2 l (l.length : Int) i) (fun _ _ => splitTail c l) (fun p s => s.1 = floors c (isum l) p ∧ s.2 = c - isum (floors c (isum l) p)) (by omega) ?_ ?_ ([], c) (by simp [floors, isum])
  · rintro ⟨o, r⟩ ⟨h1, h2⟩
    simp only at h1 h2
    subst h1 h2
    simp only [impl_SplitMoney.l1, if_neg (Int.lt_irrefl _)]
    obtain ⟨m, hm⟩ : ∃ m : Nat, c - isum (floors c (isum l) l) = (m : Int) := ⟨(c - isum (floors c (isum l) l)).toNat, by omega⟩
    have hml : m < (floors c (isum l) l).length := by
      rw [floors_length]
      omega
    have := impl_Split_l2 m [] (floors c (isum l) l) hml (floors_mem hp hf) (by rw [List.nil_append, floors_length]; omega)
    rw [hm]
    refine ev_map this ?_
    unfold splitTail
    rw [if_pos hf, hm]
    rfl
  · rintro pre x rest ⟨o, r⟩ e hlt hget ⟨h1, h2⟩ ih
    simp only at h1 h2
    subst h1 h2
    have hr : rd l (pre.length : Int) = x := hget 0
    have hx : 0 ≤ x ∧ x ≤ 1000 := by
      have := (List.all_eq_true.1 hp) x (by rw [e]; simp)
      exact (inr_iff _ _ _).1 this
    have hfl := floor_le (c := c) (s := isum l) (p := x) hf'.1.1 hf'.1.2 (by omega) hx.1 hx.2
    have hol : (floors c (isum l) pre).length = pre.length := by simp [floors]
    have hps : isum (floors c (isum l) pre) ≤ c ∧ 0 ≤ isum (floors c (isum l) pre) := by
      have e1 : isum (floors c (isum l) l) = isum (floors c (isum l) pre) + isum (floors c (isum l) (x :: rest)) := by
        rw [e, floors, List.map_append, isum_append]
        simp only [floors]
      have nn : ∀ q : List Int, (∀ y ∈ q, y ∈ l) → 0 ≤ isum (floors c (isum l) q) := by
        intro q
        induction q with
        | nil => intro _; simp [floors, isum]
        | cons z q ih =>
          intro hq
          have hz := (inr_iff _ _ _).1 ((List.all_eq_true.1 hp) z (hq z (by simp)))
          have := floor_le (c := c) (s := isum l) (p := z) hf'.1.1 hf'.1.2 (by omega) hz.1 hz.2
          have := ih (fun y hy => hq y (by simp [hy]))
          simp only [floors, List.map_cons, isum] at this ⊢
          omega
      have n1 := nn (x :: rest) (fun y hy => by rw [e]; exact List.mem_append_right _ hy)
      have n2 := nn pre (fun y hy => by rw [e]; exact List.mem_append_left _ hy)
      omega
    have hlen : l.length = pre.length + (rest.length + 1) := by rw [e, len_pre]
    simp only [impl_SplitMoney.l1, if_pos hlt, if_pos (ge0 pre.length), hr, if_neg (show ¬ isum l = 0 by omega), if_pos (show (floors c (isum l) pre).length < 17592186044416 by omega), floor_wrap hf'.1.1 hf'.1.2 (show 0 < isum l by omega) hx.1 hx.2,
      w64 (x := c - isum (floors c (isum l) pre) - c * x / isum l) (by omega) (by omega)]
    exact ih (_, _) ⟨by simp [floors], by simp [floors, isum_append, isum]; omega⟩
theorem impl_SplitMoney_ev (c : Int) (l : List Int) (hl : l.length ≤ 1099511627776) : Ev (fun k => impl_SplitMoney.f k c l) (splitMoney c l) := by
  have j1 : Ev (fun k => impl_SplitMoney.j0 k c l [] true) [] := by
    refine ev_succ ?_
    simp only [impl_SplitMoney.j0, if_true]
    exact Ev.now _
  have no : splitFits c l.length (isum l) = false → splitMoney c l = [] := fun h => by simp [splitMoney, splitTail, h]
  simp only [impl_SplitMoney.f, impl_InRange_eq, Option.bind_some]
  cases h1 : inr c 0 10000000 with
  | false => exact ev_map j1 (no (by simp [splitFits, h1])).symm
  | true =>
    simp only [if_true]
    cases h2 : inr (l.length : Int) 1 20 with
    | false => exact ev_map j1 (no (by simp [splitFits, h2])).symm
    | true =>
      simp only [Bool.not_true]
      refine ev_succ ?_
      simp only [impl_SplitMoney.j0, Bool.false_eq_true, if_false]
      refine ev_map (ev_range l (fun k s i => impl_SplitMoney.l0 k c l [] s l (l.length : Int) i) (fun _ r => if partsOk r = true then splitTail c l else []) (fun p s => partsOk p = true ∧ s = isum p) (by omega) ?_ ?_ 0 ⟨rfl, rfl⟩) rfl
      · rintro s ⟨hp, rfl⟩
        simp only [impl_SplitMoney.l0, if_neg (Int.lt_irrefl _)]
        by_cases h3 : isum l = 0
        · simp only [if_pos h3]
          exact ev_const (by simp [splitTail, splitFits, h3, partsOk])
        · simp only [if_neg h3]
          exact ev_map (impl_Split_l1 hp (by simp [splitFits, h1, h2, h3]) hl) (by simp [partsOk])
      · rintro pre x rest s e hlt hget ⟨hp, rfl⟩ ih
        have hr : rd l (pre.length : Int) = x := hget 0
        have hb := isum_bounds pre hp
        have hlen : l.length = pre.length + (rest.length + 1) := by rw [e, len_pre]
        simp only [impl_SplitMoney.l0, if_pos hlt, if_pos (ge0 pre.length), hr, impl_InRange_eq, Option.bind_some]
        cases h4 : inr x 0 1000 with
        | false => exact ev_const (by simp [partsOk, h4])
        | true =>
          have hx := (inr_iff _ _ _).1 h4
          simp only [if_true, w64 (x := isum pre + x) (by omega) (by omega)]
          exact ev_map (ih _ ⟨by simp [partsOk, h4] at hp ⊢; exact hp, by simp [isum_append, isum]⟩) (by simp [partsOk, h4])

/-! laws_sum -/
theorem laws_sum_ev (l : List Int) (h : l.length ≤ 1000) (hb : ∀ x ∈ l, 0 ≤ x ∧ x ≤ 100000000000) : Ev (fun k => laws_sum.f k l) (isum l) := by
  refine ev_map (ev_range l (fun k n i => laws_sum.l0 k l n i) (fun n r => n + isum r) (fun p n => 0 ≤ n ∧ n ≤ 100000000000 * (p.length : Int)) (by omega) ?_ ?_ 0 (by simp)) (by simp)
  · intro n _
    simp only [laws_sum.l0, if_neg (Int.lt_irrefl _)]
    exact ev_const (by simp [isum])
  · intro pre x rest n e hlt hget hn ih
    have hr : rd l (pre.length : Int) = x := hget 0
    have hx := hb x (by rw [e]; simp)
    have hlen : l.length = pre.length + (rest.length + 1) := by rw [e, len_pre]
    simp only [laws_sum.l0, if_pos hlt, if_pos (ge0 pre.length), hr, w64 (x := n + x) (by omega) (by omega)]
    exact ev_map (ih _ (by simp; omega)) (by simp [isum]; omega)

/-! spec_DrawSalesOf -/
theorem DrawSalesOf_tot (b : List Int) (hl : b.length ≤ 1048576) : ∃ p f, Ev (fun k => spec_DrawSalesOf.f k b) (p, f) := by
  obtain ⟨h0, e0⟩ := l1New_tot b hl
  obtain ⟨n, i1, h1, e1, _, c1⟩ := l1Int_tot b 0 h0 [0, 1, 9, 10, 11, 12345, 10000000, 10000001] (by decide) (cur0 b hl)
  obtain ⟨m, i2, h2, e2, _, c2⟩ := l1Int_tot b i1 h1 [0, 1, 999, 1000] (by decide) c1
  refine ⟨n, m, ?_⟩
  unfold spec_DrawSalesOf.f
  refine Ev.bind e0 ?_
  simp only [e1, e2, Option.bind_some]
  exact Ev.now _

/-! type_130 -/
theorem rd_T130_pre (pre : List (S130)) (x : S130) (rest : List (S130)) : rd_T130 (pre ++ x :: rest) (pre.length : Int) = x := getD_pre pre x rest z130

/-! salesOf -/
def salesOf (price finder : Int) : List (S130) := if inr price 0 10000000 = true then (if inr finder 1 999 = true then [⟨finder, rd (splitMoney price [1, 9]) 0⟩, ⟨0, rd (splitMoney price [1, 9]) 1⟩] else [⟨0, price⟩]) else []
theorem salesOf_len (p f : Int) : (salesOf p f).length ≤ 2 := by
  unfold salesOf
  split
  · split <;> simp
  · simp
theorem split19 (p : Int) (h : inr p 0 10000000 = true) : (splitMoney p [1, 9]).length = 2 := by
  have h1 : partsOk [1, 9] = true := by decide
  have h2 : splitFits p ([1, 9] : List Int).length (isum [1, 9]) = true := by
    simp only [splitFits, h, Bool.true_and]
    decide
  unfold splitMoney splitTail
  rw [if_pos h1, if_pos h2, bump_length]
  rfl

/-! impl_SalesOf -/
theorem impl_SalesOf_ev (p f : Int) : Ev (fun k => impl_SalesOf.f k p f) (salesOf p f) := by
  simp only [impl_SalesOf.f, impl_InRange_eq, Option.bind_some, salesOf]
  cases h1 : inr p 0 10000000 with
  | false => exact Ev.now _
  | true =>
    cases h2 : inr f 1 999 with
    | false => exact Ev.now _
    | true =>
      simp only [if_true]
      refine Ev.bind (impl_SplitMoney_ev p [1, 9] (by simp)) ?_
      have := split19 p h1
      simp only [if_pos (show (0 : Int) < ((splitMoney p [1, 9]).length : Int) by omega), if_pos (show (1 : Int) < ((splitMoney p [1, 9]).length : Int) by omega)]
      exact Ev.now _

/-! impl_TotalShares -/
theorem impl_TotalShares_ev (l : List (S130)) (h : l.length ≤ 1099511627776) : Ev (fun k => impl_TotalShares.f k l) (l.foldl (fun n x => wrap64 (n + mx 0 (mn x.f1 10000000))) 0) := by
  refine ev_range l (fun k n i => impl_TotalShares.l0 k n l (l.length : Int) i) (fun n r => r.foldl (fun n x => wrap64 (n + mx 0 (mn x.f1 10000000))) n) (fun _ _ => True) (by omega) ?_ ?_ 0 trivial
  · intro n _
    simp only [impl_TotalShares.l0, if_neg (Int.lt_irrefl _)]
    exact Ev.now _
  · intro pre x rest n _ hlt hget _ ih
    have hr : rd_T130 l (pre.length : Int) = x := hget _
    simp only [impl_TotalShares.l0, if_pos hlt, if_pos (ge0 pre.length), hr]
    exact ih _ trivial

/-! spec_l4Draw -/
theorem l4Draw_tot (b : List Int) (i h id : Int) (hc : Cur b i) : ∃ x0 x1 x2 x3 x4 i' h', spec_l4Draw.f b i h id = some (x0, x1, x2, x3, x4, i', h') ∧ Cur b i' := by
  obtain ⟨a1, i1, h1, e1, _, _, c1⟩ := l1Below_tot b i h 8 hc
  obtain ⟨a2, i2, h2, e2, _, _, c2⟩ := l1Below_tot b i1 h1 8 c1
  obtain ⟨a3, i3, h3, e3, _, _, c3⟩ := l1Below_tot b i2 h2 20 c2
  obtain ⟨a4, i4, h4, e4, _, _, c4⟩ := l1Below_tot b i3 h3 500 c3
  unfold spec_l4Draw.f
  simp only [e1, e2, e3, e4, Option.bind_some]
  exact ⟨_, _, _, _, _, _, _, rfl, c4⟩

/-! spec_l4Raw -/
theorem l4Raw_tot (b : List Int) (i h : Int) (hc : Cur b i) : ∃ x i' h', spec_l4Raw.f b i h = some (x, i', h') ∧ Cur b i' := by
  obtain ⟨x, i1, h1, e1, _, c1⟩ := l1Int_tot b i h [(-1), 0, 8, 50, 51, 1000, 9223372036854775807, (-9223372036854775808)] (by decide) hc
  unfold spec_l4Raw.f
  simp only [e1, Option.bind_some]
  exact ⟨_, _, _, rfl, c1⟩

/-! spec_l4Any -/
theorem l4Any_tot (b : List Int) (i h : Int) (hc : Cur b i) : ∃ x0 x1 x2 x3 x4 i' h', spec_l4Any.f b i h = some (x0, x1, x2, x3, x4, i', h') ∧ Cur b i' := by
  obtain ⟨a1, i1, h1, e1, _, _, c1⟩ := l1Below_tot b i h 40 hc
  obtain ⟨x0, x1, x2, x3, x4, i2, h2, e2, c2⟩ := l4Draw_tot b i1 h1 (wrap64 (1 + a1)) c1
  obtain ⟨a3, i3, h3, e3, _, _, c3⟩ := l1Below_tot b i2 h2 14 c2
  unfold spec_l4Any.f
  simp only [e1, e2, e3, Option.bind_some]
  split
  · obtain ⟨y, i4, h4, e4, _, c4⟩ := l1Int_tot b i3 h3 [0, 999, 1000] (by decide) c3
    simp only [e4, Option.bind_some]
    exact ⟨_, _, _, _, _, _, _, rfl, c4⟩
  split
  · obtain ⟨y, i4, h4, e4, _, c4⟩ := l1Int_tot b i3 h3 [0, 8, 9] (by decide) c3
    simp only [e4, Option.bind_some]
    exact ⟨_, _, _, _, _, _, _, rfl, c4⟩
  split
  · obtain ⟨y, i4, h4, e4, _, c4⟩ := l1Int_tot b i3 h3 [(-1), 7, 8] (by decide) c3
    simp only [e4, Option.bind_some]
    exact ⟨_, _, _, _, _, _, _, rfl, c4⟩
  split
  · obtain ⟨y, i4, h4, e4, c4⟩ := l4Raw_tot b i3 h3 c3
    simp only [e4, Option.bind_some]
    exact ⟨_, _, _, _, _, _, _, rfl, c4⟩
  split
  · obtain ⟨y, i4, h4, e4, _, c4⟩ := l1Int_tot b i3 h3 [(-1), 10000000, 10000001] (by decide) c3
    simp only [e4, Option.bind_some]
    exact ⟨_, _, _, _, _, _, _, rfl, c4⟩
  · exact ⟨_, _, _, _, _, _, _, rfl, c3⟩

/-! spec_DrawFeeFor -/
theorem DrawFeeFor_tot (b : List Int) (hl : b.length ≤ 1048576) : ∃ r, Ev (fun k => spec_DrawFeeFor.f k b) r := by
  obtain ⟨h0, e0⟩ := l1New_tot b hl
  obtain ⟨x0, x1, x2, x3, x4, i1, h1, e1, c1⟩ := l4Any_tot b 0 h0 (cur0 b hl)
  obtain ⟨m, i2, h2, e2, _, c2⟩ := l1Int_tot b i1 h1 [0, 1, 10, 90, 1000, 1001, (-1)] (by decide) c1
  refine ⟨(x0, x1, x2, x3, x4, m), ?_⟩
  unfold spec_DrawFeeFor.f
  refine Ev.bind e0 ?_
  simp only [e1, e2, Option.bind_some]
  exact Ev.now _

/-! impl_IsThing -/
theorem impl_IsThing_eq (a b c d e : Int) : impl_IsThing.f a b c d e = some (isThing a b c d e) := by
  simp only [impl_IsThing.f, impl_InRange_eq, Option.bind_some, ite_and, isThing]

/-! impl_FeeFor -/
theorem impl_FeeFor_fit (a b c d e n : Int) : ∃ f, impl_FeeFor.f a b c d e n = some f ∧ 0 ≤ f ∧ (f = 0 ∨ f ≤ e) := by
  simp only [impl_FeeFor.f, impl_IsThing_eq, impl_InRange_eq, Option.bind_some]
  by_cases h1 : isThing a b c d e = true
  · by_cases h2 : inr n 0 1000 = true
    · simp only [h1, h2, if_true]
      have hn := (inr_iff _ _ _).1 h2
      simp only [isThing, Bool.and_eq_true, inr_iff] at h1
      have e1 : Int.tdiv e 10 = e / 10 := Int.tdiv_eq_ediv_of_nonneg (by omega)
      refine ⟨_, rfl, ?_⟩
      rw [w64 (x := 10 * n) (by omega) (by omega), w64 (x := 100 + 10 * n) (by omega) (by omega), e1, w64 (x := e / 10) (by omega) (by omega)]
      unfold mx mn
      constructor
      · split <;> split <;> omega
      · right
        split <;> split <;> omega
    · simp only [h1, h2, if_true]
      exact ⟨0, by simp, by omega, .inl rfl⟩
  · simp only [h1]
    exact ⟨0, by simp, by omega, .inl rfl⟩

/-! spec_DrawRewardFor -/
theorem DrawRewardFor_tot (b : List Int) (hl : b.length ≤ 1048576) : ∃ r, Ev (fun k => spec_DrawRewardFor.f k b) r := by
  obtain ⟨h0, e0⟩ := l1New_tot b hl
  obtain ⟨x0, x1, x2, x3, x4, i1, h1, e1, c1⟩ := l4Any_tot b 0 h0 (cur0 b hl)
  obtain ⟨o, i2, h2, e2, c2⟩ := l1Once_tot b i1 h1 3 c1
  cases o with
  | false =>
    refine ⟨(x0, x1, x2, x3, x4), ?_⟩
    unfold spec_DrawRewardFor.f
    refine Ev.bind e0 ?_
    simp only [e1, e2, Option.bind_some]
    exact Ev.now _
  | true =>
    obtain ⟨y, i3, h3, e3, _, c3⟩ := l1Int_tot b i2 h2 [49999, 50000, 50001, 10000000] (by decide) c2
    refine ⟨(x0, x1, x2, x3, y), ?_⟩
    unfold spec_DrawRewardFor.f
    refine Ev.bind e0 ?_
    simp only [e1, e2, e3, Option.bind_some, if_true]
    exact Ev.now _

/-! impl_RewardFor -/
theorem impl_RewardFor_fit (a b c d e : Int) : ∃ f, impl_RewardFor.f a b c d e = some f ∧ 0 ≤ f ∧ (f = 0 ∨ f ≤ e) := by
  simp only [impl_RewardFor.f, impl_IsThing_eq, Option.bind_some]
  by_cases h1 : isThing a b c d e = true
  · simp only [h1, if_true]
    simp only [isThing, Bool.and_eq_true, inr_iff] at h1
    refine ⟨_, rfl, ?_⟩
    have e1 : 0 ≤ mn e 50000 ∧ mn e 50000 ≤ 50000 ∧ mn e 50000 ≤ e := by unfold mn; split <;> omega
    have e2 : 0 ≤ mx 0 (e - 50000) ∧ mx 0 (e - 50000) ≤ 10000000 ∧ mn e 50000 + mx 0 (e - 50000) = e := by unfold mx mn; split <;> split <;> omega
    rw [w64 (x := e - 50000) (by omega) (by omega), w64 (x := 5 * mn e 50000) (by omega) (by omega), w64 (x := 3 * mx 0 (e - 50000)) (by omega) (by omega), Int.tdiv_eq_ediv_of_nonneg (by omega), Int.tdiv_eq_ediv_of_nonneg (by omega), w64 (x := 5 * mn e 50000 / 100) (by omega) (by omega), w64 (x := 3 * mx 0 (e - 50000) / 100) (by omega) (by omega), w64 (by omega) (by omega)]
    omega
  · simp only [h1]
    exact ⟨0, by simp, by omega, .inl rfl⟩

/-! the law -/
theorem bump_sum : ∀ (m : Nat) (l : List Int), m ≤ l.length → isum (bump m l) = isum l + (m : Int)
  | 0, l, _ => by simp [bump]
  | m + 1, [], h => by simp at h
  | m + 1, x :: l, h => by
    have := bump_sum m l (by simpa using h)
    simp only [bump, isum, this]
    omega
theorem bump_at : ∀ (m : Nat) (l : List Int) (i : Nat), l.getD i 0 ≤ (bump m l).getD i 0 ∧ (bump m l).getD i 0 ≤ l.getD i 0 + 1
  | 0, l, i => by simp [bump]; omega
  | m + 1, [], i => by simp [bump]
  | m + 1, x :: l, 0 => by simp [bump]; omega
  | m + 1, x :: l, i + 1 => by simpa [bump] using bump_at m l i
theorem bump_mem {m : Nat} {l : List Int} {b : Int} (h : ∀ y ∈ l, 0 ≤ y ∧ y ≤ b) : ∀ y ∈ bump m l, 0 ≤ y ∧ y ≤ b + 1 := by
  intro y hy
  obtain ⟨i, hi⟩ := List.getElem?_of_mem hy
  have hil : i < l.length := by
    have := (List.getElem?_eq_some_iff.1 hi).1
    rwa [bump_length] at this
  have h1 := bump_at m l i
  have e1 : (bump m l).getD i 0 = y := by rw [List.getD_eq_getElem?_getD, hi]; rfl
  have e2 : l.getD i 0 = l[i] := by rw [List.getD_eq_getElem?_getD, List.getElem?_eq_getElem hil]; rfl
  have := h l[i] (List.getElem_mem _)
  rw [e1, e2] at h1
  omega
theorem split_cases (n : Int) (l : List Int) : splitMoney n l = [] ∨ (partsOk l = true ∧ splitFits n l.length (isum l) = true ∧ splitMoney n l = bump (n - isum (floors n (isum l) l)).toNat (floors n (isum l) l)) := by
  unfold splitMoney splitTail
  by_cases h1 : partsOk l = true
  · by_cases h2 : splitFits n l.length (isum l) = true
    · exact .inr ⟨h1, h2, by rw [if_pos h1, if_pos h2]⟩
    · exact .inl (by rw [if_pos h1, if_neg h2])
  · exact .inl (by rw [if_neg h1])
theorem split_sum {n : Int} {l : List Int} (h1 : partsOk l = true) (h2 : splitFits n l.length (isum l) = true) (h3 : splitMoney n l = bump (n - isum (floors n (isum l) l)).toNat (floors n (isum l) l)) :
    isum (splitMoney n l) = n ∧ (splitMoney n l).length = l.length ∧ (∀ x ∈ splitMoney n l, 0 ≤ x ∧ x ≤ 100000000000) := by
  have hl := floors_left h1 h2
  rw [h3]
  refine ⟨?_, by rw [bump_length, floors_length], fun x hx => ?_⟩
  · rw [bump_sum _ _ (by rw [floors_length]; omega)]
    omega
  · have := bump_mem (floors_mem h1 h2) x hx
    omega
theorem j2_ev (code : List Int) (hl : code.length ≤ 1048576) : Ev (fun k => laws_FnMoney.j2 k code false) true := by
  obtain ⟨⟨x0, x1, x2, x3, x4, d⟩, e1⟩ := DrawFeeFor_tot code hl
  obtain ⟨⟨y0, y1, y2, y3, y4⟩, e2⟩ := DrawRewardFor_tot code hl
  obtain ⟨f, hf, hf0, hf1⟩ := impl_FeeFor_fit x0 x1 x2 x3 x4 d
  obtain ⟨r, hr, hr0, hr1⟩ := impl_RewardFor_fit y0 y1 y2 y3 y4
  refine ev_succ ?_
  simp only [laws_FnMoney.j2, Bool.false_eq_true, if_false]
  refine Ev.bind e1 ?_
  simp only [hf, Option.bind_some]
  refine Ev.bind e2 ?_
  simp only [hr, Option.bind_some]
  refine ev_const ?_
  rw [if_pos (show f ≥ 0 from hf0), if_pos (show r ≥ 0 from hr0)]
  by_cases h1 : f = 0
  · by_cases h2 : r = 0
    · rw [if_pos h1, if_pos h2]
    · rw [if_pos h1, if_neg h2, decide_eq_true (show r ≤ y4 by omega)]
  · rw [if_neg h1, if_pos (show f ≤ x4 by omega)]
    by_cases h2 : r = 0
    · rw [if_pos h2]
    · rw [if_neg h2, decide_eq_true (show r ≤ y4 by omega)]
theorem sales_ev (code : List Int) (hl : code.length ≤ 1048576) (p f : Int) :
    Ev (fun k => ((impl_SalesOf.f k p f).bind fun t => (if (t.length : Int) > 0 then ((impl_TotalShares.f k t).bind fun u => (if u = p then (if p ≥ 0 then (if p ≤ 10000000 then (if f ≥ 1 then (laws_FnMoney.j2 k code (((t.length : Int) == 2) != (decide (f ≤ 999)))) else (laws_FnMoney.j2 k code (((t.length : Int) == 2) != false))) else (laws_FnMoney.j2 k code (((t.length : Int) == 2) != false))) else (laws_FnMoney.j2 k code (((t.length : Int) == 2) != false))) else (laws_FnMoney.j2 k code true))) else (if p ≥ 0 then (if p ≤ 10000000 then (if f ≥ 1 then (laws_FnMoney.j2 k code (((t.length : Int) == 2) != (decide (f ≤ 999)))) else (laws_FnMoney.j2 k code (((t.length : Int) == 2) != false))) else (laws_FnMoney.j2 k code (((t.length : Int) == 2) != false))) else (laws_FnMoney.j2 k code (((t.length : Int) == 2) != false)))))) true := by
  have hj := j2_ev code hl
  refine Ev.bind (impl_SalesOf_ev p f) ?_
  by_cases h1 : inr p 0 10000000 = true
  · have hp := (inr_iff _ _ _).1 h1
    by_cases h2 : inr f 1 999 = true
    · have hf := (inr_iff _ _ _).1 h2
      have e : salesOf p f = [⟨f, rd (splitMoney p [1, 9]) 0⟩, ⟨0, rd (splitMoney p [1, 9]) 1⟩] := by simp [salesOf, h1, h2]
      have hlen := split19 p h1
      rcases split_cases p [1, 9] with h0 | ⟨a, b, c⟩
      · rw [h0] at hlen
        simp at hlen
      obtain ⟨s1, s2, s3⟩ := split_sum a b c
      obtain ⟨u, v, huv⟩ : ∃ u v, splitMoney p [1, 9] = [u, v] := by
        match hq : splitMoney p [1, 9], hlen with
        | [u, v], _ => exact ⟨u, v, rfl⟩
      rw [huv] at s1 s3
      simp only [isum] at s1
      have hu := s3 u (by simp)
      have hv := s3 v (by simp)
      have e' : salesOf p f = [⟨f, u⟩, ⟨0, v⟩] := by rw [e, huv]; rfl
      rw [e']
      simp only [List.length_cons, List.length_nil]
      rw [show (((0 + 1 + 1 : Nat) : Int)) = 2 from rfl]
      simp only [if_pos (show (2 : Int) > 0 by decide)]
      refine Ev.bind (impl_TotalShares_ev [⟨f, u⟩, ⟨0, v⟩] (by simp)) ?_
      have ht : List.foldl (fun n (x : S130) => wrap64 (n + mx 0 (mn x.f1 10000000))) 0 [⟨f, u⟩, ⟨0, v⟩] = p := by
        simp only [List.foldl_cons, List.foldl_nil]
        have e1 : mx 0 (mn u 10000000) = u := by unfold mx mn; split <;> split <;> omega
        have e2 : mx 0 (mn v 10000000) = v := by unfold mx mn; split <;> split <;> omega
        rw [e1, e2, w64 (x := 0 + u) (by omega) (by omega), w64 (by omega) (by omega)]
        omega
      simp only [ht, if_true, if_pos (show p ≥ 0 from hp.1), if_pos hp.2, if_pos (show f ≥ 1 from hf.1), decide_eq_true hf.2]
      exact hj
    · have e : salesOf p f = [⟨0, p⟩] := by simp [salesOf, h1, h2]
      rw [e]
      simp only [List.length_cons, List.length_nil]
      rw [show (((0 + 1 : Nat) : Int)) = 1 from rfl]
      simp only [if_pos (show (1 : Int) > 0 by decide)]
      refine Ev.bind (impl_TotalShares_ev [⟨0, p⟩] (by simp)) ?_
      have ht : List.foldl (fun n (x : S130) => wrap64 (n + mx 0 (mn x.f1 10000000))) 0 [⟨0, p⟩] = p := by
        simp only [List.foldl_cons, List.foldl_nil]
        have e1 : mx 0 (mn p 10000000) = p := by unfold mx mn; split <;> split <;> omega
        rw [e1, w64 (by omega) (by omega)]
        omega
      simp only [ht, if_true, if_pos (show p ≥ 0 from hp.1), if_pos hp.2]
      by_cases h3 : f ≥ 1
      · have h4 : ¬ f ≤ 999 := fun h => h2 ((inr_iff _ _ _).2 ⟨h3, h⟩)
        simp only [if_pos h3, decide_eq_false h4]
        exact hj
      · simp only [if_neg h3]
        exact hj
  · have e : salesOf p f = [] := by simp [salesOf, h1]
    rw [e]
    simp only [List.length_nil]
    rw [show (((0 : Nat) : Int)) = 0 from rfl]
    simp only [if_neg (show ¬ (0 : Int) > 0 by decide)]
    by_cases h3 : p ≥ 0
    · have h4 : ¬ p ≤ 10000000 := fun h => h1 ((inr_iff _ _ _).2 ⟨h3, h⟩)
      simp only [if_pos h3, if_neg h4]
      exact hj
    · simp only [if_neg h3]
      exact hj
theorem Pf.FnMoney : FnMoneyLaw := by
  intro code hm hq
  refine Ev.rounds ?_
  unfold laws_FnMoney.f
  simp only [laws_big.f, Option.bind_some]
  by_cases hb : (code.length : Int) > 1048576
  · simp only [decide_eq_true hb, if_true]
    exact Ev.now _
  · have hl : code.length ≤ 1048576 := by omega
    simp only [decide_eq_false hb, Bool.false_eq_true, if_false]
    obtain ⟨n, parts, e1, hp⟩ := DrawSplitMoney_tot code hl
    refine Ev.bind e1 ?_
    refine Ev.bind (impl_SplitMoney_ev n parts (by show parts.length ≤ _; omega)) ?_
    have hl0 : ∀ s : List Int, (s = [] ∨ (partsOk parts = true ∧ splitFits n parts.length (isum parts) = true ∧ s = bump (n - isum (floors n (isum parts) parts)).toNat (floors n (isum parts) parts))) → Ev (fun k => laws_FnMoney.l0 k code n parts s 0) true := by
      intro s hs
      refine ev_range s (fun k (_ : Unit) i => laws_FnMoney.l0 k code n parts s i) (fun _ _ => true) (fun _ _ => True) ?_ ?_ ?_ () trivial
      · rcases hs with rfl | ⟨a, b, rfl⟩
        · simp
        · rw [bump_length, floors_length]; omega
      · intro _ _
        simp only [laws_FnMoney.l0, if_neg (Int.lt_irrefl _)]
        obtain ⟨p, f, e2⟩ := DrawSalesOf_tot code hl
        refine Ev.bind e2 ?_
        exact sales_ev code hl p f
      · rintro pre x rest _ es hlt hget _ ih
        have hr : rd s (pre.length : Int) = x := hget 0
        rcases hs with rfl | ⟨a, b, rfl⟩
        · simp at es
        · rw [bump_length, floors_length] at hlt
          have hb := isum_bounds parts a
          have b' := b
          simp only [splitFits, Bool.and_eq_true, inr_iff, Bool.not_eq_true', decide_eq_false_iff_not] at b'
          have hsum : Ev (fun k => laws_sum.f k parts) (isum parts) := laws_sum_ev parts (by omega) (fun x hx => by
            have := (inr_iff _ _ _).1 (List.all_eq_true.1 a x hx)
            omega)
          obtain ⟨y, hy⟩ : ∃ y, parts[pre.length]? = some y := ⟨_, List.getElem?_eq_getElem (by omega)⟩
          have hyr : rd parts (pre.length : Int) = y := by
            unfold rd
            rw [List.getD_eq_getElem?_getD, show ((pre.length : Int)).toNat = pre.length by omega, hy]
            rfl
          have hym := (inr_iff _ _ _).1 (List.all_eq_true.1 a y (List.mem_of_getElem? hy))
          have hfy : (floors n (isum parts) parts).getD pre.length 0 = n * y / isum parts := by
            rw [List.getD_eq_getElem?_getD, floors, List.getElem?_map, hy]
            rfl
          have hat := bump_at (n - isum (floors n (isum parts) parts)).toNat (floors n (isum parts) parts) pre.length
          have hx : (bump (n - isum (floors n (isum parts) parts)).toNat (floors n (isum parts) parts)).getD pre.length 0 = x := by
            have := hget 0
            rwa [show ((pre.length : Int)).toNat = pre.length by omega] at this
          rw [hx, hfy] at hat
          have hfl := floor_le (c := n) (s := isum parts) (p := y) b'.1.1 b'.1.2 (by omega) hym.1 hym.2
          have hs0 : ¬ isum parts = 0 := by omega
          simp only [laws_FnMoney.l0, bump_length, floors_length, if_pos hlt, if_pos (ge0 pre.length), hr, hyr]
          refine Ev.bind hsum ?_
          simp only [if_neg hs0, floor_wrap b'.1.1 b'.1.2 (show 0 < isum parts by omega) hym.1 hym.2, if_neg (show ¬ x < n * y / isum parts by omega)]
          refine Ev.bind hsum ?_
          simp only [if_neg hs0, floor_wrap b'.1.1 b'.1.2 (show 0 < isum parts by omega) hym.1 hym.2, w64 (x := n * y / isum parts + 1) (by omega) (by omega), if_neg (show ¬ x > n * y / isum parts + 1 by omega)]
          exact ih () trivial
    have hj0 : Ev (fun k => laws_FnMoney.j0 k code n parts (splitMoney n parts) false) true := by
      refine ev_succ ?_
      simp only [laws_FnMoney.j0, Bool.false_eq_true, if_false]
      exact hl0 _ (split_cases n parts)
    rcases split_cases n parts with h0 | ⟨a, b, c⟩
    · simp only [h0, List.length_nil]
      rw [h0] at hj0
      rw [show (((0 : Nat) : Int)) = 0 from rfl]
      simp only [if_neg (show ¬ (0 : Int) > 0 by decide)]
      exact hj0
    · obtain ⟨s1, s2, s3⟩ := split_sum a b c
      by_cases hpos : ((splitMoney n parts).length : Int) > 0
      · simp only [if_pos hpos]
        refine Ev.bind (laws_sum_ev _ (by omega) s3) ?_
        simp only [s1, if_true, s2, bne_self_eq_false]
        exact hj0
      · simp only [if_neg hpos]
        exact hj0

end Go.Proofs.Ytbfpdakodcegjaa.PFnMoney
