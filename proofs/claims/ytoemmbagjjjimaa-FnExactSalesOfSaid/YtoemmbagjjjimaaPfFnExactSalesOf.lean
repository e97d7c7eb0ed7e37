/- The plain part of FnExactSalesOf: what the printed functions come to, and that the law's answer is true. No conditions beyond those of the statement. -/
import Derived.Test.YtoemmbagjjjimaaPFnExactSalesOfx
import Derived.Test.YtoemmbagjjjimaaBase
import Derived.Test.YtoemmbagjjjimaaDefFnExactSalesOf
namespace Go.Proofs.Ytoemmbagjjjimaa.PFnExactSalesOf
open Go.RowKit Go.Proofs.YtoemmbagjjjimaaW.PrintWords Go.Proofs.YtoemmbagjjjimaaW.PrintMore Go.Proofs.Ytoemmbagjjjimaa.Base
set_option linter.unusedVariables false
set_option linter.unusedSimpArgs false

/-! type_87 -/
theorem rd_T87_pre (pre : List (S87)) (x : S87) (rest : List (S87)) : rd_T87 (pre ++ x :: rest) (pre.length : Int) = x := getD_pre pre x rest z87

/-! laws_eqShareS -/
theorem laws_eqShareS_loop (rest : List (S87)) : ∀ (pre : List (S87)), (pre ++ rest).length ≤ 1099511627776 → Ev (fun k => laws_eqShareS.l0 k (pre ++ rest) (pre ++ rest) (pre.length : Int)) true := by
  induction rest with
  | nil =>
    intro pre h
    refine ev_succ ?_
    simp only [laws_eqShareS.l0, if_neg (nlt_pre pre)]
    exact Ev.now _
  | cons x rest ih =>
    intro pre h
    have hl := len_pre pre x rest
    refine ev_succ ?_
    simp only [laws_eqShareS.l0, if_pos (lt_pre pre x rest), if_pos (ge0 pre.length), rd_T87_pre, laws_eqShare.f, Option.bind_some, if_true, wsucc (show pre.length < 9223372036854775807 by omega)]
    refine Ev.congr (fun k => ?_) (ih (pre ++ [x]) (by rw [← app_pre]; exact h))
    rw [snoc_len pre x, ← app_pre]
theorem laws_eqShareS_refl (l : List (S87)) (h : l.length ≤ 1099511627776) : Ev (fun k => laws_eqShareS.f k l l) true := by
  have e := laws_eqShareS_loop l [] h
  unfold laws_eqShareS.f
  simp only [if_true]
  exact e

/-! spec_l1In -/
theorem spec_l1In_eq (a b c : Int) : spec_l1In.f a b c = some (inr a b c) := by
  unfold spec_l1In.f inr
  by_cases h : b ≤ a <;> simp [h]

/-! splitMoney -/
def isum : List Int → Int
  | [] => 0
  | x :: l => x + isum l
theorem isum_append (a b : List Int) : isum (a ++ b) = isum a + isum b := by
  induction a with
  | nil => simp [isum]
  | cons x a ih =>
    simp only [List.cons_append, isum, ih]
    omega
def partsOk (l : List Int) : Bool := l.all (fun p => inr p 0 1000)
def floors (c s : Int) (l : List Int) : List Int := l.map (fun p => c * p / s)
theorem floors_length (c s : Int) (l : List Int) : (floors c s l).length = l.length := by simp [floors]
def bump : Nat → List Int → List Int
  | 0, l => l
  | _ + 1, [] => []
  | n + 1, x :: l => (x + 1) :: bump n l
def splitFits (c : Int) (n : Nat) (s : Int) : Bool := inr c 0 10000000 && (inr (n : Int) 1 20 && !decide (s = 0))
def splitTail (c : Int) (l : List Int) : List Int := if splitFits c l.length (isum l) = true then bump (c - isum (floors c (isum l) l)).toNat (floors c (isum l) l) else []
def splitMoney (c : Int) (l : List Int) : List Int := if partsOk l = true then splitTail c l else []
theorem bump_length : ∀ (n : Nat) (l : List Int), (bump n l).length = l.length
  | 0, l => by simp [bump]
  | _ + 1, [] => by simp [bump]
  | n + 1, x :: l => by simp [bump, bump_length n l]
theorem splitMoney_len (c : Int) (l : List Int) : (splitMoney c l).length ≤ l.length := by
  unfold splitMoney splitTail
  split
  · split
    · rw [bump_length]
      simp [floors]
    · simp
  · simp
theorem isum_bounds (l : List Int) (h : partsOk l = true) : 0 ≤ isum l ∧ isum l ≤ 1000 * (l.length : Int) := by
  induction l with
  | nil => simp [isum]
  | cons x l ih =>
    simp only [partsOk, List.all_cons, Bool.and_eq_true, inr_iff] at h
    have := ih h.2
    simp only [isum, List.length_cons]
    omega
/-- The floors' sum: at most c, and less than a cent a part away from it. -/
theorem floors_sum (c s : Int) (hc : 0 ≤ c) (hs : 0 < s) : ∀ l : List Int, isum (floors c s l) * s ≤ c * isum l ∧ c * isum l + (l.length : Int) ≤ isum (floors c s l) * s + (l.length : Int) * s
  | [] => by simp [isum, floors]
  | x :: l => by
    have ih := floors_sum c s hc hs l
    have h1 := Int.ediv_mul_le (c * x) (show s ≠ 0 by omega)
    have h2 := Int.lt_ediv_add_one_mul_self (c * x) hs
    have e1 : (c * x / s + 1) * s = c * x / s * s + s := by rw [Int.add_mul, Int.one_mul]
    have e2 : ((l.length : Int) + 1) * s = (l.length : Int) * s + s := by rw [Int.add_mul, Int.one_mul]
    simp only [floors, List.map_cons, isum, List.length_cons, Int.add_mul, Int.mul_add] at ih ⊢
    push_cast
    rw [e2]
    constructor <;> omega
theorem floors_left {c : Int} {l : List Int} (hp : partsOk l = true) (hf : splitFits c l.length (isum l) = true) : 0 ≤ c - isum (floors c (isum l) l) ∧ c - isum (floors c (isum l) l) < (l.length : Int) := by
  simp only [splitFits, Bool.and_eq_true, inr_iff, Bool.not_eq_true', decide_eq_false_iff_not] at hf
  have hb := isum_bounds l hp
  have hs : 0 < isum l := by omega
  obtain ⟨h1, h2⟩ := floors_sum c (isum l) hf.1.1 hs l
  have h3 : isum (floors c (isum l) l) ≤ c := Int.le_of_mul_le_mul_right h1 hs
  have h4 : c * isum l < (isum (floors c (isum l) l) + (l.length : Int)) * isum l := by
    rw [Int.add_mul]
    omega
  have h5 := Int.lt_of_mul_lt_mul_right h4 (by omega)
  omega
theorem floor_le {c s p : Int} (hc : 0 ≤ c) (h1 : c ≤ 10000000) (hs : 0 < s) (hp : 0 ≤ p) (hp1 : p ≤ 1000) : 0 ≤ c * p / s ∧ c * p / s ≤ 10000000000 ∧ 0 ≤ c * p ∧ c * p ≤ 10000000000 := by
  have h2 : 0 ≤ c * p := Int.mul_nonneg hc hp
  have h3 : c * p ≤ 10000000 * 1000 := Int.mul_le_mul h1 hp1 hp (by omega)
  have h4 : 0 ≤ c * p / s := Int.ediv_nonneg h2 (by omega)
  have h5 : c * p / s ≤ c * p := Int.ediv_le_self _ h2
  omega
theorem floor_wrap {c s p : Int} (hc : 0 ≤ c) (h1 : c ≤ 10000000) (hs : 0 < s) (hp : 0 ≤ p) (hp1 : p ≤ 1000) : wrap64 (Int.tdiv (wrap64 (c * p)) s) = c * p / s := by
  obtain ⟨a, b, d, e⟩ := floor_le hc h1 hs hp hp1
  rw [w64 (x := c * p) (by omega) (by omega), Int.tdiv_eq_ediv_of_nonneg d, w64 (by omega) (by omega)]
theorem floors_mem {c : Int} {l : List Int} (hp : partsOk l = true) (hf : splitFits c l.length (isum l) = true) : ∀ y ∈ floors c (isum l) l, 0 ≤ y ∧ y ≤ 10000000000 := by
  have hb := isum_bounds l hp
  simp only [splitFits, Bool.and_eq_true, inr_iff, Bool.not_eq_true', decide_eq_false_iff_not] at hf
  intro y hy
  simp only [floors, List.mem_map] at hy
  obtain ⟨p, hpm, rfl⟩ := hy
  simp only [partsOk, List.all_eq_true, inr_iff] at hp
  have := hp p hpm
  have := floor_le (c := c) (s := isum l) (p := p) hf.1.1 hf.1.2 (by omega) this.1 this.2
  omega

/-! spec_SplitMoney -/
theorem spec_Split_l2 : ∀ (m : Nat) (done rest : List Int) (n : Int), n = (done.length : Int) + (m : Int) → m ≤ rest.length → (∀ y ∈ rest, 0 ≤ y ∧ y ≤ 10000000000) → (done ++ rest).length ≤ 1099511627776 →
    Ev (fun k => spec_SplitMoney.l2 k (done ++ rest) n (done.length : Int)) (done ++ bump m rest)
  | 0, done, rest, n, hn, _, _, _ => by
    refine ev_succ ?_
    simp only [spec_SplitMoney.l2, if_neg (show ¬ (done.length : Int) < n by omega)]
    exact ev_const (by simp [bump])
  | m + 1, done, [], n, hn, hm, _, _ => by simp at hm
  | m + 1, done, y :: rest, n, hn, hm, hy, hl => by
    have hy0 := hy y (by simp)
    have hlen := len_pre done y rest
    have ih := spec_Split_l2 m (done ++ [y + 1]) rest n (by rw [hn]; simp; omega) (by simp at hm; omega) (fun z hz => hy z (by simp [hz])) (by rw [← app_pre, len_pre]; omega)
    refine ev_succ ?_
    simp only [spec_SplitMoney.l2, if_pos (show (done.length : Int) < n by omega), if_pos (ge0 done.length), if_pos (lt_pre done y rest), rd_pre, set_pre, w64 (x := y + 1) (by omega) (by omega), wsucc (show done.length < 9223372036854775807 by omega)]
    refine ev_map (Ev.congr (fun k => ?_) ih) (by simp [bump])
    rw [snoc_len done (y + 1), ← app_pre done (y + 1) rest]
theorem spec_Split_l1 {c : Int} {l : List Int} (hp : partsOk l = true) (hf : splitFits c l.length (isum l) = true) (hl : l.length ≤ 1099511627776) :
    Ev (fun k => spec_SplitMoney.l1 k c l [] (isum l) c 0) (splitTail c l) := by
  have hb := isum_bounds l hp
  have hf' := hf
  simp only [splitFits, Bool.and_eq_true, inr_iff, Bool.not_eq_true', decide_eq_false_iff_not] at hf'
  have hleft := floors_left hp hf
  refine ev_range l (fun k (s : List Int × Int) i => spec_SplitMoney.l1 k c l s.1 (isum l) s.2 i) (fun _ _ => splitTail c l) (fun p s => s.1 = floors c (isum l) p ∧ s.2 = c - isum (floors c (isum l) p)) (by omega) ?_ ?_ ([], c) (by simp [floors, isum])
  · rintro ⟨o, r⟩ ⟨h1, h2⟩
    simp only at h1 h2
    subst h1 h2
    simp only [spec_SplitMoney.l1, if_neg (Int.lt_irrefl _)]
    refine ev_map (spec_Split_l2 (c - isum (floors c (isum l) l)).toNat [] (floors c (isum l) l) _ (by simp; omega) (by rw [floors_length]; omega) (floors_mem hp hf) (by rw [List.nil_append, floors_length]; omega)) ?_
    unfold splitTail
    rw [if_pos hf]
    rfl
  · rintro pre x rest ⟨o, r⟩ e hlt hget ⟨h1, h2⟩ ih
    simp only at h1 h2
    subst h1 h2
    have hr : rd l (pre.length : Int) = x := hget 0
    have hx : 0 ≤ x ∧ x ≤ 1000 := by
      have := (List.all_eq_true.1 hp) x (by rw [e]; simp)
      exact (inr_iff _ _ _).1 this
    have hfl := floor_le (c := c) (s := isum l) (p := x) hf'.1.1 hf'.1.2 (by omega) hx.1 hx.2
    have hol : (floors c (isum l) pre).length = pre.length := by simp [floors]
    have hps : isum (floors c (isum l) pre) ≤ c ∧ 0 ≤ isum (floors c (isum l) pre) := by
      have e1 : isum (floors c (isum l) l) = isum (floors c (isum l) pre) + isum (floors c (isum l) (x :: rest)) := by
        rw [e, floors, List.map_append, isum_append]
        simp only [floors]
      have nn : ∀ q : List Int, (∀ y ∈ q, y ∈ l) → 0 ≤ isum (floors c (isum l) q) := by
        intro q
        induction q with
        | nil => intro _; simp [floors, isum]
        | cons z q ih =>
          intro hq
          have hz := (inr_iff _ _ _).1 ((List.all_eq_true.1 hp) z (hq z (by simp)))
          have := floor_le (c := c) (s := isum l) (p := z) hf'.1.1 hf'.1.2 (by omega) hz.1 hz.2
          have := ih (fun y hy => hq y (by simp [hy]))
          simp only [floors, List.map_cons, isum] at this ⊢
          omega
      have n1 := nn (x :: rest) (fun y hy => by rw [e]; exact List.mem_append_right _ hy)
      have n2 := nn pre (fun y hy => by rw [e]; exact List.mem_append_left _ hy)
      omega
    have hlen : l.length = pre.length + (rest.length + 1) := by rw [e, len_pre]
    have hrd : rd (floors c (isum l) pre ++ [c * x / isum l]) (pre.length : Int) = c * x / isum l := by
      rw [← hol]
      exact rd_pre _ _ []
    simp only [spec_SplitMoney.l1, if_pos hlt, if_pos (ge0 pre.length), hr, if_neg (show ¬ isum l = 0 by omega), if_pos (show (floors c (isum l) pre).length < 17592186044416 by omega), floor_wrap hf'.1.1 hf'.1.2 (show 0 < isum l by omega) hx.1 hx.2, Option.bind_some,
      if_pos (show (pre.length : Int) < ((floors c (isum l) pre ++ [c * x / isum l]).length : Int) by rw [List.length_append, List.length_singleton]; omega), hrd, w64 (x := c - isum (floors c (isum l) pre) - c * x / isum l) (by omega) (by omega)]
    exact ih (_, _) ⟨by simp [floors], by simp [floors, isum_append, isum]; omega⟩
theorem spec_SplitMoney_ev (c : Int) (l : List Int) (hl : l.length ≤ 1099511627776) : Ev (fun k => spec_SplitMoney.f k c l) (splitMoney c l) := by
  refine ev_map (ev_range l (fun k s i => spec_SplitMoney.l0 k c l [] s i) (fun _ r => if partsOk r = true then splitTail c l else []) (fun p s => partsOk p = true ∧ s = isum p) (by omega) ?_ ?_ 0 ⟨rfl, rfl⟩) ?_
  · rintro s ⟨hp, rfl⟩
    simp only [spec_SplitMoney.l0, if_neg (Int.lt_irrefl _), spec_l1In_eq, Option.bind_some]
    have j1 : Ev (fun k => spec_SplitMoney.j1 k c l [] (isum l) true) [] := by
      refine ev_succ ?_
      simp only [spec_SplitMoney.j1, if_true]
      exact Ev.now _
    have no : splitFits c l.length (isum l) = false → (if partsOk [] = true then splitTail c l else []) = [] := fun h => by simp [splitTail, h]
    cases h1 : inr c 0 10000000 with
    | false => exact ev_map j1 (no (by simp [splitFits, h1])).symm
    | true =>
      cases h2 : inr (l.length : Int) 1 20 with
      | false => exact ev_map j1 (no (by simp [splitFits, h2])).symm
      | true =>
        simp only [if_true]
        by_cases h3 : isum l = 0
        · simp only [h3, beq_self_eq_true]
          rw [h3] at j1
          exact ev_map j1 (no (by simp [splitFits, h3])).symm
        · have hf : splitFits c l.length (isum l) = true := by simp [splitFits, h1, h2, h3]
          simp only [show (isum l == 0) = false from beq_eq_false_iff_ne.2 h3]
          refine ev_succ ?_
          simp only [spec_SplitMoney.j1, Bool.false_eq_true, if_false]
          exact ev_map (spec_Split_l1 hp hf hl) (by simp [partsOk])
  · rintro pre x rest s e hlt hget ⟨hp, rfl⟩ ih
    have hr : rd l (pre.length : Int) = x := hget 0
    have hb := isum_bounds pre hp
    have hlen : l.length = pre.length + (rest.length + 1) := by rw [e, len_pre]
    simp only [spec_SplitMoney.l0, if_pos hlt, if_pos (ge0 pre.length), hr, spec_l1In_eq, Option.bind_some]
    cases h1 : inr x 0 1000 with
    | false => exact ev_const (by simp [partsOk, h1])
    | true =>
      have hx := (inr_iff _ _ _).1 h1
      simp only [if_true, w64 (x := isum pre + x) (by omega) (by omega)]
      exact ev_map (ih _ ⟨by simp [partsOk, h1] at hp ⊢; exact hp, by simp [isum_append, isum]⟩) (by simp [partsOk, h1])
  · rfl

/-! salesOf -/
def salesOf (price finder : Int) : List (S87) := if inr price 0 10000000 = true then (if inr finder 1 999 = true then [⟨finder, rd (splitMoney price [1, 9]) 0⟩, ⟨0, rd (splitMoney price [1, 9]) 1⟩] else [⟨0, price⟩]) else []
theorem salesOf_len (p f : Int) : (salesOf p f).length ≤ 2 := by
  unfold salesOf
  split
  · split <;> simp
  · simp
theorem split19 (p : Int) (h : inr p 0 10000000 = true) : (splitMoney p [1, 9]).length = 2 := by
  have h1 : partsOk [1, 9] = true := by decide
  have h2 : splitFits p ([1, 9] : List Int).length (isum [1, 9]) = true := by
    simp only [splitFits, h, Bool.true_and]
    decide
  unfold splitMoney splitTail
  rw [if_pos h1, if_pos h2, bump_length]
  rfl

/-! spec_SalesOf -/
theorem spec_SalesOf_ev (p f : Int) : Ev (fun k => spec_SalesOf.f k p f) (salesOf p f) := by
  simp only [spec_SalesOf.f, spec_l1In_eq, Option.bind_some, salesOf]
  cases h1 : inr p 0 10000000 with
  | false => exact Ev.now _
  | true =>
    cases h2 : inr f 1 999 with
    | false => exact Ev.now _
    | true =>
      simp only [if_true]
      refine Ev.bind (spec_SplitMoney_ev p [1, 9] (by simp)) ?_
      have := split19 p h1
      simp only [if_pos (show (0 : Int) < ((splitMoney p [1, 9]).length : Int) by omega), if_pos (show (1 : Int) < ((splitMoney p [1, 9]).length : Int) by omega)]
      exact Ev.now _

/-! impl_InRange -/
theorem impl_InRange_eq (a b c : Int) : impl_InRange.f a b c = some (inr a b c) := by
  unfold impl_InRange.f inr
  by_cases h : b ≤ a <;> simp [h]

/-! impl_SplitMoney -/
theorem impl_Split_l2 : ∀ (m : Nat) (done rest : List Int), m < rest.length → (∀ y ∈ rest, 0 ≤ y ∧ y ≤ 10000000000) → (done ++ rest).length ≤ 1099511627776 →
    Ev (fun k => impl_SplitMoney.l2 k (done ++ rest) (m : Int) (done.length : Int)) (done ++ bump m rest)
  | 0, done, rest, _, _, _ => by
    refine ev_succ ?_
    simp only [impl_SplitMoney.l2, if_neg (show ¬ ((0 : Nat) : Int) > 0 by omega)]
    exact ev_const (by simp [bump])
  | m + 1, done, [], hm, _, _ => by simp at hm
  | m + 1, done, y :: rest, hm, hy, hl => by
    have hy0 := hy y (by simp)
    have hlen := len_pre done y rest
    have hm' : m < rest.length := by simpa using hm
    have ih := impl_Split_l2 m (done ++ [y + 1]) rest hm' (fun z hz => hy z (by simp [hz])) (by rw [← app_pre, len_pre]; omega)
    have ht : Int.tmod ((done.length + 1 : Nat) : Int) ((done ++ y :: rest).length : Int) = ((done.length + 1 : Nat) : Int) := by
      rw [Int.tmod_eq_of_lt (by omega) (by omega)]
    refine ev_succ ?_
    simp only [impl_SplitMoney.l2, if_pos (show ((m + 1 : Nat) : Int) > 0 by omega), if_pos (ge0 done.length), if_pos (lt_pre done y rest), if_neg (show ¬ ((done ++ y :: rest).length : Int) = 0 by omega), rd_pre, set_pre, w64 (x := y + 1) (by omega) (by omega), wsucc (show done.length < 9223372036854775807 by omega), ht,
      show wrap64 (((m + 1 : Nat) : Int) - 1) = (m : Int) by rw [w64 (by omega) (by omega)]; omega]
    refine ev_map (Ev.congr (fun k => ?_) ih) (by simp [bump])
    rw [snoc_len done (y + 1), ← app_pre done (y + 1) rest]
theorem impl_Split_l1 {c : Int} {l : List Int} (hp : partsOk l = true) (hf : splitFits c l.length (isum l) = true) (hl : l.length ≤ 1099511627776) :
    Ev (fun k => impl_SplitMoney.l1 k c [] (isum l) c l (l.length : Int) 0) (splitTail c l) := by
  have hb := isum_bounds l hp
  have hf' := hf
  simp only [splitFits, Bool.and_eq_true, inr_iff, Bool.not_eq_true', decide_eq_false_iff_not] at hf'
  have hleft := floors_left hp hf
  refine ev_range l (fun k (s : List Int × Int) i => impl_SplitMoney.l1 k c s.1 (isum l) s.2 l (l.length : Int) i) (fun _ _ => splitTail c l) (fun p s => s.1 = floors c (isum l) p ∧ s.2 = c - isum (floors c (isum l) p)) (by omega) ?_ ?_ ([], c) (by simp [floors, isum])
  · rintro ⟨o, r⟩ ⟨h1, h2⟩
    simp only at h1 h2
    subst h1 h2
    simp only [impl_SplitMoney.l1, if_neg (Int.lt_irrefl _)]
    obtain ⟨m, hm⟩ : ∃ m : Nat, c - isum (floors c (isum l) l) = (m : Int) := ⟨(c - isum (floors c (isum l) l)).toNat, by omega⟩
    have hml : m < (floors c (isum l) l).length := by
      rw [floors_length]
      omega
    have := impl_Split_l2 m [] (floors c (isum l) l) hml (floors_mem hp hf) (by rw [List.nil_append, floors_length]; omega)
    rw [hm]
    refine ev_map this ?_
    unfold splitTail
    rw [if_pos hf, hm]
    rfl
  · rintro pre x rest ⟨o, r⟩ e hlt hget ⟨h1, h2⟩ ih
    simp only at h1 h2
    subst h1 h2
    have hr : rd l (pre.length : Int) = x := hget 0
    have hx : 0 ≤ x ∧ x ≤ 1000 := by
      have := (List.all_eq_true.1 hp) x (by rw [e]; simp)
      exact (inr_iff _ _ _).1 this
    have hfl := floor_le (c := c) (s := isum l) (p := x) hf'.1.1 hf'.1.2 (by omega) hx.1 hx.2
    have hol : (floors c (isum l) pre).length = pre.length := by simp [floors]
    have hps : isum (floors c (isum l) pre) ≤ c ∧ 0 ≤ isum (floors c (isum l) pre) := by
      have e1 : isum (floors c (isum l) l) = isum (floors c (isum l) pre) + isum (floors c (isum l) (x :: rest)) := by
        rw [e, floors, List.map_append, isum_append]
        simp only [floors]
      have nn : ∀ q : List Int, (∀ y ∈ q, y ∈ l) → 0 ≤ isum (floors c (isum l) q) := by
        intro q
        induction q with
        | nil => intro _; simp [floors, isum]
        | cons z q ih =>
          intro hq
          have hz := (inr_iff _ _ _).1 ((List.all_eq_true.1 hp) z (hq z (by simp)))
          have := floor_le (c := c) (s := isum l) (p := z) hf'.1.1 hf'.1.2 (by omega) hz.1 hz.2
          have := ih (fun y hy => hq y (by simp [hy]))
          simp only [floors, List.map_cons, isum] at this ⊢
          omega
      have n1 := nn (x :: rest) (fun y hy => by rw [e]; exact List.mem_append_right _ hy)
      have n2 := nn pre (fun y hy => by rw [e]; exact List.mem_append_left _ hy)
      omega
    have hlen : l.length = pre.length + (rest.length + 1) := by rw [e, len_pre]
    simp only [impl_SplitMoney.l1, if_pos hlt, if_pos (ge0 pre.length), hr, if_neg (show ¬ isum l = 0 by omega), if_pos (show (floors c (isum l) pre).length < 17592186044416 by omega), floor_wrap hf'.1.1 hf'.1.2 (show 0 < isum l by omega) hx.1 hx.2,
      w64 (x := c - isum (floors c (isum l) pre) - c * x / isum l) (by omega) (by omega)]
    exact ih (_, _) ⟨by simp [floors], by simp [floors, isum_append, isum]; omega⟩
theorem impl_SplitMoney_ev (c : Int) (l : List Int) (hl : l.length ≤ 1099511627776) : Ev (fun k => impl_SplitMoney.f k c l) (splitMoney c l) := by
  have j1 : Ev (fun k => impl_SplitMoney.j0 k c l [] true) [] := by
    refine ev_succ ?_
    simp only [impl_SplitMoney.j0, if_true]
    exact Ev.now _
  have no : splitFits c l.length (isum l) = false → splitMoney c l = [] := fun h => by simp [splitMoney, splitTail, h]
  simp only [impl_SplitMoney.f, impl_InRange_eq, Option.bind_some]
  cases h1 : inr c 0 10000000 with
  | false => exact ev_map j1 (no (by simp [splitFits, h1])).symm
  | true =>
    simp only [if_true]
    cases h2 : inr (l.length : Int) 1 20 with
    | false => exact ev_map j1 (no (by simp [splitFits, h2])).symm
    | true =>
      simp only [Bool.not_true]
      refine ev_succ ?_
      simp only [impl_SplitMoney.j0, Bool.false_eq_true, if_false]
      refine ev_map (ev_range l (fun k s i => impl_SplitMoney.l0 k c l [] s l (l.length : Int) i) (fun _ r => if partsOk r = true then splitTail c l else []) (fun p s => partsOk p = true ∧ s = isum p) (by omega) ?_ ?_ 0 ⟨rfl, rfl⟩) rfl
      · rintro s ⟨hp, rfl⟩
        simp only [impl_SplitMoney.l0, if_neg (Int.lt_irrefl _)]
        by_cases h3 : isum l = 0
        · simp only [if_pos h3]
          exact ev_const (by simp [splitTail, splitFits, h3, partsOk])
        · simp only [if_neg h3]
          exact ev_map (impl_Split_l1 hp (by simp [splitFits, h1, h2, h3]) hl) (by simp [partsOk])
      · rintro pre x rest s e hlt hget ⟨hp, rfl⟩ ih
        have hr : rd l (pre.length : Int) = x := hget 0
        have hb := isum_bounds pre hp
        have hlen : l.length = pre.length + (rest.length + 1) := by rw [e, len_pre]
        simp only [impl_SplitMoney.l0, if_pos hlt, if_pos (ge0 pre.length), hr, impl_InRange_eq, Option.bind_some]
        cases h4 : inr x 0 1000 with
        | false => exact ev_const (by simp [partsOk, h4])
        | true =>
          have hx := (inr_iff _ _ _).1 h4
          simp only [if_true, w64 (x := isum pre + x) (by omega) (by omega)]
          exact ev_map (ih _ ⟨by simp [partsOk, h4] at hp ⊢; exact hp, by simp [isum_append, isum]⟩) (by simp [partsOk, h4])

/-! impl_SalesOf -/
theorem impl_SalesOf_ev (p f : Int) : Ev (fun k => impl_SalesOf.f k p f) (salesOf p f) := by
  simp only [impl_SalesOf.f, impl_InRange_eq, Option.bind_some, salesOf]
  cases h1 : inr p 0 10000000 with
  | false => exact Ev.now _
  | true =>
    cases h2 : inr f 1 999 with
    | false => exact Ev.now _
    | true =>
      simp only [if_true]
      refine Ev.bind (impl_SplitMoney_ev p [1, 9] (by simp)) ?_
      have := split19 p h1
      simp only [if_pos (show (0 : Int) < ((splitMoney p [1, 9]).length : Int) by omega), if_pos (show (1 : Int) < ((splitMoney p [1, 9]).length : Int) by omega)]
      exact Ev.now _

/-! marked_Share -/
def markedShare : List (S87) → Int → List (S87)
  | [], _ => []
  | _ :: l, a => ⟨a, a + 1⟩ :: markedShare l (a + 2)
theorem markedShare_length (l : List (S87)) : ∀ a, (markedShare l a).length = l.length := by
  induction l with
  | nil => intro a; rfl
  | cons x l ih => intro a; simp [markedShare, ih]
-- Share

/-! laws_markShareS -/
theorem laws_markShareS_loop (rest : List (S87)) : ∀ (pre : List (S87)) (a : Int), 0 ≤ a → a + 2 * (rest.length : Int) ≤ 9223372036854775000 → (pre ++ rest).length ≤ 1099511627776 → Ev (fun k => laws_markShareS.l0 k (pre ++ rest) a (pre.length : Int)) (a + 2 * (rest.length : Int), pre ++ markedShare rest a) := by
  induction rest with
  | nil =>
    intro pre a h0 h1 h
    refine ev_succ ?_
    simp only [laws_markShareS.l0, if_neg (nlt_pre pre)]
    exact ev_const (by simp [markedShare])
  | cons x rest ih =>
    intro pre a h0 h1 h
    have hl := len_pre pre x rest
    rw [List.length_cons] at h1
    refine ev_succ ?_
    simp only [laws_markShareS.l0, if_pos (lt_pre pre x rest), if_pos (ge0 pre.length), rd_T87_pre, set_pre, Option.bind_some, wsucc (show pre.length < 9223372036854775807 by omega), w64 (x := a + 1) (by omega) (by omega), w64 (x := a + 2) (by omega) (by omega), show a + 1 + 1 = a + 2 by omega]
    refine Ev.congr (fun k => ?_) (ev_map (ih (pre ++ [⟨a, a + 1⟩]) (a + 2) (by omega) (by omega) (by rw [← app_pre, len_pre]; omega)) ?_)
    · rw [← app_pre, List.length_append, List.length_singleton]
    · simp only [markedShare, List.length_cons, List.append_assoc, List.singleton_append, Prod.mk.injEq, and_true]
      omega
theorem laws_markShareS_ev (l : List (S87)) (a : Int) (h0 : 0 ≤ a) (h1 : a ≤ 1099511627776) (h : l.length ≤ 1099511627776) : Ev (fun k => laws_markShareS.f k l a) (a + 2 * (l.length : Int), markedShare l a) := laws_markShareS_loop l [] a h0 (by omega) h

/-! laws_heldShareS -/
theorem laws_heldShareS_loop (rest : List (S87)) : ∀ (pre : List (S87)) (a : Int), 0 ≤ a → a + 2 * (rest.length : Int) ≤ 9223372036854775000 → (pre ++ rest).length ≤ 1099511627776 → Ev (fun k => laws_heldShareS.l0 k (pre ++ markedShare rest a) a (pre.length : Int)) (a + 2 * (rest.length : Int)) := by
  induction rest with
  | nil =>
    intro pre a h0 h1 h
    refine ev_succ ?_
    show Ev (fun k => laws_heldShareS.l0 (k + 1) (pre ++ []) a (pre.length : Int)) _
    simp only [laws_heldShareS.l0, if_neg (nlt_pre pre)]
    exact ev_const (by simp)
  | cons x rest ih =>
    intro pre a h0 h1 h
    have hl := len_pre pre x rest
    rw [List.length_cons] at h1
    refine ev_succ ?_
    show Ev (fun k => laws_heldShareS.l0 (k + 1) (pre ++ (⟨a, a + 1⟩ : S87) :: markedShare rest (a + 2)) a (pre.length : Int)) _
    simp only [laws_heldShareS.l0, if_pos (lt_pre _ _ _), if_pos (ge0 pre.length), rd_T87_pre, wsucc (show pre.length < 9223372036854775807 by omega), w64 (x := a + 1) (by omega) (by omega), w64 (x := a + 2) (by omega) (by omega), show a + 1 + 1 = a + 2 by omega, if_true]
    refine Ev.congr (fun k => ?_) (ev_map (ih (pre ++ [⟨a, a + 1⟩]) (a + 2) (by omega) (by omega) (by rw [← app_pre, len_pre]; omega)) ?_)
    · rw [← app_pre, List.length_append, List.length_singleton]
    · rw [List.length_cons]
      omega
theorem laws_heldShareS_ev (l : List (S87)) (a : Int) (h0 : 0 ≤ a) (h1 : a ≤ 1099511627776) (h : l.length ≤ 1099511627776) : Ev (fun k => laws_heldShareS.f k (markedShare l a) a) (a + 2 * (l.length : Int)) := laws_heldShareS_loop l [] a h0 (by omega) h

/-! the law -/
theorem Pf.FnExactSalesOf : FnExactSalesOfLaw := by
  intro a0 a1 hq0 hq1
  refine Ev.rounds ?_
  unfold laws_FnExactSalesOf.f
  have hR0 : (salesOf a0 a1).length ≤ 1099511627776 := Nat.le_trans (salesOf_len _ _) (by omega)
  have hr0 : ¬ ((1 : Int) + 2 * ((salesOf a0 a1).length : Int) < 0) := by omega
  repeat' first
    | exact Ev.now _
    | refine Ev.bind (spec_SalesOf_ev _ _) ?_
    | refine Ev.bind (impl_SalesOf_ev _ _) ?_
    | refine Ev.bind (laws_eqShareS_refl _ (by omega)) ?_
    | refine Ev.bind (laws_markShareS_ev _ _ (by omega) (by omega) (by omega)) ?_
    | refine Ev.bind (laws_heldShareS_ev _ _ (by omega) (by omega) (by omega)) ?_
    | simp only [if_true, if_false, Bool.not_true, Bool.not_false, bne_self_eq_false, Bool.false_eq_true, Option.bind_some, if_neg hr0]
    | (refine ev_succ ?_; simp only [laws_FnExactSalesOf.j0])

end Go.Proofs.Ytoemmbagjjjimaa.PFnExactSalesOf
