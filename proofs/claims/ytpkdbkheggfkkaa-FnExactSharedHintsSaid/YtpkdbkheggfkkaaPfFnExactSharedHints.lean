/- The plain part of FnExactSharedHints: what the printed functions come to, and that the law's answer is true. No conditions beyond those of the statement. -/
import Derived.Test.YtpkdbkheggfkkaaPFnExactSharedHintsx
import Derived.Test.YtpkdbkheggfkkaaBase
import Derived.Test.YtpkdbkheggfkkaaDefFnExactSharedHints
namespace Go.Proofs.Ytpkdbkheggfkkaa.PFnExactSharedHints
open Go.RowKit Go.Proofs.YtpkdbkheggfkkaaW.PrintWords Go.Proofs.YtpkdbkheggfkkaaW.PrintMore Go.Proofs.Ytpkdbkheggfkkaa.Base
set_option linter.unusedVariables false
set_option linter.unusedSimpArgs false

/-! laws_eqIntS -/
theorem laws_eqIntS_loop (rest : List Int) : ∀ (pre : List Int), (pre ++ rest).length ≤ 1099511627776 → Ev (fun k => laws_eqIntS.l0 k (pre ++ rest) (pre ++ rest) (pre.length : Int)) true := by
  induction rest with
  | nil =>
    intro pre h
    refine ev_succ ?_
    simp only [laws_eqIntS.l0, if_neg (nlt_pre pre)]
    exact Ev.now _
  | cons x rest ih =>
    intro pre h
    have hl := len_pre pre x rest
    refine ev_succ ?_
    simp only [laws_eqIntS.l0, if_pos (lt_pre pre x rest), if_pos (ge0 pre.length), rd_pre, Option.bind_some, if_true, wsucc (show pre.length < 9223372036854775807 by omega)]
    refine Ev.congr (fun k => ?_) (ih (pre ++ [x]) (by rw [← app_pre]; exact h))
    rw [snoc_len pre x, ← app_pre]
theorem laws_eqIntS_refl (l : List Int) (h : l.length ≤ 1099511627776) : Ev (fun k => laws_eqIntS.f k l l) true := by
  have e := laws_eqIntS_loop l [] h
  unfold laws_eqIntS.f
  simp only [if_true]
  exact e

/-! has -/
def has (l : List Int) (n : Int) : Bool := l.any (fun y => decide (y = n))
theorem has_iff (l : List Int) (n : Int) : has l n = true ↔ n ∈ l := by
  unfold has
  rw [List.any_eq_true]
  constructor
  · rintro ⟨x, hx, h⟩
    rw [← of_decide_eq_true h]
    exact hx
  · intro h
    exact ⟨n, h, decide_eq_true rfl⟩

/-! spec_l8Has -/
theorem spec_l8Has_ev (l : List Int) (n : Int) (h : l.length ≤ 1099511627776) : Ev (fun k => spec_l8Has.f k l n) (has l n) := by
  refine ev_range l (fun k (_ : Unit) i => spec_l8Has.l0 k l n i) (fun _ r => has r n) (fun _ _ => True) (by omega) ?_ ?_ () trivial
  · intro _ _
    simp only [spec_l8Has.l0, if_neg (Int.lt_irrefl _)]
    exact Ev.now _
  · intro pre x rest _ _ hlt hget _ ih
    have hr : rd l (pre.length : Int) = x := hget 0
    simp only [spec_l8Has.l0, if_pos hlt, if_pos (ge0 pre.length), hr]
    by_cases h2 : x = n
    · simp only [if_pos h2]
      exact ev_const (by simp [has, h2])
    · simp only [if_neg h2]
      exact ev_map (ih () trivial) (by simp [has, h2])

/-! put -/
/-- x goes into an ascending list, once. -/
def put (n : Int) : List Int → List Int
  | [] => [n]
  | x :: l => if x < n then x :: put n l else if x = n then x :: l else n :: x :: l
def asc (l : List Int) : Prop := l.Pairwise (fun a b => a < b)
theorem put_len (n : Int) : ∀ l : List Int, (put n l).length ≤ l.length + 1
  | [] => by simp [put]
  | x :: l => by
    have := put_len n l
    unfold put
    split
    · simp only [List.length_cons]; omega
    split
    · simp
    · simp
theorem mem_put (n z : Int) : ∀ l : List Int, z ∈ put n l ↔ z = n ∨ z ∈ l
  | [] => by simp [put]
  | x :: l => by
    have ih := mem_put n z l
    unfold put
    split
    · simp only [List.mem_cons, ih]
      constructor
      · rintro (h | h | h)
        · exact .inr (.inl h)
        · exact .inl h
        · exact .inr (.inr h)
      · rintro (h | h | h)
        · exact .inr (.inl h)
        · exact .inl h
        · exact .inr (.inr h)
    split
    · rename_i h
      subst h
      simp only [List.mem_cons]
      constructor
      · exact .inr
      · rintro (h | h | h)
        · exact .inl h
        · exact .inl h
        · exact .inr h
    · simp only [List.mem_cons]
theorem put_asc (n : Int) : ∀ l : List Int, asc l → asc (put n l)
  | [], _ => by simp [put, asc]
  | x :: l, h => by
    obtain ⟨h1, h2⟩ := List.pairwise_cons.1 h
    have ih := put_asc n l h2
    unfold put
    split
    · rename_i hx
      refine List.pairwise_cons.2 ⟨fun z hz => ?_, ih⟩
      rcases (mem_put n z l).1 hz with rfl | hz
      · exact hx
      · exact h1 z hz
    split
    · exact h
    · rename_i hx hn
      refine List.pairwise_cons.2 ⟨fun z hz => ?_, h⟩
      rcases List.mem_cons.1 hz with rfl | hz
      · omega
      · have := h1 z hz
        omega
theorem asc_ext : ∀ (l l' : List Int), asc l → asc l' → (∀ z, z ∈ l ↔ z ∈ l') → l = l'
  | [], [], _, _, _ => rfl
  | [], y :: l', _, _, h => by
    have := (h y).2 (by simp)
    simp at this
  | x :: l, [], _, _, h => by
    have := (h x).1 (by simp)
    simp at this
  | x :: l, y :: l', h1, h2, h => by
    obtain ⟨a1, a2⟩ := List.pairwise_cons.1 h1
    obtain ⟨b1, b2⟩ := List.pairwise_cons.1 h2
    have e : x = y := by
      rcases List.mem_cons.1 ((h x).1 (by simp)) with e | e
      · exact e
      rcases List.mem_cons.1 ((h y).2 (by simp)) with e' | e'
      · exact e'.symm
      have := a1 y e'
      have := b1 x e
      omega
    subst e
    rw [asc_ext l l' a2 b2 (fun z => ?_)]
    constructor
    · intro hz
      rcases List.mem_cons.1 ((h z).1 (List.mem_cons_of_mem _ hz)) with e | e
      · have := a1 z hz
        omega
      · exact e
    · intro hz
      rcases List.mem_cons.1 ((h z).2 (List.mem_cons_of_mem _ hz)) with e | e
      · have := b1 z hz
        omega
      · exact e
def puts (s l : List Int) : List Int := l.foldl (fun s x => put x s) s
theorem puts_asc : ∀ (l s : List Int), asc s → asc (puts s l)
  | [], s, h => h
  | x :: l, s, h => puts_asc l (put x s) (put_asc x s h)
theorem mem_puts (z : Int) : ∀ (l s : List Int), z ∈ puts s l ↔ z ∈ s ∨ z ∈ l
  | [], s => by simp [puts]
  | x :: l, s => by
    have ih := mem_puts z l (put x s)
    have e : puts s (x :: l) = puts (put x s) l := rfl
    rw [e, ih, mem_put, List.mem_cons]
    constructor
    · rintro ((h | h) | h)
      · exact .inr (.inl h)
      · exact .inl h
      · exact .inr (.inr h)
    · rintro (h | h | h)
      · exact .inl (.inr h)
      · exact .inl (.inl h)
      · exact .inr h
theorem puts_len : ∀ (l s : List Int), (puts s l).length ≤ s.length + l.length
  | [], s => by simp [puts]
  | x :: l, s => by
    have := puts_len l (put x s)
    have h := put_len x s
    have e : puts s (x :: l) = puts (put x s) l := rfl
    rw [e, List.length_cons]
    omega
theorem asc_nil : asc [] := List.Pairwise.nil
def msort (l : List Int) : List Int := l.mergeSort fun x y => decide (x ≤ y)
theorem msort_len (l : List Int) : (msort l).length = l.length := List.length_mergeSort l
theorem mem_msort (z : Int) (l : List Int) : z ∈ msort l ↔ z ∈ l := List.mem_mergeSort
theorem msort_le (l : List Int) : (msort l).Pairwise (fun a b => a ≤ b) := by
  have := List.pairwise_mergeSort (le := fun x y : Int => decide (x ≤ y)) (fun a b c h1 h2 => by simp at h1 h2 ⊢; omega) (fun a b => by simp; omega) l
  exact this.imp (fun h => by simpa using h)
theorem msort_asc (l : List Int) (h : l.Nodup) : asc (msort l) := by
  have h1 := msort_le l
  have h2 : (msort l).Nodup := (List.mergeSort_perm l _).nodup_iff.2 h
  exact (h1.and h2).imp (fun ⟨a, b⟩ => by omega)

/-! spec_l9Put -/
theorem spec_l9Put_ev (l : List Int) (n : Int) (h : l.length ≤ 1099511627776) : Ev (fun k => spec_l9Put.f k l n) (put n l) := by
  refine ev_map (ev_range l (fun k (_ : List Int) i => spec_l9Put.l0 k l n i) (fun s r => s ++ put n r) (fun p s => s = p) (by omega) ?_ ?_ [] rfl) (by simp)
  · rintro s rfl
    simp only [spec_l9Put.l0, if_neg (Int.lt_irrefl _), Option.bind_some, if_pos (ge0 s.length), if_pos (Int.le_refl _), List.length_nil, Int.toNat_natCast, List.take_length, List.drop_length, List.nil_append, List.length_append, List.length_singleton]
    exact ev_const (by simp only [put, List.append_nil]; repeat rw [if_pos (by omega)])
  · rintro pre x rest s e hlt hget rfl ih
    have hr : rd l (s.length : Int) = x := hget 0
    have hl : l.length = s.length + (rest.length + 1) := by rw [e, len_pre]
    have ht : l.take s.length = s := by rw [e]; simp
    have hd : l.drop s.length = x :: rest := by rw [e]; simp
    simp only [spec_l9Put.l0, if_pos hlt, if_pos (ge0 s.length), hr, put]
    by_cases h1 : x < n
    · simp only [if_pos h1]
      exact ev_map (ih (s ++ [x]) rfl) (by simp)
    by_cases h2 : x = n
    · simp only [if_neg h1, if_pos h2, Option.bind_some, List.length_nil, List.nil_append]
      rw [if_pos (by omega)]
      exact ev_const (by rw [e])
    · simp only [if_neg h1, if_neg h2, Option.bind_some, if_pos (show (s.length : Int) ≤ (l.length : Int) by omega), List.length_nil, Int.toNat_natCast, ht, hd, List.nil_append, List.length_append, List.length_singleton, List.length_cons]
      exact ev_const (by rw [if_pos (by omega), if_pos (by omega), if_pos (by omega)]; simp)

/-! united -/
def uni (l m : List Int) : List Int := Lib.compact (msort (l ++ m))
theorem get_toArray (zs : List Int) (i : Nat) (h : i < zs.length) : zs.toArray[i]! = zs[i] := by
  simp [getElem!_pos, h]
theorem mem_compact (z : Int) (zs : List Int) : z ∈ Lib.compact zs ↔ z ∈ zs := by
  unfold Lib.compact Lib.compactUpTo
  constructor
  · intro h
    obtain ⟨i, hi, rfl⟩ := List.mem_map.1 h
    have hi' : i < zs.length := List.mem_range.1 (List.mem_filter.1 hi).1
    rw [get_toArray zs i hi']
    exact List.getElem_mem _
  · intro h
    obtain ⟨j, hj, rfl⟩ := List.getElem_of_mem h
    have key : ∀ n i : Nat, i ≤ n → ∀ (hi : i < zs.length), zs[i] = zs[j] → ∃ k, k < zs.length ∧ Lib.keeps zs.toArray k = true ∧ zs.toArray[k]! = zs[j] := by
      intro n
      induction n with
      | zero =>
        intro i hi hil e
        refine ⟨i, hil, ?_, by rw [get_toArray zs i hil]; exact e⟩
        unfold Lib.keeps
        exact decide_eq_true (.inl (by omega))
      | succ n ih =>
        intro i hi hil e
        by_cases h0 : i = 0
        · exact ⟨i, hil, by unfold Lib.keeps; exact decide_eq_true (.inl h0), by rw [get_toArray zs i hil]; exact e⟩
        by_cases h1 : zs.toArray[i]! = zs.toArray[i - 1]!
        · refine ih (i - 1) (by omega) (by omega) ?_
          rw [get_toArray zs i hil, get_toArray zs (i - 1) (by omega)] at h1
          rw [← h1]
          exact e
        · exact ⟨i, hil, by unfold Lib.keeps; exact decide_eq_true (.inr h1), by rw [get_toArray zs i hil]; exact e⟩
    obtain ⟨k, hk, h2, h3⟩ := key j j (Nat.le_refl _) hj rfl
    rw [← h3]
    exact List.mem_map.2 ⟨k, List.mem_filter.2 ⟨List.mem_range.2 hk, h2⟩, rfl⟩
theorem compact_asc (zs : List Int) (h : zs.Pairwise (fun a b => a ≤ b)) : asc (Lib.compact zs) := by
  have hle : ∀ i j : Nat, i ≤ j → j < zs.length → zs.toArray[i]! ≤ zs.toArray[j]! := by
    intro i j hij hj
    rw [get_toArray zs i (by omega), get_toArray zs j hj]
    rcases Nat.lt_or_eq_of_le hij with hlt | rfl
    · exact List.pairwise_iff_getElem.1 h i j (by omega) hj hlt
    · omega
  unfold Lib.compact Lib.compactUpTo asc
  rw [List.pairwise_map]
  have hr : (List.range zs.length).Pairwise (fun a b => a < b ∧ b < zs.length) := by
    rw [List.pairwise_iff_getElem]
    intro i j hi hj hij
    rw [List.getElem_range, List.getElem_range]
    exact ⟨hij, by simpa using hj⟩
  refine List.Pairwise.imp_of_mem ?_ (List.Pairwise.sublist List.filter_sublist hr)
  intro a b _ hb ⟨hab, hbl⟩
  have hk := (List.mem_filter.1 hb).2
  unfold Lib.keeps at hk
  have hk := of_decide_eq_true hk
  have h1 := hle a (b - 1) (by omega) (by omega)
  have h2 := hle (b - 1) b (by omega) hbl
  rcases hk with hk | hk
  · omega
  · omega
theorem uni_asc (l m : List Int) : asc (uni l m) := compact_asc _ (msort_le _)
theorem mem_uni (z : Int) (l m : List Int) : z ∈ uni l m ↔ z ∈ l ∨ z ∈ m := by
  unfold uni
  rw [mem_compact, mem_msort, List.mem_append]
theorem uni_len (l m : List Int) : (uni l m).length ≤ l.length + m.length := by
  have := Lib.compact_length_le (msort (l ++ m))
  rw [msort_len, List.length_append] at this
  exact this
theorem uni_puts (l : List Int) : uni l [] = puts [] l := by
  refine asc_ext _ _ (uni_asc _ _) (puts_asc l [] asc_nil) (fun z => ?_)
  rw [mem_uni, mem_puts]
  simp

/-! sharedHints -/
def sharedHints (a b : List Int) : Int := (((uni a []).filter (has b)).length : Int)
theorem sharedHints_le (a b : List Int) : 0 ≤ sharedHints a b ∧ sharedHints a b ≤ (a.length : Int) := by
  unfold sharedHints
  have h1 := List.length_filter_le (has b) (uni a [])
  have h2 := uni_len a []
  rw [List.length_nil] at h2
  omega
def shStep (b s : List Int) (x : Int) : List Int := if has b x = true then put x s else s
theorem shStep_eq (b : List Int) : ∀ (a s : List Int), a.foldl (shStep b) s = puts s (a.filter (has b))
  | [], s => rfl
  | x :: a, s => by
    rw [List.foldl_cons, shStep_eq b a]
    unfold shStep
    cases h : has b x with
    | true => rw [List.filter_cons_of_pos h]; rfl
    | false => rw [List.filter_cons_of_neg (by simp [h])]; rfl
theorem shared_eq (a b : List Int) : a.foldl (shStep b) [] = (uni a []).filter (has b) := by
  rw [shStep_eq]
  refine asc_ext _ _ (puts_asc _ _ asc_nil) (List.Pairwise.filter _ (uni_asc a [])) (fun z => ?_)
  rw [mem_puts, List.mem_filter, List.mem_filter, mem_uni]
  simp

/-! spec_SharedHints -/
theorem spec_SharedHints_ev (a b : List Int) (ha : a.length ≤ 1099511627776) (hb : b.length ≤ 1099511627776) : Ev (fun k => spec_SharedHints.f k a b) (sharedHints a b) := by
  unfold sharedHints
  rw [← shared_eq]
  refine ev_range a (fun k (s : List Int) i => spec_SharedHints.l0 k a b s i) (fun s r => ((r.foldl (shStep b) s).length : Int)) (fun p s => s.length ≤ p.length) (by omega) ?_ ?_ [] (Nat.le_refl _)
  · intro s _
    simp only [spec_SharedHints.l0, if_neg (Int.lt_irrefl _)]
    exact Ev.now _
  · intro pre x rest s e hlt hget hs ih
    have hr : rd a (pre.length : Int) = x := hget 0
    have hs' : s.length ≤ pre.length := hs
    simp only [spec_SharedHints.l0, if_pos hlt, if_pos (ge0 pre.length), hr]
    refine Ev.bind (spec_l8Has_ev b x hb) ?_
    cases h : has b x with
    | true =>
      simp only [if_true]
      refine Ev.bind (spec_l9Put_ev s x (by omega)) ?_
      have := put_len x s
      exact ev_map (ih (put x s) (by simp; omega)) (by rw [List.foldl_cons]; unfold shStep; rw [if_pos h])
    | false =>
      simp only [Bool.false_eq_true, if_false]
      exact ev_map (ih s (by simp; omega)) (by rw [List.foldl_cons, show shStep b s x = s from by unfold shStep; rw [if_neg (by simp [h])]])

/-! laws_toIntS -/
theorem laws_toIntS_loop (rest : List Int) : ∀ (pre : List Int), (pre ++ rest).length ≤ 1099511627776 → Ev (fun k => laws_toIntS.l0 k (pre ++ rest) (pre ++ List.replicate rest.length (0 : Int)) (pre.length : Int)) (pre ++ rest) := by
  induction rest with
  | nil =>
    intro pre h
    refine ev_succ ?_
    simp only [laws_toIntS.l0, if_neg (nlt_pre pre)]
    exact ev_const (by simp)
  | cons x rest ih =>
    intro pre h
    have hl := len_pre pre x rest
    have hlt : (pre.length : Int) < ((pre ++ List.replicate (x :: rest).length (0 : Int)).length : Int) := by
      simp
      omega
    have hset : (pre ++ List.replicate (x :: rest).length (0 : Int)).set ((pre.length : Int)).toNat x = (pre ++ [x]) ++ List.replicate rest.length (0 : Int) := by
      simp [List.replicate_succ]
    refine ev_succ ?_
    simp only [laws_toIntS.l0, if_pos (lt_pre pre x rest), if_pos (ge0 pre.length), rd_pre, Option.bind_some, if_pos hlt, wsucc (show pre.length < 9223372036854775807 by omega)]
    refine ev_map (Ev.congr (fun k => ?_) (ih (pre ++ [x]) (by rw [← app_pre]; exact h))) (by rw [← app_pre pre x rest])
    rw [hset, snoc_len pre x, ← app_pre pre x rest]
theorem laws_toIntS_ev (l : List Int) (h : l.length ≤ 1048576) : Ev (fun k => laws_toIntS.f k l) (l) := by
  have e := laws_toIntS_loop l [] (by simp; omega)
  unfold laws_toIntS.f
  simp only [if_pos (ge0 l.length), if_pos (show ((l.length : Int)).toNat ≤ 35184372088832 by omega)]
  exact e

/-! impl_united -/
theorem impl_united_eq (l m : List Int) (h : l.length + m.length < 17592186044416) : impl_united.f l m = some (uni l m) := by
  unfold impl_united.f uni msort
  rw [if_pos h]

/-! slices_Index_int_int -/
theorem slices_Index_ev (l : List Int) (n : Int) (h : l.length ≤ 1099511627776) : ∃ r, Ev (fun k => slices_Index_int_int.f k l n) r ∧ decide (r ≥ 0) = has l n := by
  have key : ∀ (rest pre : List Int), l = pre ++ rest → ∃ r, Ev (fun k => slices_Index_int_int.l0 k l n (l.length : Int) (pre.length : Int)) r ∧ decide (r ≥ 0) = has rest n := by
    intro rest
    induction rest with
    | nil =>
      intro pre e
      rw [List.append_nil] at e
      subst e
      refine ⟨-1, ev_succ ?_, by simp [has]⟩
      simp only [slices_Index_int_int.l0, if_neg (Int.lt_irrefl _)]
      exact Ev.now _
    | cons x rest ih =>
      intro pre e
      have hl : l.length = pre.length + (rest.length + 1) := by rw [e, len_pre]
      have hr : rd l (pre.length : Int) = x := by rw [e]; exact rd_pre pre x rest
      by_cases h2 : n = x
      · refine ⟨(pre.length : Int), ev_succ ?_, ?_⟩
        · simp only [slices_Index_int_int.l0, if_pos (show (pre.length : Int) < (l.length : Int) by omega), if_pos (ge0 pre.length), hr, if_pos h2]
          exact Ev.now _
        · rw [decide_eq_true (show (pre.length : Int) ≥ 0 by omega)]
          simp [has, h2]
      · obtain ⟨r, h3, h4⟩ := ih (pre ++ [x]) (by rw [← app_pre]; exact e)
        refine ⟨r, ev_succ ?_, ?_⟩
        · simp only [slices_Index_int_int.l0, if_pos (show (pre.length : Int) < (l.length : Int) by omega), if_pos (ge0 pre.length), hr, if_neg h2, wsucc (show pre.length < 9223372036854775807 by omega)]
          rw [snoc_len pre x]
          exact h3
        · rw [h4]
          simp [has, Ne.symm h2]
  exact key l [] rfl

/-! slices_Contains_int_int -/
theorem slices_Contains_ev (l : List Int) (n : Int) (h : l.length ≤ 1099511627776) : Ev (fun k => slices_Contains_int_int.f k l n) (has l n) := by
  obtain ⟨r, h1, h2⟩ := slices_Index_ev l n h
  unfold slices_Contains_int_int.f
  refine Ev.bind h1 ?_
  exact ev_const (by rw [← h2])

/-! impl_SharedHints -/
theorem impl_SharedHints_ev (a b : List Int) (ha : a.length ≤ 1099511627776) (hb : b.length ≤ 1099511627776) : Ev (fun k => impl_SharedHints.f k a b) (sharedHints a b) := by
  have hu := uni_len a []
  rw [List.length_nil] at hu
  unfold impl_SharedHints.f
  rw [impl_united_eq a [] (by rw [List.length_nil]; omega)]
  simp only [Option.bind_some]
  refine ev_map (ev_range (uni a []) (fun k (s : Nat) i => impl_SharedHints.l0 k b (s : Int) (uni a []) ((uni a []).length : Int) i) (fun s r => ((s + (r.filter (has b)).length : Nat) : Int)) (fun p s => s ≤ p.length) (by omega) ?_ ?_ 0 (Nat.zero_le _)) (by simp [sharedHints])
  · intro s _
    simp only [impl_SharedHints.l0, if_neg (Int.lt_irrefl _)]
    exact ev_const (by simp)
  · intro pre x rest s e hlt hget hs ih
    have hr : rd (uni a []) (pre.length : Int) = x := hget 0
    have hs' : s ≤ pre.length := hs
    simp only [impl_SharedHints.l0, if_pos hlt, if_pos (ge0 pre.length), hr]
    refine Ev.bind (slices_Contains_ev b x hb) ?_
    cases h : has b x with
    | true =>
      simp only [if_true, wsucc (show s < 9223372036854775807 by omega)]
      exact ev_map (ih (s + 1) (by simp; omega)) (by rw [List.filter_cons_of_pos h, List.length_cons]; omega)
    | false =>
      simp only [Bool.false_eq_true, if_false]
      exact ev_map (ih s (by simp; omega)) (by rw [List.filter_cons_of_neg (by simp [h])])

/-! the law -/
theorem Pf.FnExactSharedHints : FnExactSharedHintsLaw := by
  intro l0 l1 hm0 hq0 hm1 hq1
  refine Ev.rounds ?_
  unfold laws_FnExactSharedHints.f
  by_cases h0 : (l0.length : Int) > 1048576
  · simp only [if_pos h0]
    exact Ev.now _
  by_cases h1 : (l1.length : Int) > 1048576
  · simp only [if_neg h0, if_pos h1]
    exact Ev.now _
  simp only [if_neg h0, if_neg h1]
  repeat' first
    | exact Ev.now _
    | refine Ev.bind (spec_SharedHints_ev _ _ (by omega) (by omega)) ?_
    | refine Ev.bind (impl_SharedHints_ev _ _ (by omega) (by omega)) ?_
    | refine Ev.bind (laws_toIntS_ev _ (by omega)) ?_
    | refine Ev.bind (laws_eqIntS_refl _ (by omega)) ?_
    | simp only [if_true]

end Go.Proofs.Ytpkdbkheggfkkaa.PFnExactSharedHints
