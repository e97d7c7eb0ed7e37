/- The plain part of FnExactHintsOf: what the printed functions come to, and that the law's answer is true. No conditions beyond those of the statement. -/
import Derived.Test.YtejhjenlodclpaaPFnExactHintsOfx
import Derived.Test.YtejhjenlodclpaaBaseFnExactHintsOf
import Derived.Test.YtejhjenlodclpaaDefFnExactHintsOf
namespace Go.Proofs.Ytejhjenlodclpaa.PFnExactHintsOf
open Go.RowKit Go.Proofs.YtejhjenlodclpaaW.PrintWords Go.Proofs.YtejhjenlodclpaaW.PrintMore Go.Proofs.Ytejhjenlodclpaa.Base
set_option linter.unusedVariables false
set_option linter.unusedSimpArgs false

/-! laws_szFindS -/
theorem laws_szFindS_ok (l : List (S124)) (a : Int) (h0 : (l.length : Int) ≤ a) (h1 : a ≤ 1048576) : laws_szFindS.f l a = some (a - (l.length : Int)) := by
  unfold laws_szFindS.f
  rw [w64 (by omega) (by omega), if_neg (by omega)]
theorem laws_szFindS_big (l : List (S124)) (a : Int) (h0 : a < (l.length : Int)) (h1 : 0 ≤ a) (h2 : l.length ≤ 9223372036854775807) : laws_szFindS.f l a = some (-1) := by
  unfold laws_szFindS.f
  rw [w64 (by omega) (by omega), if_pos (by omega)]

/-! spec_l1In -/
theorem spec_l1In_eq (a b c : Int) : spec_l1In.f a b c = some (inr a b c) := by
  unfold spec_l1In.f inr
  by_cases h : b ≤ a <;> simp [h]

/-! spec_IsThing -/
theorem spec_IsThing_eq (a b c d e : Int) : spec_IsThing.f a b c d e = some (isThing a b c d e) := by
  simp only [spec_IsThing.f, spec_l1In_eq, Option.bind_some, ite_and, isThing]

/-! spec_IsFind -/
theorem spec_IsFind_eq (a b c d e f g h : Int) : spec_IsFind.f a b c d e f g h = some (isFind a b c d e f g h) := by
  simp only [spec_IsFind.f, spec_IsThing_eq, spec_l1In_eq, Option.bind_some, ite_and, isFind]

/-! type_113 -/
theorem rd_T113_pre (pre : List (S113)) (x : S113) (rest : List (S113)) : rd_T113 (pre ++ x :: rest) (pre.length : Int) = x := getD_pre pre x rest z113

/-! areFinds -/
def fdFits (x : S113) : Bool := isFind x.f0.f0 x.f0.f1 x.f0.f2 x.f0.f3 x.f0.f4 x.f1 x.f2 x.f3
def fdOk : Option (S113) → List (S113) → Bool
  | _, [] => true
  | p, x :: rest => fdFits x && ((match p with | none => true | some y => decide (y.f0.f0 < x.f0.f0)) && fdOk (some x) rest)
def areFinds (l : List (S113)) : Bool := decide (l.length ≤ 20) && fdOk none l
theorem fdOk_lt : ∀ (l : List (S113)) (y : S113), fdOk (some y) l = true → ∀ x ∈ l, y.f0.f0 < x.f0.f0
  | [], _, _ => by simp
  | z :: l, y, h => by
    simp only [fdOk, Bool.and_eq_true, decide_eq_true_eq] at h
    intro x hx
    rcases List.mem_cons.1 hx with rfl | hx
    · exact h.2.1
    · have := fdOk_lt l z h.2.2 x hx
      omega
theorem fdOk_inj : ∀ (l : List (S113)) (p : Option (S113)), fdOk p l = true → ∀ x ∈ l, ∀ y ∈ l, x.f0.f0 = y.f0.f0 → x = y
  | [], _, _ => by simp
  | z :: l, p, h => by
    simp only [fdOk, Bool.and_eq_true] at h
    have h1 := fdOk_lt l z h.2.2
    have h2 := fdOk_inj l (some z) h.2.2
    intro x hx y hy e
    rcases List.mem_cons.1 hx with ex | hx1
    · rcases List.mem_cons.1 hy with ey | hy1
      · rw [ex, ey]
      · have := h1 y hy1
        rw [ex] at e
        omega
    · rcases List.mem_cons.1 hy with ey | hy1
      · have := h1 x hx1
        rw [ey] at e
        omega
      · exact h2 x hx1 y hy1 e

/-! spec_AreFinds -/
theorem spec_AreFinds_ev (l : List (S113)) (h : l.length ≤ 1099511627776) : Ev (fun k => spec_AreFinds.f k l) (areFinds l) := by
  unfold areFinds
  refine ev_map (ev_range l (fun k (_ : Option (S113)) i => spec_AreFinds.l0 k l i) (fun s r => fdOk s r && decide (l.length ≤ 20)) (fun p s => s = p.getLast?) (by omega) ?_ ?_ none rfl) (Bool.and_comm _ _)
  · intro s _
    simp only [spec_AreFinds.l0, if_neg (Int.lt_irrefl _), fdOk, Bool.true_and]
    refine ev_const ?_
    rw [show decide ((l.length : Int) ≤ 20) = decide (l.length ≤ 20) from decide_eq_decide.2 (by omega)]
  · rintro pre x rest s e hlt hget rfl ih
    have hr : rd_T113 l (pre.length : Int) = x := hget _
    have ih' := ih (some x) (by simp)
    have hf : isFind x.f0.f0 x.f0.f1 x.f0.f2 x.f0.f3 x.f0.f4 x.f1 x.f2 x.f3 = fdFits x := rfl
    simp only [spec_AreFinds.l0, if_pos hlt, if_pos (ge0 pre.length), hr, spec_IsFind_eq, Option.bind_some, fdOk, hf]
    cases h1 : fdFits x with
    | false => exact Ev.now _
    | true =>
      simp only [if_true, Bool.true_and]
      rcases prev_cases e (by omega) with ⟨hp, hn⟩ | ⟨y, hy, h4, h5, h6, h7⟩
      · simp only [if_neg hn]
        exact ev_map ih' (by simp [hp])
      · have hr7 : rd_T113 l (wrap64 ((pre.length : Int) - 1)) = y := h7 _
        simp only [if_pos h4, if_pos h5, if_pos h6, hr7, hy]
        by_cases h8 : y.f0.f0 ≥ x.f0.f0
        · simp only [if_pos h8]
          exact ev_const (by simp [show ¬ y.f0.f0 < x.f0.f0 by omega])
        · simp only [if_neg h8]
          exact ev_map ih' (by simp [show y.f0.f0 < x.f0.f0 by omega])

/-! put -/
/-- x goes into an ascending list, once. -/
def put (n : Int) : List Int → List Int
  | [] => [n]
  | x :: l => if x < n then x :: put n l else if x = n then x :: l else n :: x :: l
def asc (l : List Int) : Prop := l.Pairwise (fun a b => a < b)
theorem put_len (n : Int) : ∀ l : List Int, (put n l).length ≤ l.length + 1
  | [] => by simp [put]
  | x :: l => by
    have := put_len n l
    unfold put
    split
    · simp only [List.length_cons]; omega
    split
    · simp
    · simp
theorem mem_put (n z : Int) : ∀ l : List Int, z ∈ put n l ↔ z = n ∨ z ∈ l
  | [] => by simp [put]
  | x :: l => by
    have ih := mem_put n z l
    unfold put
    split
    · simp only [List.mem_cons, ih]
      constructor
      · rintro (h | h | h)
        · exact .inr (.inl h)
        · exact .inl h
        · exact .inr (.inr h)
      · rintro (h | h | h)
        · exact .inr (.inl h)
        · exact .inl h
        · exact .inr (.inr h)
    split
    · rename_i h
      subst h
      simp only [List.mem_cons]
      constructor
      · exact .inr
      · rintro (h | h | h)
        · exact .inl h
        · exact .inl h
        · exact .inr h
    · simp only [List.mem_cons]
theorem put_asc (n : Int) : ∀ l : List Int, asc l → asc (put n l)
  | [], _ => by simp [put, asc]
  | x :: l, h => by
    obtain ⟨h1, h2⟩ := List.pairwise_cons.1 h
    have ih := put_asc n l h2
    unfold put
    split
    · rename_i hx
      refine List.pairwise_cons.2 ⟨fun z hz => ?_, ih⟩
      rcases (mem_put n z l).1 hz with rfl | hz
      · exact hx
      · exact h1 z hz
    split
    · exact h
    · rename_i hx hn
      refine List.pairwise_cons.2 ⟨fun z hz => ?_, h⟩
      rcases List.mem_cons.1 hz with rfl | hz
      · omega
      · have := h1 z hz
        omega
theorem asc_ext : ∀ (l l' : List Int), asc l → asc l' → (∀ z, z ∈ l ↔ z ∈ l') → l = l'
  | [], [], _, _, _ => rfl
  | [], y :: l', _, _, h => by
    have := (h y).2 (by simp)
    simp at this
  | x :: l, [], _, _, h => by
    have := (h x).1 (by simp)
    simp at this
  | x :: l, y :: l', h1, h2, h => by
    obtain ⟨a1, a2⟩ := List.pairwise_cons.1 h1
    obtain ⟨b1, b2⟩ := List.pairwise_cons.1 h2
    have e : x = y := by
      rcases List.mem_cons.1 ((h x).1 (by simp)) with e | e
      · exact e
      rcases List.mem_cons.1 ((h y).2 (by simp)) with e' | e'
      · exact e'.symm
      have := a1 y e'
      have := b1 x e
      omega
    subst e
    rw [asc_ext l l' a2 b2 (fun z => ?_)]
    constructor
    · intro hz
      rcases List.mem_cons.1 ((h z).1 (List.mem_cons_of_mem _ hz)) with e | e
      · have := a1 z hz
        omega
      · exact e
    · intro hz
      rcases List.mem_cons.1 ((h z).2 (List.mem_cons_of_mem _ hz)) with e | e
      · have := b1 z hz
        omega
      · exact e
def puts (s l : List Int) : List Int := l.foldl (fun s x => put x s) s
theorem puts_asc : ∀ (l s : List Int), asc s → asc (puts s l)
  | [], s, h => h
  | x :: l, s, h => puts_asc l (put x s) (put_asc x s h)
theorem mem_puts (z : Int) : ∀ (l s : List Int), z ∈ puts s l ↔ z ∈ s ∨ z ∈ l
  | [], s => by simp [puts]
  | x :: l, s => by
    have ih := mem_puts z l (put x s)
    have e : puts s (x :: l) = puts (put x s) l := rfl
    rw [e, ih, mem_put, List.mem_cons]
    constructor
    · rintro ((h | h) | h)
      · exact .inr (.inl h)
      · exact .inl h
      · exact .inr (.inr h)
    · rintro (h | h | h)
      · exact .inl (.inr h)
      · exact .inl (.inl h)
      · exact .inr h
theorem puts_len : ∀ (l s : List Int), (puts s l).length ≤ s.length + l.length
  | [], s => by simp [puts]
  | x :: l, s => by
    have := puts_len l (put x s)
    have h := put_len x s
    have e : puts s (x :: l) = puts (put x s) l := rfl
    rw [e, List.length_cons]
    omega
theorem asc_nil : asc [] := List.Pairwise.nil
def msort (l : List Int) : List Int := l.mergeSort fun x y => decide (x ≤ y)
theorem msort_len (l : List Int) : (msort l).length = l.length := List.length_mergeSort l
theorem mem_msort (z : Int) (l : List Int) : z ∈ msort l ↔ z ∈ l := List.mem_mergeSort
theorem msort_le (l : List Int) : (msort l).Pairwise (fun a b => a ≤ b) := by
  have := List.pairwise_mergeSort (le := fun x y : Int => decide (x ≤ y)) (fun a b c h1 h2 => by simp at h1 h2 ⊢; omega) (fun a b => by simp; omega) l
  exact this.imp (fun h => by simpa using h)
theorem msort_asc (l : List Int) (h : l.Nodup) : asc (msort l) := by
  have h1 := msort_le l
  have h2 : (msort l).Nodup := (List.mergeSort_perm l _).nodup_iff.2 h
  exact (h1.and h2).imp (fun ⟨a, b⟩ => by omega)

/-! spec_l9Put -/
theorem spec_l9Put_ev (l : List Int) (n : Int) (h : l.length ≤ 1099511627776) : Ev (fun k => spec_l9Put.f k l n) (put n l) := by
  refine ev_map (ev_range l (fun k (_ : List Int) i => spec_l9Put.l0 k l n i) (fun s r => s ++ put n r) (fun p s => s = p) (by omega) ?_ ?_ [] rfl) (by simp)
  · rintro s rfl
    simp only [spec_l9Put.l0, if_neg (Int.lt_irrefl _), Option.bind_some, if_pos (ge0 s.length), if_pos (Int.le_refl _), List.length_nil, Int.toNat_natCast, List.take_length, List.drop_length, List.nil_append, List.length_append, List.length_singleton]
    exact ev_const (by simp only [put, List.append_nil]; repeat rw [if_pos (by omega)])
  · rintro pre x rest s e hlt hget rfl ih
    have hr : rd l (s.length : Int) = x := hget 0
    have hl : l.length = s.length + (rest.length + 1) := by rw [e, len_pre]
    have ht : l.take s.length = s := by rw [e]; simp
    have hd : l.drop s.length = x :: rest := by rw [e]; simp
    simp only [spec_l9Put.l0, if_pos hlt, if_pos (ge0 s.length), hr, put]
    by_cases h1 : x < n
    · simp only [if_pos h1]
      exact ev_map (ih (s ++ [x]) rfl) (by simp)
    by_cases h2 : x = n
    · simp only [if_neg h1, if_pos h2, Option.bind_some, List.length_nil, List.nil_append]
      rw [if_pos (by omega)]
      exact ev_const (by rw [e])
    · simp only [if_neg h1, if_neg h2, Option.bind_some, if_pos (show (s.length : Int) ≤ (l.length : Int) by omega), List.length_nil, Int.toNat_natCast, ht, hd, List.nil_append, List.length_append, List.length_singleton, List.length_cons]
      exact ev_const (by rw [if_pos (by omega), if_pos (by omega), if_pos (by omega)]; simp)

/-! spec_Mod -/
theorem spec_Mod_eq (a : Int) : spec_Mod.f a 2147483647 = some (a % 2147483647) := by
  simp only [spec_Mod.f, spec_l1In_eq, Option.bind_some]
  rw [if_pos (by decide), if_neg (by decide), mod_up]

/-! spec_Hash -/
theorem spec_Hash_loop (rest : List Int) : ∀ (pre : List Int) (acc : Int), (pre ++ rest).length < 9223372036854775807 → Ev (fun k => spec_Hash.l0 k (pre ++ rest) acc (pre.length : Int)) (rest.foldl hstep acc) := by
  induction rest with
  | nil =>
    intro pre acc h
    refine ev_succ ?_
    simp only [spec_Hash.l0, if_neg (nlt_pre pre)]
    exact Ev.now _
  | cons x rest ih =>
    intro pre acc h
    have hl := len_pre pre x rest
    refine ev_succ ?_
    simp only [spec_Hash.l0, if_pos (lt_pre pre x rest), if_pos (ge0 pre.length), rd_pre, spec_Mod_eq, Option.bind_some, wsucc (show pre.length < 9223372036854775807 by omega)]
    rw [snoc_len pre x]
    have := ih (pre ++ [x]) (hstep acc x) (by rw [← app_pre]; exact h)
    rw [← app_pre] at this
    exact this
theorem spec_Hash_ev (l : List Int) (h : l.length < 9223372036854775807) : Ev (fun k => spec_Hash.f k l) (ghash l) := spec_Hash_loop l [] 11 h

/-! spec_HintOf -/
theorem spec_HintOf_ev (a b c d e s : Int) : Ev (fun k => spec_HintOf.f k a b c d e s) (ghash [s, b, c, wrap64 (Int.tdiv d 10)]) := by
  simp only [spec_HintOf.f]
  exact Ev.bind (spec_Hash_ev _ (by simp)) (Ev.now _)

/-! united -/
def uni (l m : List Int) : List Int := Lib.compact (msort (l ++ m))
theorem get_toArray (zs : List Int) (i : Nat) (h : i < zs.length) : zs.toArray[i]! = zs[i] := by
  simp [getElem!_pos, h]
theorem mem_compact (z : Int) (zs : List Int) : z ∈ Lib.compact zs ↔ z ∈ zs := by
  unfold Lib.compact Lib.compactUpTo
  constructor
  · intro h
    obtain ⟨i, hi, rfl⟩ := List.mem_map.1 h
    have hi' : i < zs.length := List.mem_range.1 (List.mem_filter.1 hi).1
    rw [get_toArray zs i hi']
    exact List.getElem_mem _
  · intro h
    obtain ⟨j, hj, rfl⟩ := List.getElem_of_mem h
    have key : ∀ n i : Nat, i ≤ n → ∀ (hi : i < zs.length), zs[i] = zs[j] → ∃ k, k < zs.length ∧ Lib.keeps zs.toArray k = true ∧ zs.toArray[k]! = zs[j] := by
      intro n
      induction n with
      | zero =>
        intro i hi hil e
        refine ⟨i, hil, ?_, by rw [get_toArray zs i hil]; exact e⟩
        unfold Lib.keeps
        exact decide_eq_true (.inl (by omega))
      | succ n ih =>
        intro i hi hil e
        by_cases h0 : i = 0
        · exact ⟨i, hil, by unfold Lib.keeps; exact decide_eq_true (.inl h0), by rw [get_toArray zs i hil]; exact e⟩
        by_cases h1 : zs.toArray[i]! = zs.toArray[i - 1]!
        · refine ih (i - 1) (by omega) (by omega) ?_
          rw [get_toArray zs i hil, get_toArray zs (i - 1) (by omega)] at h1
          rw [← h1]
          exact e
        · exact ⟨i, hil, by unfold Lib.keeps; exact decide_eq_true (.inr h1), by rw [get_toArray zs i hil]; exact e⟩
    obtain ⟨k, hk, h2, h3⟩ := key j j (Nat.le_refl _) hj rfl
    rw [← h3]
    exact List.mem_map.2 ⟨k, List.mem_filter.2 ⟨List.mem_range.2 hk, h2⟩, rfl⟩
theorem compact_asc (zs : List Int) (h : zs.Pairwise (fun a b => a ≤ b)) : asc (Lib.compact zs) := by
  have hle : ∀ i j : Nat, i ≤ j → j < zs.length → zs.toArray[i]! ≤ zs.toArray[j]! := by
    intro i j hij hj
    rw [get_toArray zs i (by omega), get_toArray zs j hj]
    rcases Nat.lt_or_eq_of_le hij with hlt | rfl
    · exact List.pairwise_iff_getElem.1 h i j (by omega) hj hlt
    · omega
  unfold Lib.compact Lib.compactUpTo asc
  rw [List.pairwise_map]
  have hr : (List.range zs.length).Pairwise (fun a b => a < b ∧ b < zs.length) := by
    rw [List.pairwise_iff_getElem]
    intro i j hi hj hij
    rw [List.getElem_range, List.getElem_range]
    exact ⟨hij, by simpa using hj⟩
  refine List.Pairwise.imp_of_mem ?_ (List.Pairwise.sublist List.filter_sublist hr)
  intro a b _ hb ⟨hab, hbl⟩
  have hk := (List.mem_filter.1 hb).2
  unfold Lib.keeps at hk
  have hk := of_decide_eq_true hk
  have h1 := hle a (b - 1) (by omega) (by omega)
  have h2 := hle (b - 1) b (by omega) hbl
  rcases hk with hk | hk
  · omega
  · omega
theorem uni_asc (l m : List Int) : asc (uni l m) := compact_asc _ (msort_le _)
theorem mem_uni (z : Int) (l m : List Int) : z ∈ uni l m ↔ z ∈ l ∨ z ∈ m := by
  unfold uni
  rw [mem_compact, mem_msort, List.mem_append]
theorem uni_len (l m : List Int) : (uni l m).length ≤ l.length + m.length := by
  have := Lib.compact_length_le (msort (l ++ m))
  rw [msort_len, List.length_append] at this
  exact this
theorem uni_puts (l : List Int) : uni l [] = puts [] l := by
  refine asc_ext _ _ (uni_asc _ _) (puts_asc l [] asc_nil) (fun z => ?_)
  rw [mem_uni, mem_puts]
  simp

/-! hintsOf -/
def hnt (salt kind colour size : Int) : Int := ghash [salt, kind, colour, wrap64 (Int.tdiv size 10)]
def hintAt (salt : Int) (x : S113) : Int := hnt salt x.f0.f1 x.f0.f2 x.f0.f3
def hintsOf (l : List (S113)) (salt : Int) : List Int := if areFinds l = true then uni (l.map (hintAt salt)) [] else []
theorem hintsOf_len (l : List (S113)) (salt : Int) : (hintsOf l salt).length ≤ l.length := by
  unfold hintsOf
  split
  · have := uni_len (l.map (hintAt salt)) []
    simpa using this
  · simp
theorem hintsOf_asc (l : List (S113)) (salt : Int) : asc (hintsOf l salt) := by
  unfold hintsOf
  split
  · exact uni_asc _ _
  · exact asc_nil

/-! spec_HintsOf -/
theorem spec_HintsOf_ev (l : List (S113)) (salt : Int) (h : l.length ≤ 1099511627776) : Ev (fun k => spec_HintsOf.f k l salt) (hintsOf l salt) := by
  have jf : ∀ (s : List Int) (i : Int), Ev (fun k => spec_HintsOf.j1 k l salt s i false) s := by
    intro n i
    refine ev_succ ?_
    simp only [spec_HintsOf.j1, Bool.false_eq_true, if_false]
    exact Ev.now _
  unfold hintsOf
  cases hc : areFinds l with
  | false =>
    simp only [Bool.false_eq_true, if_false]
    unfold spec_HintsOf.f
    refine ev_succ ?_
    by_cases h0 : (0 : Int) < (l.length : Int)
    · simp only [spec_HintsOf.l0, if_pos h0]
      refine Ev.bind (spec_AreFinds_ev l h) ?_
      rw [hc]
      exact jf _ _
    · simp only [spec_HintsOf.l0, if_neg h0]
      exact jf _ _
  | true =>
    simp only [if_true]
    rw [uni_puts]
    refine ev_range l (fun k (s : List Int) i => spec_HintsOf.l0 k l salt s i) (fun s r => puts s (r.map (hintAt salt))) (fun p s => s.length ≤ p.length) (by omega) ?_ ?_ [] (Nat.le_refl _)
    · intro s _
      simp only [spec_HintsOf.l0, if_neg (Int.lt_irrefl _)]
      exact jf _ _
    · intro pre x rest s e hlt hget hs ih
      have hr : rd_T113 l (pre.length : Int) = x := hget _
      have hs' : s.length ≤ pre.length := hs
      have hd : ghash [salt, x.f0.f1, x.f0.f2, wrap64 (Int.tdiv x.f0.f3 10)] = hintAt salt x := rfl
      have hp := put_len (hintAt salt x) s
      simp only [spec_HintsOf.l0, if_pos hlt]
      refine Ev.bind (spec_AreFinds_ev l h) ?_
      rw [hc]
      refine ev_succ ?_
      simp only [spec_HintsOf.j1, if_true, if_pos (ge0 pre.length), if_pos hlt, hr]
      refine Ev.bind (spec_HintOf_ev _ _ _ _ _ _) ?_
      simp only [hd]
      refine Ev.bind (spec_l9Put_ev s (hintAt salt x) (by omega)) ?_
      exact ih (put (hintAt salt x) s) (by simp; omega)

/-! type_124 -/
theorem rd_T124_pre (pre : List (S124)) (x : S124) (rest : List (S124)) : rd_T124 (pre ++ x :: rest) (pre.length : Int) = x := getD_pre pre x rest z124

/-! conv_Find -/
def cFind (x : S124) : S113 := (⟨(⟨x.f0.f0, x.f0.f1, x.f0.f2, x.f0.f3, x.f0.f4⟩ : S111), x.f1, x.f2, x.f3⟩ : S113)

/-! laws_toFindS -/
theorem laws_toFindS_loop (rest : List (S124)) : ∀ (pre : List (S124)), (pre ++ rest).length ≤ 1099511627776 → Ev (fun k => laws_toFindS.l0 k (pre ++ rest) ((pre).map cFind ++ List.replicate rest.length z113) (pre.length : Int)) ((pre ++ rest).map cFind) := by
  induction rest with
  | nil =>
    intro pre h
    refine ev_succ ?_
    simp only [laws_toFindS.l0, if_neg (nlt_pre pre)]
    exact ev_const (by simp)
  | cons x rest ih =>
    intro pre h
    have hl := len_pre pre x rest
    have hlt : (pre.length : Int) < (((pre).map cFind ++ List.replicate (x :: rest).length z113).length : Int) := by
      simp
      omega
    have hset : ((pre).map cFind ++ List.replicate (x :: rest).length z113).set ((pre.length : Int)).toNat (⟨(⟨x.f0.f0, x.f0.f1, x.f0.f2, x.f0.f3, x.f0.f4⟩ : S111), x.f1, x.f2, x.f3⟩ : S113) = (pre ++ [x]).map cFind ++ List.replicate rest.length z113 := by
      simp [List.replicate_succ, cFind]
    refine ev_succ ?_
    simp only [laws_toFindS.l0, if_pos (lt_pre pre x rest), if_pos (ge0 pre.length), rd_T124_pre, laws_toFind.f, laws_toThing.f, Option.bind_some, if_pos hlt, wsucc (show pre.length < 9223372036854775807 by omega)]
    refine ev_map (Ev.congr (fun k => ?_) (ih (pre ++ [x]) (by rw [← app_pre]; exact h))) (by rw [← app_pre pre x rest])
    rw [hset, snoc_len pre x, ← app_pre pre x rest]
theorem laws_toFindS_ev (l : List (S124)) (h : l.length ≤ 1048576) : Ev (fun k => laws_toFindS.f k l) (l.map cFind) := by
  have e := laws_toFindS_loop l [] (by simp; omega)
  unfold laws_toFindS.f
  simp only [if_pos (ge0 l.length), if_pos (show ((l.length : Int)).toNat ≤ 4398046511104 by omega)]
  exact e

/-! impl_InRange -/
theorem impl_InRange_eq (a b c : Int) : impl_InRange.f a b c = some (inr a b c) := by
  unfold impl_InRange.f inr
  by_cases h : b ≤ a <;> simp [h]

/-! impl_IsThing -/
theorem impl_IsThing_eq (a b c d e : Int) : impl_IsThing.f a b c d e = some (isThing a b c d e) := by
  simp only [impl_IsThing.f, impl_InRange_eq, Option.bind_some, ite_and, isThing]

/-! impl_IsFind -/
theorem impl_IsFind_eq (a b c d e f g h : Int) : impl_IsFind.f a b c d e f g h = some (isFind a b c d e f g h) := by
  simp only [impl_IsFind.f, impl_IsThing_eq, impl_InRange_eq, Option.bind_some, ite_and, isFind]

/-! impl_AreFinds -/
theorem impl_AreFinds_ev (l : List (S113)) (hl : l.length < 9223372036854775807) : Ev (fun k => impl_AreFinds.f k l) (areFinds l) := by
  unfold impl_AreFinds.f areFinds
  by_cases hb : (l.length : Int) > 20
  · simp only [if_pos hb]
    exact ev_const (by simp; omega)
  · simp only [if_neg hb, show decide (l.length ≤ 20) = true from decide_eq_true (by omega), Bool.true_and]
    refine ev_range l (fun k (_ : Option (S113)) i => impl_AreFinds.l0 k l l (l.length : Int) i) (fun s r => fdOk s r) (fun p s => s = p.getLast?) hl ?_ ?_ none rfl
    · intro s _
      simp only [impl_AreFinds.l0, if_neg (Int.lt_irrefl _)]
      exact Ev.now _
    · rintro pre x rest s e hlt hget rfl ih
      have hr : rd_T113 l (pre.length : Int) = x := hget _
      have ih' := ih (some x) (by simp)
      have hf : isFind x.f0.f0 x.f0.f1 x.f0.f2 x.f0.f3 x.f0.f4 x.f1 x.f2 x.f3 = fdFits x := rfl
      simp only [impl_AreFinds.l0, if_pos hlt, if_pos (ge0 pre.length), hr, impl_IsFind_eq, Option.bind_some, fdOk, hf]
      cases h1 : fdFits x with
      | false => exact Ev.now _
      | true =>
        simp only [if_true, Bool.true_and]
        rcases prev_cases e hl with ⟨hp, hn⟩ | ⟨y, hy, h4, h5, h6, h7⟩
        · simp only [if_neg hn]
          exact ev_map ih' (by simp [hp])
        · have hr7 : rd_T113 l (wrap64 ((pre.length : Int) - 1)) = y := h7 _
          simp only [if_pos h4, if_pos h5, if_pos h6, hr7, hy]
          by_cases h8 : x.f0.f0 ≤ y.f0.f0
          · simp only [if_pos h8]
            exact ev_const (by simp [show ¬ y.f0.f0 < x.f0.f0 by omega])
          · simp only [if_neg h8]
            exact ev_map ih' (by simp [show y.f0.f0 < x.f0.f0 by omega])

/-! impl_Mod -/
theorem impl_Mod_eq (a : Int) : impl_Mod.f a 2147483647 = some (a % 2147483647) := by
  simp only [impl_Mod.f, impl_InRange_eq, Option.bind_some]
  rw [if_pos (by decide), if_neg (by decide)]
  by_cases h : Int.tmod a 2147483647 < 0
  · rw [if_pos h, mod_lo a h]
  · rw [if_neg h, mod_hi a h]

/-! impl_fold -/
theorem impl_fold_eq (a v : Int) : impl_fold.f a v = some (hstep a v) := by
  simp only [impl_fold.f, impl_Mod_eq, Option.bind_some, hstep]

/-! impl_Hash -/
theorem impl_Hash_loop (rest : List Int) : ∀ (pre : List Int) (acc : Int), (pre ++ rest).length < 9223372036854775807 → Ev (fun k => impl_Hash.l0 k acc (pre ++ rest) ((pre ++ rest).length : Int) (pre.length : Int)) (rest.foldl hstep acc) := by
  induction rest with
  | nil =>
    intro pre acc h
    refine ev_succ ?_
    simp only [impl_Hash.l0, if_neg (nlt_pre pre)]
    exact Ev.now _
  | cons x rest ih =>
    intro pre acc h
    have hl := len_pre pre x rest
    refine ev_succ ?_
    simp only [impl_Hash.l0, if_pos (lt_pre pre x rest), if_pos (ge0 pre.length), rd_pre, impl_fold_eq, Option.bind_some, wsucc (show pre.length < 9223372036854775807 by omega)]
    rw [snoc_len pre x]
    have := ih (pre ++ [x]) (hstep acc x) (by rw [← app_pre]; exact h)
    rw [← app_pre] at this
    exact this
theorem impl_Hash_ev (l : List Int) (h : l.length < 9223372036854775807) : Ev (fun k => impl_Hash.f k l) (ghash l) := impl_Hash_loop l [] 11 h

/-! impl_hint -/
theorem impl_hint_ev (s b c d : Int) : Ev (fun k => impl_hint.f k s b c d) (ghash [s, b, c, wrap64 (Int.tdiv d 10)]) := by
  simp only [impl_hint.f]
  exact Ev.bind (impl_Hash_ev _ (by simp)) (Ev.now _)

/-! impl_HintOf -/
theorem impl_HintOf_ev (a b c d e s : Int) : Ev (fun k => impl_HintOf.f k a b c d e s) (ghash [s, b, c, wrap64 (Int.tdiv d 10)]) := by
  simp only [impl_HintOf.f]
  exact Ev.bind (impl_hint_ev _ _ _ _) (Ev.now _)

/-! impl_united -/
theorem impl_united_eq (l m : List Int) (h : l.length + m.length < 17592186044416) : impl_united.f l m = some (uni l m) := by
  unfold impl_united.f uni msort
  rw [if_pos h]

/-! impl_HintsOf -/
theorem impl_HintsOf_ev (l : List (S113)) (salt : Int) (h : l.length ≤ 1099511627776) : Ev (fun k => impl_HintsOf.f k l salt) (hintsOf l salt) := by
  unfold hintsOf impl_HintsOf.f
  refine Ev.bind (impl_AreFinds_ev l (by omega)) ?_
  cases hc : areFinds l with
  | false => exact Ev.now _
  | true =>
    simp only [if_true]
    refine ev_map (ev_range l (fun k (s : List Int) i => impl_HintsOf.l0 k salt s l (l.length : Int) i) (fun s r => uni (s ++ r.map (hintAt salt)) []) (fun p s => s.length ≤ p.length) (by omega) ?_ ?_ [] (Nat.le_refl _)) (by simp)
    · intro s hs
      have hs' : s.length ≤ l.length := hs
      simp only [impl_HintsOf.l0, if_neg (Int.lt_irrefl _), impl_united_eq s [] (show s.length + ([] : List Int).length < 17592186044416 by rw [List.length_nil]; omega), Option.bind_some]
      exact ev_const (by simp)
    · intro pre x rest s e hlt hget hs ih
      have hr : rd_T113 l (pre.length : Int) = x := hget _
      have hs' : s.length ≤ pre.length := hs
      have hd : ghash [salt, x.f0.f1, x.f0.f2, wrap64 (Int.tdiv x.f0.f3 10)] = hintAt salt x := rfl
      simp only [impl_HintsOf.l0, if_pos hlt, if_pos (ge0 pre.length), hr]
      refine Ev.bind (impl_HintOf_ev _ _ _ _ _ _) ?_
      simp only [hd, if_pos (show s.length < 17592186044416 by omega)]
      exact ev_map (ih (s ++ [hintAt salt x]) (by simp; omega)) (by simp)

/-! laws_eqIntS -/
theorem laws_eqIntS_loop (rest : List Int) : ∀ (pre : List Int), (pre ++ rest).length ≤ 1099511627776 → Ev (fun k => laws_eqIntS.l0 k (pre ++ rest) (pre ++ rest) (pre.length : Int)) true := by
  induction rest with
  | nil =>
    intro pre h
    refine ev_succ ?_
    simp only [laws_eqIntS.l0, if_neg (nlt_pre pre)]
    exact Ev.now _
  | cons x rest ih =>
    intro pre h
    have hl := len_pre pre x rest
    refine ev_succ ?_
    simp only [laws_eqIntS.l0, if_pos (lt_pre pre x rest), if_pos (ge0 pre.length), rd_pre, Option.bind_some, if_true, wsucc (show pre.length < 9223372036854775807 by omega)]
    refine Ev.congr (fun k => ?_) (ih (pre ++ [x]) (by rw [← app_pre]; exact h))
    rw [snoc_len pre x, ← app_pre]
theorem laws_eqIntS_refl (l : List Int) (h : l.length ≤ 1099511627776) : Ev (fun k => laws_eqIntS.f k l l) true := by
  have e := laws_eqIntS_loop l [] h
  unfold laws_eqIntS.f
  simp only [if_true]
  exact e

/-! laws_eqFindS -/
theorem laws_eqFindS_loop (rest : List (S113)) : ∀ (pre : List (S113)), (pre ++ rest).length ≤ 1099511627776 → Ev (fun k => laws_eqFindS.l0 k (pre ++ rest) (pre ++ rest) (pre.length : Int)) true := by
  induction rest with
  | nil =>
    intro pre h
    refine ev_succ ?_
    simp only [laws_eqFindS.l0, if_neg (nlt_pre pre)]
    exact Ev.now _
  | cons x rest ih =>
    intro pre h
    have hl := len_pre pre x rest
    refine ev_succ ?_
    simp only [laws_eqFindS.l0, if_pos (lt_pre pre x rest), if_pos (ge0 pre.length), rd_T113_pre, laws_eqFind.f, laws_eqThing.f, Option.bind_some, if_true, wsucc (show pre.length < 9223372036854775807 by omega)]
    refine Ev.congr (fun k => ?_) (ih (pre ++ [x]) (by rw [← app_pre]; exact h))
    rw [snoc_len pre x, ← app_pre]
theorem laws_eqFindS_refl (l : List (S113)) (h : l.length ≤ 1099511627776) : Ev (fun k => laws_eqFindS.f k l l) true := by
  have e := laws_eqFindS_loop l [] h
  unfold laws_eqFindS.f
  simp only [if_true]
  exact e

/-! marked_Find -/
def markedFind : List (S113) → Int → List (S113)
  | [], _ => []
  | _ :: l, a => (⟨(⟨a, a + 1, a + 2, a + 3, a + 4⟩ : S111), a + 5, a + 6, a + 7⟩ : S113) :: markedFind l (a + 8)
theorem markedFind_length (l : List (S113)) : ∀ a, (markedFind l a).length = l.length := by
  induction l with
  | nil => intro a; rfl
  | cons x l ih => intro a; simp [markedFind, ih]
-- Find

/-! laws_markFindS -/
theorem laws_markFindS_loop (rest : List (S113)) : ∀ (pre : List (S113)) (a : Int), 0 ≤ a → a + 8 * (rest.length : Int) ≤ 9223372036854775000 → (pre ++ rest).length ≤ 1099511627776 → Ev (fun k => laws_markFindS.l0 k (pre ++ rest) a (pre.length : Int)) (a + 8 * (rest.length : Int), pre ++ markedFind rest a) := by
  induction rest with
  | nil =>
    intro pre a h0 h1 h
    refine ev_succ ?_
    simp only [laws_markFindS.l0, if_neg (nlt_pre pre)]
    exact ev_const (by simp [markedFind])
  | cons x rest ih =>
    intro pre a h0 h1 h
    have hl := len_pre pre x rest
    rw [List.length_cons] at h1
    refine ev_succ ?_
    simp only [laws_markFindS.l0, if_pos (lt_pre pre x rest), if_pos (ge0 pre.length), rd_T113_pre, set_pre, Option.bind_some, wsucc (show pre.length < 9223372036854775807 by omega), w64 (x := a + 1) (by omega) (by omega), w64 (x := a + 2) (by omega) (by omega), w64 (x := a + 3) (by omega) (by omega), w64 (x := a + 4) (by omega) (by omega), w64 (x := a + 5) (by omega) (by omega), w64 (x := a + 6) (by omega) (by omega), w64 (x := a + 7) (by omega) (by omega), w64 (x := a + 8) (by omega) (by omega), show a + 1 + 1 = a + 2 by omega, show a + 2 + 1 = a + 3 by omega, show a + 3 + 1 = a + 4 by omega, show a + 4 + 1 = a + 5 by omega, show a + 5 + 1 = a + 6 by omega, show a + 6 + 1 = a + 7 by omega, show a + 7 + 1 = a + 8 by omega]
    refine Ev.congr (fun k => ?_) (ev_map (ih (pre ++ [(⟨(⟨a, a + 1, a + 2, a + 3, a + 4⟩ : S111), a + 5, a + 6, a + 7⟩ : S113)]) (a + 8) (by omega) (by omega) (by rw [← app_pre, len_pre]; omega)) ?_)
    · rw [← app_pre, List.length_append, List.length_singleton]
    · simp only [markedFind, List.length_cons, List.append_assoc, List.singleton_append, Prod.mk.injEq, and_true]
      omega
theorem laws_markFindS_ev (l : List (S113)) (a : Int) (h0 : 0 ≤ a) (h1 : a ≤ 1099511627776) (h : l.length ≤ 1099511627776) : Ev (fun k => laws_markFindS.f k l a) (a + 8 * (l.length : Int), markedFind l a) := laws_markFindS_loop l [] a h0 (by omega) h

/-! marked_Int -/
def markedInt : List Int → Int → List Int
  | [], _ => []
  | _ :: l, a => a :: markedInt l (a + 1)
theorem markedInt_length (l : List Int) : ∀ a, (markedInt l a).length = l.length := by
  induction l with
  | nil => intro a; rfl
  | cons x l ih => intro a; simp [markedInt, ih]
-- Int

/-! laws_markIntS -/
theorem laws_markIntS_loop (rest : List Int) : ∀ (pre : List Int) (a : Int), 0 ≤ a → a + 1 * (rest.length : Int) ≤ 9223372036854775000 → (pre ++ rest).length ≤ 1099511627776 → Ev (fun k => laws_markIntS.l0 k (pre ++ rest) a (pre.length : Int)) (a + 1 * (rest.length : Int), pre ++ markedInt rest a) := by
  induction rest with
  | nil =>
    intro pre a h0 h1 h
    refine ev_succ ?_
    simp only [laws_markIntS.l0, if_neg (nlt_pre pre)]
    exact ev_const (by simp [markedInt])
  | cons x rest ih =>
    intro pre a h0 h1 h
    have hl := len_pre pre x rest
    rw [List.length_cons] at h1
    refine ev_succ ?_
    simp only [laws_markIntS.l0, if_pos (lt_pre pre x rest), if_pos (ge0 pre.length), rd_pre, set_pre, Option.bind_some, wsucc (show pre.length < 9223372036854775807 by omega), w64 (x := a + 1) (by omega) (by omega)]
    refine Ev.congr (fun k => ?_) (ev_map (ih (pre ++ [a]) (a + 1) (by omega) (by omega) (by rw [← app_pre, len_pre]; omega)) ?_)
    · rw [← app_pre, List.length_append, List.length_singleton]
    · simp only [markedInt, List.length_cons, List.append_assoc, List.singleton_append, Prod.mk.injEq, and_true]
      omega
theorem laws_markIntS_ev (l : List Int) (a : Int) (h0 : 0 ≤ a) (h1 : a ≤ 1099511627776) (h : l.length ≤ 1099511627776) : Ev (fun k => laws_markIntS.f k l a) (a + 1 * (l.length : Int), markedInt l a) := laws_markIntS_loop l [] a h0 (by omega) h

/-! laws_heldIntS -/
theorem laws_heldIntS_loop (rest : List Int) : ∀ (pre : List Int) (a : Int), 0 ≤ a → a + 1 * (rest.length : Int) ≤ 9223372036854775000 → (pre ++ rest).length ≤ 1099511627776 → Ev (fun k => laws_heldIntS.l0 k (pre ++ markedInt rest a) a (pre.length : Int)) (a + 1 * (rest.length : Int)) := by
  induction rest with
  | nil =>
    intro pre a h0 h1 h
    refine ev_succ ?_
    show Ev (fun k => laws_heldIntS.l0 (k + 1) (pre ++ []) a (pre.length : Int)) _
    simp only [laws_heldIntS.l0, if_neg (nlt_pre pre)]
    exact ev_const (by simp)
  | cons x rest ih =>
    intro pre a h0 h1 h
    have hl := len_pre pre x rest
    rw [List.length_cons] at h1
    refine ev_succ ?_
    show Ev (fun k => laws_heldIntS.l0 (k + 1) (pre ++ a :: markedInt rest (a + 1)) a (pre.length : Int)) _
    simp only [laws_heldIntS.l0, if_pos (lt_pre _ _ _), if_pos (ge0 pre.length), rd_pre, wsucc (show pre.length < 9223372036854775807 by omega), w64 (x := a + 1) (by omega) (by omega), if_true]
    refine Ev.congr (fun k => ?_) (ev_map (ih (pre ++ [a]) (a + 1) (by omega) (by omega) (by rw [← app_pre, len_pre]; omega)) ?_)
    · rw [← app_pre, List.length_append, List.length_singleton]
    · rw [List.length_cons]
      omega
theorem laws_heldIntS_ev (l : List Int) (a : Int) (h0 : 0 ≤ a) (h1 : a ≤ 1099511627776) (h : l.length ≤ 1099511627776) : Ev (fun k => laws_heldIntS.f k (markedInt l a) a) (a + 1 * (l.length : Int)) := laws_heldIntS_loop l [] a h0 (by omega) h

/-! the law -/
theorem Pf.FnExactHintsOf : FnExactHintsOfLaw := by
  intro l0 a1 hm0 hq0 hq1
  refine Ev.rounds ?_
  unfold laws_FnExactHintsOf.f
  by_cases hl0 : (l0.length : Int) ≤ 1048576
  · have hsz0 : ¬ (1048576 - (l0.length : Int) < 0) := by omega
    simp only [laws_szFindS_ok l0 (1048576) hl0 (by omega), Option.bind_some, if_neg hsz0]
    have hc0 : (l0.map cFind).length ≤ 1048576 := by rw [List.length_map]; omega
    have hk0 : ¬ ((1 : Int) + 8 * ((l0.map cFind).length : Int) < 0) := by omega
    have hR0 : (hintsOf (l0.map cFind) a1).length ≤ 1099511627776 := Nat.le_trans (hintsOf_len _ _) (by omega)
    have hr0 : ¬ ((1 : Int) + 1 * ((hintsOf (l0.map cFind) a1).length : Int) < 0) := by omega
    repeat' first
      | exact Ev.now _
      | refine Ev.bind (spec_HintsOf_ev _ _ (by omega)) ?_
      | refine Ev.bind (impl_HintsOf_ev _ _ (by omega)) ?_
      | refine Ev.bind (laws_toFindS_ev _ (by omega)) ?_
      | refine Ev.bind (laws_eqFindS_refl _ (by omega)) ?_
      | refine Ev.bind (laws_markFindS_ev _ _ (by omega) (by omega) (by omega)) ?_
      | refine Ev.bind (laws_eqIntS_refl _ (by omega)) ?_
      | refine Ev.bind (laws_markIntS_ev _ _ (by omega) (by omega) (by omega)) ?_
      | refine Ev.bind (laws_heldIntS_ev _ _ (by omega) (by omega) (by omega)) ?_
      | simp only [if_true, if_false, Bool.not_true, Bool.not_false, bne_self_eq_false, Bool.false_eq_true, Option.bind_some, if_neg hk0, if_neg hr0]
      | (refine ev_succ ?_; simp only [laws_FnExactHintsOf.j0])
  · simp only [laws_szFindS_big l0 (1048576) (by omega) (by omega) hm0, Option.bind_some]
    exact Ev.now _

end Go.Proofs.Ytejhjenlodclpaa.PFnExactHintsOf
