/- The plain part of FnExactAskHouses: what the printed functions come to, and that the law's answer is true. No conditions beyond those of the statement. -/
import Derived.Test.YtejhjenlodclpaaPFnExactAskHousesx
import Derived.Test.YtejhjenlodclpaaBaseFnExactAskHouses
import Derived.Test.YtejhjenlodclpaaDefFnExactAskHouses
namespace Go.Proofs.Ytejhjenlodclpaa.PFnExactAskHouses
open Go.RowKit Go.Proofs.YtejhjenlodclpaaW.PrintWords Go.Proofs.YtejhjenlodclpaaW.PrintMore Go.Proofs.Ytejhjenlodclpaa.Base
set_option linter.unusedVariables false
set_option linter.unusedSimpArgs false

/-! laws_eqIntS -/
theorem laws_eqIntS_loop (rest : List Int) : ∀ (pre : List Int), (pre ++ rest).length ≤ 1099511627776 → Ev (fun k => laws_eqIntS.l0 k (pre ++ rest) (pre ++ rest) (pre.length : Int)) true := by
  induction rest with
  | nil =>
    intro pre h
    refine ev_succ ?_
    simp only [laws_eqIntS.l0, if_neg (nlt_pre pre)]
    exact Ev.now _
  | cons x rest ih =>
    intro pre h
    have hl := len_pre pre x rest
    refine ev_succ ?_
    simp only [laws_eqIntS.l0, if_pos (lt_pre pre x rest), if_pos (ge0 pre.length), rd_pre, Option.bind_some, if_true, wsucc (show pre.length < 9223372036854775807 by omega)]
    refine Ev.congr (fun k => ?_) (ih (pre ++ [x]) (by rw [← app_pre]; exact h))
    rw [snoc_len pre x, ← app_pre]
theorem laws_eqIntS_refl (l : List Int) (h : l.length ≤ 1099511627776) : Ev (fun k => laws_eqIntS.f k l l) true := by
  have e := laws_eqIntS_loop l [] h
  unfold laws_eqIntS.f
  simp only [if_true]
  exact e

/-! marked_Int -/
def markedInt : List Int → Int → List Int
  | [], _ => []
  | _ :: l, a => a :: markedInt l (a + 1)
theorem markedInt_length (l : List Int) : ∀ a, (markedInt l a).length = l.length := by
  induction l with
  | nil => intro a; rfl
  | cons x l ih => intro a; simp [markedInt, ih]
-- Int

/-! laws_markIntS -/
theorem laws_markIntS_loop (rest : List Int) : ∀ (pre : List Int) (a : Int), 0 ≤ a → a + 1 * (rest.length : Int) ≤ 9223372036854775000 → (pre ++ rest).length ≤ 1099511627776 → Ev (fun k => laws_markIntS.l0 k (pre ++ rest) a (pre.length : Int)) (a + 1 * (rest.length : Int), pre ++ markedInt rest a) := by
  induction rest with
  | nil =>
    intro pre a h0 h1 h
    refine ev_succ ?_
    simp only [laws_markIntS.l0, if_neg (nlt_pre pre)]
    exact ev_const (by simp [markedInt])
  | cons x rest ih =>
    intro pre a h0 h1 h
    have hl := len_pre pre x rest
    rw [List.length_cons] at h1
    refine ev_succ ?_
    simp only [laws_markIntS.l0, if_pos (lt_pre pre x rest), if_pos (ge0 pre.length), rd_pre, set_pre, Option.bind_some, wsucc (show pre.length < 9223372036854775807 by omega), w64 (x := a + 1) (by omega) (by omega)]
    refine Ev.congr (fun k => ?_) (ev_map (ih (pre ++ [a]) (a + 1) (by omega) (by omega) (by rw [← app_pre, len_pre]; omega)) ?_)
    · rw [← app_pre, List.length_append, List.length_singleton]
    · simp only [markedInt, List.length_cons, List.append_assoc, List.singleton_append, Prod.mk.injEq, and_true]
      omega
theorem laws_markIntS_ev (l : List Int) (a : Int) (h0 : 0 ≤ a) (h1 : a ≤ 1099511627776) (h : l.length ≤ 1099511627776) : Ev (fun k => laws_markIntS.f k l a) (a + 1 * (l.length : Int), markedInt l a) := laws_markIntS_loop l [] a h0 (by omega) h

/-! laws_heldIntS -/
theorem laws_heldIntS_loop (rest : List Int) : ∀ (pre : List Int) (a : Int), 0 ≤ a → a + 1 * (rest.length : Int) ≤ 9223372036854775000 → (pre ++ rest).length ≤ 1099511627776 → Ev (fun k => laws_heldIntS.l0 k (pre ++ markedInt rest a) a (pre.length : Int)) (a + 1 * (rest.length : Int)) := by
  induction rest with
  | nil =>
    intro pre a h0 h1 h
    refine ev_succ ?_
    show Ev (fun k => laws_heldIntS.l0 (k + 1) (pre ++ []) a (pre.length : Int)) _
    simp only [laws_heldIntS.l0, if_neg (nlt_pre pre)]
    exact ev_const (by simp)
  | cons x rest ih =>
    intro pre a h0 h1 h
    have hl := len_pre pre x rest
    rw [List.length_cons] at h1
    refine ev_succ ?_
    show Ev (fun k => laws_heldIntS.l0 (k + 1) (pre ++ a :: markedInt rest (a + 1)) a (pre.length : Int)) _
    simp only [laws_heldIntS.l0, if_pos (lt_pre _ _ _), if_pos (ge0 pre.length), rd_pre, wsucc (show pre.length < 9223372036854775807 by omega), w64 (x := a + 1) (by omega) (by omega), if_true]
    refine Ev.congr (fun k => ?_) (ev_map (ih (pre ++ [a]) (a + 1) (by omega) (by omega) (by rw [← app_pre, len_pre]; omega)) ?_)
    · rw [← app_pre, List.length_append, List.length_singleton]
    · rw [List.length_cons]
      omega
theorem laws_heldIntS_ev (l : List Int) (a : Int) (h0 : 0 ≤ a) (h1 : a ≤ 1099511627776) (h : l.length ≤ 1099511627776) : Ev (fun k => laws_heldIntS.f k (markedInt l a) a) (a + 1 * (l.length : Int)) := laws_heldIntS_loop l [] a h0 (by omega) h

/-! laws_szIntS -/
theorem laws_szIntS_ok (l : List Int) (a : Int) (h0 : (l.length : Int) ≤ a) (h1 : a ≤ 1048576) : laws_szIntS.f l a = some (a - (l.length : Int)) := by
  unfold laws_szIntS.f
  rw [w64 (by omega) (by omega), if_neg (by omega)]
theorem laws_szIntS_big (l : List Int) (a : Int) (h0 : a < (l.length : Int)) (h1 : 0 ≤ a) (h2 : l.length ≤ 9223372036854775807) : laws_szIntS.f l a = some (-1) := by
  unfold laws_szIntS.f
  rw [w64 (by omega) (by omega), if_pos (by omega)]

/-! laws_szReport -/
theorem szReport_ok (a b : Int) (l : List Int) (c d : Int) (m : List Int) (e f s : Int) (h : (l.length : Int) + (m.length : Int) ≤ s) (hs : s ≤ 1048576) : laws_szReport.f a b l c d m e f s = some (s - (l.length : Int) - (m.length : Int)) := by
  unfold laws_szReport.f
  rw [laws_szIntS_ok l s (by omega) hs, Option.bind_some, if_neg (by omega), laws_szIntS_ok m _ (by omega) (by omega), Option.bind_some, if_neg (by omega)]
theorem szReport_big (a b : Int) (l : List Int) (c d : Int) (m : List Int) (e f s : Int) (h : s < (l.length : Int) + (m.length : Int)) (h0 : 0 ≤ s) (hs : s ≤ 1048576) (hl : l.length ≤ 9223372036854775807) (hm : m.length ≤ 9223372036854775807) : laws_szReport.f a b l c d m e f s = some (-1) := by
  unfold laws_szReport.f
  by_cases h1 : (l.length : Int) ≤ s
  · rw [laws_szIntS_ok l s h1 hs, Option.bind_some, if_neg (by omega), laws_szIntS_big m _ (by omega) (by omega) hm, Option.bind_some, if_pos (by omega)]
  · rw [laws_szIntS_big l s (by omega) h0 hl, Option.bind_some, if_pos (by omega)]

/-! laws_toIntS -/
theorem laws_toIntS_loop (rest : List Int) : ∀ (pre : List Int), (pre ++ rest).length ≤ 1099511627776 → Ev (fun k => laws_toIntS.l0 k (pre ++ rest) (pre ++ List.replicate rest.length (0 : Int)) (pre.length : Int)) (pre ++ rest) := by
  induction rest with
  | nil =>
    intro pre h
    refine ev_succ ?_
    simp only [laws_toIntS.l0, if_neg (nlt_pre pre)]
    exact ev_const (by simp)
  | cons x rest ih =>
    intro pre h
    have hl := len_pre pre x rest
    have hlt : (pre.length : Int) < ((pre ++ List.replicate (x :: rest).length (0 : Int)).length : Int) := by
      simp
      omega
    have hset : (pre ++ List.replicate (x :: rest).length (0 : Int)).set ((pre.length : Int)).toNat x = (pre ++ [x]) ++ List.replicate rest.length (0 : Int) := by
      simp [List.replicate_succ]
    refine ev_succ ?_
    simp only [laws_toIntS.l0, if_pos (lt_pre pre x rest), if_pos (ge0 pre.length), rd_pre, Option.bind_some, if_pos hlt, wsucc (show pre.length < 9223372036854775807 by omega)]
    refine ev_map (Ev.congr (fun k => ?_) (ih (pre ++ [x]) (by rw [← app_pre]; exact h))) (by rw [← app_pre pre x rest])
    rw [hset, snoc_len pre x, ← app_pre pre x rest]
theorem laws_toIntS_ev (l : List Int) (h : l.length ≤ 1048576) : Ev (fun k => laws_toIntS.f k l) (l) := by
  have e := laws_toIntS_loop l [] (by simp; omega)
  unfold laws_toIntS.f
  simp only [if_pos (ge0 l.length), if_pos (show ((l.length : Int)).toNat ≤ 35184372088832 by omega)]
  exact e

/-! laws_toReport -/
theorem toReport_ev (a b : Int) (l : List Int) (c d : Int) (m : List Int) (e f : Int) (hl : l.length ≤ 1048576) (hm : m.length ≤ 1048576) : Ev (fun k => laws_toReport.f k a b l c d m e f) (a, b, l, c, d, m, e, f) := by
  unfold laws_toReport.f
  refine Ev.bind (laws_toIntS_ev l hl) ?_
  refine Ev.bind (laws_toIntS_ev m hm) ?_
  simp only [laws_toSpan.f, Option.bind_some]
  exact Ev.now _

/-! laws_eqReport -/
theorem eqReport_refl (a b : Int) (l : List Int) (c d : Int) (m : List Int) (e f : Int) (hl : l.length ≤ 1048576) (hm : m.length ≤ 1048576) : Ev (fun k => laws_eqReport.f k a b l c d m e f a b l c d m e f) true := by
  unfold laws_eqReport.f
  simp only [if_true]
  refine Ev.bind (laws_eqIntS_refl l (by omega)) ?_
  simp only [if_true]
  refine Ev.bind (laws_eqIntS_refl m (by omega)) ?_
  simp only [if_true, laws_eqSpan.f, Option.bind_some]
  exact Ev.now _

/-! laws_markReport -/
theorem markReport_ev (a b : Int) (l : List Int) (c d : Int) (m : List Int) (e f : Int) (hl : l.length ≤ 1048576) (hm : m.length ≤ 1048576) : ∃ x : Int × List Int × List Int, Ev (fun k => laws_markReport.f k a b l c d m e f 1) x ∧ 0 ≤ x.1 := by
  refine ⟨(1 + 1 * (l.length : Int) + 1 * (m.length : Int), markedInt l 1, markedInt m (1 + 1 * (l.length : Int))), ?_, ?_⟩
  · unfold laws_markReport.f
    refine Ev.bind (laws_markIntS_ev l 1 (by omega) (by omega) (by omega)) ?_
    refine Ev.bind (laws_markIntS_ev m (1 + 1 * (l.length : Int)) (by omega) (by omega) (by omega)) ?_
    exact Ev.now _
  · simp only []
    omega

/-! sumLen -/
def sumLen : List (List Int) → Nat
  | [] => 0
  | x :: r => x.length + sumLen r
theorem sumLen_mem : ∀ (l : List (List Int)) (y : List Int), y ∈ l → y.length ≤ sumLen l
  | [], _, h => by cases h
  | x :: r, y, h => by
    have h1 : sumLen (x :: r) = x.length + sumLen r := rfl
    rcases List.mem_cons.1 h with e | h
    · rw [e]; omega
    · have := sumLen_mem r y h; omega

/-! laws_szIntSS -/
theorem laws_szIntSS_ev (l : List (List Int)) (s : Int) (h0 : 0 ≤ s) (h1 : s ≤ 1048576) (hl : l.length ≤ 9223372036854775807) (hy : ∀ y ∈ l, y.length ≤ 9223372036854775807) :
    Ev (fun k => laws_szIntSS.f k l s) (if (l.length : Int) + (sumLen l : Int) ≤ s then s - (l.length : Int) - (sumLen l : Int) else -1) := by
  have e0 : wrap64 (s - (l.length : Int)) = s - (l.length : Int) := w64 (by omega) (by omega)
  unfold laws_szIntSS.f
  simp only [e0]
  by_cases hs : s - (l.length : Int) < 0
  · simp only [if_pos hs]
    exact ev_const (by rw [if_neg (by omega)])
  simp only [if_neg hs]
  refine ev_map (ev_range l (fun k (a : Int) i => laws_szIntSS.l0 k l a i) (fun a r => if (sumLen r : Int) ≤ a then a - (sumLen r : Int) else -1) (fun _ a => 0 ≤ a ∧ a ≤ 1048576) (by omega) ?_ ?_ (s - (l.length : Int)) (by omega)) ?_
  · intro a ha
    simp only [laws_szIntSS.l0, if_neg (Int.lt_irrefl _)]
    exact ev_const (by simp [sumLen, ha.1])
  · rintro pre x rest a e hlt hget ha ih
    have hr : rd_L1 l (pre.length : Int) = x := hget _
    have h2 : sumLen (x :: rest) = x.length + sumLen rest := rfl
    have hx := hy x (by rw [e]; simp)
    simp only [laws_szIntSS.l0, if_pos hlt, if_pos (ge0 pre.length), hr]
    by_cases h3 : (x.length : Int) ≤ a
    · simp only [laws_szIntS_ok x a h3 ha.2, Option.bind_some, if_neg (show ¬ a - (x.length : Int) < 0 by omega)]
      refine ev_map (ih (a - (x.length : Int)) (by omega)) ?_
      rw [h2]
      by_cases h4 : (sumLen rest : Int) ≤ a - (x.length : Int)
      · rw [if_pos h4, if_pos (by omega)]; omega
      · rw [if_neg h4, if_neg (by omega)]
    · simp only [laws_szIntS_big x a (by omega) ha.1 hx, Option.bind_some, if_pos (show (-1 : Int) < 0 by decide)]
      exact ev_const (by rw [h2, if_neg (by omega)])
  · by_cases h4 : (l.length : Int) + (sumLen l : Int) ≤ s
    · rw [if_pos (by omega), if_pos h4]
    · rw [if_neg (by omega), if_neg h4]

/-! put -/
/-- x goes into an ascending list, once. -/
def put (n : Int) : List Int → List Int
  | [] => [n]
  | x :: l => if x < n then x :: put n l else if x = n then x :: l else n :: x :: l
def asc (l : List Int) : Prop := l.Pairwise (fun a b => a < b)
theorem put_len (n : Int) : ∀ l : List Int, (put n l).length ≤ l.length + 1
  | [] => by simp [put]
  | x :: l => by
    have := put_len n l
    unfold put
    split
    · simp only [List.length_cons]; omega
    split
    · simp
    · simp
theorem mem_put (n z : Int) : ∀ l : List Int, z ∈ put n l ↔ z = n ∨ z ∈ l
  | [] => by simp [put]
  | x :: l => by
    have ih := mem_put n z l
    unfold put
    split
    · simp only [List.mem_cons, ih]
      constructor
      · rintro (h | h | h)
        · exact .inr (.inl h)
        · exact .inl h
        · exact .inr (.inr h)
      · rintro (h | h | h)
        · exact .inr (.inl h)
        · exact .inl h
        · exact .inr (.inr h)
    split
    · rename_i h
      subst h
      simp only [List.mem_cons]
      constructor
      · exact .inr
      · rintro (h | h | h)
        · exact .inl h
        · exact .inl h
        · exact .inr h
    · simp only [List.mem_cons]
theorem put_asc (n : Int) : ∀ l : List Int, asc l → asc (put n l)
  | [], _ => by simp [put, asc]
  | x :: l, h => by
    obtain ⟨h1, h2⟩ := List.pairwise_cons.1 h
    have ih := put_asc n l h2
    unfold put
    split
    · rename_i hx
      refine List.pairwise_cons.2 ⟨fun z hz => ?_, ih⟩
      rcases (mem_put n z l).1 hz with rfl | hz
      · exact hx
      · exact h1 z hz
    split
    · exact h
    · rename_i hx hn
      refine List.pairwise_cons.2 ⟨fun z hz => ?_, h⟩
      rcases List.mem_cons.1 hz with rfl | hz
      · omega
      · have := h1 z hz
        omega
theorem asc_ext : ∀ (l l' : List Int), asc l → asc l' → (∀ z, z ∈ l ↔ z ∈ l') → l = l'
  | [], [], _, _, _ => rfl
  | [], y :: l', _, _, h => by
    have := (h y).2 (by simp)
    simp at this
  | x :: l, [], _, _, h => by
    have := (h x).1 (by simp)
    simp at this
  | x :: l, y :: l', h1, h2, h => by
    obtain ⟨a1, a2⟩ := List.pairwise_cons.1 h1
    obtain ⟨b1, b2⟩ := List.pairwise_cons.1 h2
    have e : x = y := by
      rcases List.mem_cons.1 ((h x).1 (by simp)) with e | e
      · exact e
      rcases List.mem_cons.1 ((h y).2 (by simp)) with e' | e'
      · exact e'.symm
      have := a1 y e'
      have := b1 x e
      omega
    subst e
    rw [asc_ext l l' a2 b2 (fun z => ?_)]
    constructor
    · intro hz
      rcases List.mem_cons.1 ((h z).1 (List.mem_cons_of_mem _ hz)) with e | e
      · have := a1 z hz
        omega
      · exact e
    · intro hz
      rcases List.mem_cons.1 ((h z).2 (List.mem_cons_of_mem _ hz)) with e | e
      · have := b1 z hz
        omega
      · exact e
def puts (s l : List Int) : List Int := l.foldl (fun s x => put x s) s
theorem puts_asc : ∀ (l s : List Int), asc s → asc (puts s l)
  | [], s, h => h
  | x :: l, s, h => puts_asc l (put x s) (put_asc x s h)
theorem mem_puts (z : Int) : ∀ (l s : List Int), z ∈ puts s l ↔ z ∈ s ∨ z ∈ l
  | [], s => by simp [puts]
  | x :: l, s => by
    have ih := mem_puts z l (put x s)
    have e : puts s (x :: l) = puts (put x s) l := rfl
    rw [e, ih, mem_put, List.mem_cons]
    constructor
    · rintro ((h | h) | h)
      · exact .inr (.inl h)
      · exact .inl h
      · exact .inr (.inr h)
    · rintro (h | h | h)
      · exact .inl (.inr h)
      · exact .inl (.inl h)
      · exact .inr h
theorem puts_len : ∀ (l s : List Int), (puts s l).length ≤ s.length + l.length
  | [], s => by simp [puts]
  | x :: l, s => by
    have := puts_len l (put x s)
    have h := put_len x s
    have e : puts s (x :: l) = puts (put x s) l := rfl
    rw [e, List.length_cons]
    omega
theorem asc_nil : asc [] := List.Pairwise.nil
def msort (l : List Int) : List Int := l.mergeSort fun x y => decide (x ≤ y)
theorem msort_len (l : List Int) : (msort l).length = l.length := List.length_mergeSort l
theorem mem_msort (z : Int) (l : List Int) : z ∈ msort l ↔ z ∈ l := List.mem_mergeSort
theorem msort_le (l : List Int) : (msort l).Pairwise (fun a b => a ≤ b) := by
  have := List.pairwise_mergeSort (le := fun x y : Int => decide (x ≤ y)) (fun a b c h1 h2 => by simp at h1 h2 ⊢; omega) (fun a b => by simp; omega) l
  exact this.imp (fun h => by simpa using h)
theorem msort_asc (l : List Int) (h : l.Nodup) : asc (msort l) := by
  have h1 := msort_le l
  have h2 : (msort l).Nodup := (List.mergeSort_perm l _).nodup_iff.2 h
  exact (h1.and h2).imp (fun ⟨a, b⟩ => by omega)

/-! spec_l9Put -/
theorem spec_l9Put_ev (l : List Int) (n : Int) (h : l.length ≤ 1099511627776) : Ev (fun k => spec_l9Put.f k l n) (put n l) := by
  refine ev_map (ev_range l (fun k (_ : List Int) i => spec_l9Put.l0 k l n i) (fun s r => s ++ put n r) (fun p s => s = p) (by omega) ?_ ?_ [] rfl) (by simp)
  · rintro s rfl
    simp only [spec_l9Put.l0, if_neg (Int.lt_irrefl _), Option.bind_some, if_pos (ge0 s.length), if_pos (Int.le_refl _), List.length_nil, Int.toNat_natCast, List.take_length, List.drop_length, List.nil_append, List.length_append, List.length_singleton]
    exact ev_const (by simp only [put, List.append_nil]; repeat rw [if_pos (by omega)])
  · rintro pre x rest s e hlt hget rfl ih
    have hr : rd l (s.length : Int) = x := hget 0
    have hl : l.length = s.length + (rest.length + 1) := by rw [e, len_pre]
    have ht : l.take s.length = s := by rw [e]; simp
    have hd : l.drop s.length = x :: rest := by rw [e]; simp
    simp only [spec_l9Put.l0, if_pos hlt, if_pos (ge0 s.length), hr, put]
    by_cases h1 : x < n
    · simp only [if_pos h1]
      exact ev_map (ih (s ++ [x]) rfl) (by simp)
    by_cases h2 : x = n
    · simp only [if_neg h1, if_pos h2, Option.bind_some, List.length_nil, List.nil_append]
      rw [if_pos (by omega)]
      exact ev_const (by rw [e])
    · simp only [if_neg h1, if_neg h2, Option.bind_some, if_pos (show (s.length : Int) ≤ (l.length : Int) by omega), List.length_nil, Int.toNat_natCast, ht, hd, List.nil_append, List.length_append, List.length_singleton, List.length_cons]
      exact ev_const (by rw [if_pos (by omega), if_pos (by omega), if_pos (by omega)]; simp)

/-! spec_l1In -/
theorem spec_l1In_eq (a b c : Int) : spec_l1In.f a b c = some (inr a b c) := by
  unfold spec_l1In.f inr
  by_cases h : b ≤ a <;> simp [h]

/-! spec_Mod -/
theorem spec_Mod_eq (a : Int) : spec_Mod.f a 2147483647 = some (a % 2147483647) := by
  simp only [spec_Mod.f, spec_l1In_eq, Option.bind_some]
  rw [if_pos (by decide), if_neg (by decide), mod_up]

/-! spec_Hash -/
theorem spec_Hash_loop (rest : List Int) : ∀ (pre : List Int) (acc : Int), (pre ++ rest).length < 9223372036854775807 → Ev (fun k => spec_Hash.l0 k (pre ++ rest) acc (pre.length : Int)) (rest.foldl hstep acc) := by
  induction rest with
  | nil =>
    intro pre acc h
    refine ev_succ ?_
    simp only [spec_Hash.l0, if_neg (nlt_pre pre)]
    exact Ev.now _
  | cons x rest ih =>
    intro pre acc h
    have hl := len_pre pre x rest
    refine ev_succ ?_
    simp only [spec_Hash.l0, if_pos (lt_pre pre x rest), if_pos (ge0 pre.length), rd_pre, spec_Mod_eq, Option.bind_some, wsucc (show pre.length < 9223372036854775807 by omega)]
    rw [snoc_len pre x]
    have := ih (pre ++ [x]) (hstep acc x) (by rw [← app_pre]; exact h)
    rw [← app_pre] at this
    exact this
theorem spec_Hash_ev (l : List Int) (h : l.length < 9223372036854775807) : Ev (fun k => spec_Hash.f k l) (ghash l) := spec_Hash_loop l [] 11 h

/-! spec_HintOf -/
theorem spec_HintOf_ev (a b c d e s : Int) : Ev (fun k => spec_HintOf.f k a b c d e s) (ghash [s, b, c, wrap64 (Int.tdiv d 10)]) := by
  simp only [spec_HintOf.f]
  exact Ev.bind (spec_Hash_ev _ (by simp)) (Ev.now _)

/-! ascends -/
def ascOk (lo hi : Int) : Option Int → List Int → Bool
  | _, [] => true
  | p, x :: rest => inr x lo hi && ((match p with | none => true | some y => decide (y < x)) && ascOk lo hi (some x) rest)

/-! spec_l7Ids -/
theorem spec_l7Ids_ev (l : List Int) (lo hi : Int) (h : l.length ≤ 1099511627776) : Ev (fun k => spec_l7Ids.f k l lo hi) (ascOk lo hi none l) := by
  refine ev_range l (fun k (_ : Option Int) i => spec_l7Ids.l0 k l lo hi i) (fun s r => ascOk lo hi s r) (fun p s => s = p.getLast?) (by omega) ?_ ?_ none rfl
  · intro s _
    simp only [spec_l7Ids.l0, if_neg (Int.lt_irrefl _)]
    exact Ev.now _
  · rintro pre x rest s e hlt hget rfl ih
    have hr : rd l (pre.length : Int) = x := hget 0
    have ih' := ih (some x) (by simp)
    simp only [spec_l7Ids.l0, if_pos hlt, if_pos (ge0 pre.length), hr, spec_l1In_eq, Option.bind_some, ascOk]
    cases h1 : inr x lo hi with
    | false => exact Ev.now _
    | true =>
      simp only [if_true, Bool.true_and]
      rcases prev_cases e (by omega) with ⟨hp, hn⟩ | ⟨y, hy, h4, h5, h6, h7⟩
      · simp only [if_neg hn]
        exact ev_map ih' (by simp [hp])
      · have hr7 : rd l (wrap64 ((pre.length : Int) - 1)) = y := h7 0
        simp only [if_pos h4, if_pos h5, if_pos h6, hr7, hy]
        by_cases h8 : y ≥ x
        · simp only [if_pos h8]
          exact ev_const (by simp [show ¬ y < x by omega])
        · simp only [if_neg h8]
          exact ev_map ih' (by simp [show y < x by omega])

/-! has -/
def has (l : List Int) (n : Int) : Bool := l.any (fun y => decide (y = n))
theorem has_iff (l : List Int) (n : Int) : has l n = true ↔ n ∈ l := by
  unfold has
  rw [List.any_eq_true]
  constructor
  · rintro ⟨x, hx, h⟩
    rw [← of_decide_eq_true h]
    exact hx
  · intro h
    exact ⟨n, h, decide_eq_true rfl⟩

/-! report -/
def isSpan (a b : Int) : Bool := inr a 0 100000 && (inr b 0 100000 && decide (a ≤ b))
def isReport (id kind : Int) (cols : List Int) (lo hi : Int) (pl : List Int) (fr un : Int) : Bool :=
  inr id 1 999 && (inr kind 1 8 && (ascOk 0 7 none cols && (decide (1 ≤ lo) && (decide (lo ≤ hi) && (decide (hi ≤ 50) && (ascOk 1 30 none pl && (decide (pl.length ≤ 10) && isSpan fr un)))))))
def allows (l : List Int) (n : Int) : Bool := decide (l.length = 0) || has l n
theorem isReport_sizes {id kind : Int} {cols : List Int} {lo hi : Int} {pl : List Int} {fr un : Int} (h : isReport id kind cols lo hi pl fr un = true) : 1 ≤ lo ∧ lo ≤ hi ∧ hi ≤ 50 := by
  simp only [isReport, Bool.and_eq_true, decide_eq_true_eq] at h
  exact ⟨h.2.2.2.1, h.2.2.2.2.1, h.2.2.2.2.2.1⟩

/-! spec_IsSpan -/
theorem spec_IsSpan_eq (a b : Int) : spec_IsSpan.f a b = some (isSpan a b) := by
  unfold spec_IsSpan.f isSpan
  simp only [spec_l1In_eq, Option.bind_some]
  cases inr a 0 100000 <;> cases inr b 0 100000 <;> simp

/-! spec_IsReport -/
theorem spec_IsReport_ev (id kind : Int) (cols : List Int) (lo hi : Int) (pl : List Int) (fr un : Int) (hc : cols.length ≤ 1099511627776) (hp : pl.length ≤ 1099511627776) :
    Ev (fun k => spec_IsReport.f k id kind cols lo hi pl fr un) (isReport id kind cols lo hi pl fr un) := by
  unfold spec_IsReport.f isReport
  simp only [spec_l1In_eq, spec_IsSpan_eq, Option.bind_some]
  cases h1 : inr id 1 999 with
  | false => exact Ev.now _
  | true =>
  cases h2 : inr kind 1 8 with
  | false => exact Ev.now _
  | true =>
  simp only [if_true, Bool.true_and]
  refine Ev.bind (spec_l7Ids_ev cols 0 7 hc) ?_
  cases h3 : ascOk 0 7 none cols with
  | false => exact Ev.now _
  | true =>
  simp only [if_true, Bool.true_and]
  by_cases h4 : 1 ≤ lo
  · by_cases h5 : lo ≤ hi
    · by_cases h6 : hi ≤ 50
      · simp only [if_pos (show lo ≥ 1 from h4), if_pos h5, if_pos h6, decide_eq_true h4, decide_eq_true h5, decide_eq_true h6, Bool.true_and]
        refine Ev.bind (spec_l7Ids_ev pl 1 30 hp) ?_
        cases h7 : ascOk 1 30 none pl with
        | false => exact Ev.now _
        | true =>
          simp only [if_true, Bool.true_and]
          by_cases h8 : pl.length ≤ 10
          · simp only [if_pos (show (pl.length : Int) ≤ 10 by omega), decide_eq_true h8, Bool.true_and]
            exact Ev.now _
          · simp only [if_neg (show ¬ (pl.length : Int) ≤ 10 by omega), decide_eq_false h8, Bool.false_and]
            exact Ev.now _
      · simp only [if_pos (show lo ≥ 1 from h4), if_pos h5, if_neg h6, decide_eq_false h6, Bool.false_and, Bool.and_false]
        exact Ev.now _
    · simp only [if_pos (show lo ≥ 1 from h4), if_neg h5, decide_eq_false h5, Bool.false_and, Bool.and_false]
      exact Ev.now _
  · simp only [if_neg (show ¬ lo ≥ 1 from h4), decide_eq_false h4, Bool.false_and]
    exact Ev.now _

/-! spec_l8Has -/
theorem spec_l8Has_ev (l : List Int) (n : Int) (h : l.length ≤ 1099511627776) : Ev (fun k => spec_l8Has.f k l n) (has l n) := by
  refine ev_range l (fun k (_ : Unit) i => spec_l8Has.l0 k l n i) (fun _ r => has r n) (fun _ _ => True) (by omega) ?_ ?_ () trivial
  · intro _ _
    simp only [spec_l8Has.l0, if_neg (Int.lt_irrefl _)]
    exact Ev.now _
  · intro pre x rest _ _ hlt hget _ ih
    have hr : rd l (pre.length : Int) = x := hget 0
    simp only [spec_l8Has.l0, if_pos hlt, if_pos (ge0 pre.length), hr]
    by_cases h2 : x = n
    · simp only [if_pos h2]
      exact ev_const (by simp [has, h2])
    · simp only [if_neg h2]
      exact ev_map (ih () trivial) (by simp [has, h2])

/-! united -/
def uni (l m : List Int) : List Int := Lib.compact (msort (l ++ m))
theorem get_toArray (zs : List Int) (i : Nat) (h : i < zs.length) : zs.toArray[i]! = zs[i] := by
  simp [getElem!_pos, h]
theorem mem_compact (z : Int) (zs : List Int) : z ∈ Lib.compact zs ↔ z ∈ zs := by
  unfold Lib.compact Lib.compactUpTo
  constructor
  · intro h
    obtain ⟨i, hi, rfl⟩ := List.mem_map.1 h
    have hi' : i < zs.length := List.mem_range.1 (List.mem_filter.1 hi).1
    rw [get_toArray zs i hi']
    exact List.getElem_mem _
  · intro h
    obtain ⟨j, hj, rfl⟩ := List.getElem_of_mem h
    have key : ∀ n i : Nat, i ≤ n → ∀ (hi : i < zs.length), zs[i] = zs[j] → ∃ k, k < zs.length ∧ Lib.keeps zs.toArray k = true ∧ zs.toArray[k]! = zs[j] := by
      intro n
      induction n with
      | zero =>
        intro i hi hil e
        refine ⟨i, hil, ?_, by rw [get_toArray zs i hil]; exact e⟩
        unfold Lib.keeps
        exact decide_eq_true (.inl (by omega))
      | succ n ih =>
        intro i hi hil e
        by_cases h0 : i = 0
        · exact ⟨i, hil, by unfold Lib.keeps; exact decide_eq_true (.inl h0), by rw [get_toArray zs i hil]; exact e⟩
        by_cases h1 : zs.toArray[i]! = zs.toArray[i - 1]!
        · refine ih (i - 1) (by omega) (by omega) ?_
          rw [get_toArray zs i hil, get_toArray zs (i - 1) (by omega)] at h1
          rw [← h1]
          exact e
        · exact ⟨i, hil, by unfold Lib.keeps; exact decide_eq_true (.inr h1), by rw [get_toArray zs i hil]; exact e⟩
    obtain ⟨k, hk, h2, h3⟩ := key j j (Nat.le_refl _) hj rfl
    rw [← h3]
    exact List.mem_map.2 ⟨k, List.mem_filter.2 ⟨List.mem_range.2 hk, h2⟩, rfl⟩
theorem compact_asc (zs : List Int) (h : zs.Pairwise (fun a b => a ≤ b)) : asc (Lib.compact zs) := by
  have hle : ∀ i j : Nat, i ≤ j → j < zs.length → zs.toArray[i]! ≤ zs.toArray[j]! := by
    intro i j hij hj
    rw [get_toArray zs i (by omega), get_toArray zs j hj]
    rcases Nat.lt_or_eq_of_le hij with hlt | rfl
    · exact List.pairwise_iff_getElem.1 h i j (by omega) hj hlt
    · omega
  unfold Lib.compact Lib.compactUpTo asc
  rw [List.pairwise_map]
  have hr : (List.range zs.length).Pairwise (fun a b => a < b ∧ b < zs.length) := by
    rw [List.pairwise_iff_getElem]
    intro i j hi hj hij
    rw [List.getElem_range, List.getElem_range]
    exact ⟨hij, by simpa using hj⟩
  refine List.Pairwise.imp_of_mem ?_ (List.Pairwise.sublist List.filter_sublist hr)
  intro a b _ hb ⟨hab, hbl⟩
  have hk := (List.mem_filter.1 hb).2
  unfold Lib.keeps at hk
  have hk := of_decide_eq_true hk
  have h1 := hle a (b - 1) (by omega) (by omega)
  have h2 := hle (b - 1) b (by omega) hbl
  rcases hk with hk | hk
  · omega
  · omega
theorem uni_asc (l m : List Int) : asc (uni l m) := compact_asc _ (msort_le _)
theorem mem_uni (z : Int) (l m : List Int) : z ∈ uni l m ↔ z ∈ l ∨ z ∈ m := by
  unfold uni
  rw [mem_compact, mem_msort, List.mem_append]
theorem uni_len (l m : List Int) : (uni l m).length ≤ l.length + m.length := by
  have := Lib.compact_length_le (msort (l ++ m))
  rw [msort_len, List.length_append] at this
  exact this
theorem uni_puts (l : List Int) : uni l [] = puts [] l := by
  refine asc_ext _ _ (uni_asc _ _) (puts_asc l [] asc_nil) (fun z => ?_)
  rw [mem_uni, mem_puts]
  simp

/-! hintsFor -/
def hnt' (salt kind colour size : Int) : Int := ghash [salt, kind, colour, wrap64 (Int.tdiv size 10)]
def upto : Nat → Int → List Int
  | 0, _ => []
  | n + 1, i => i :: upto n (i + 1)
theorem upto_len : ∀ (n : Nat) (i : Int), (upto n i).length = n
  | 0, _ => rfl
  | n + 1, i => by rw [upto, List.length_cons, upto_len n]
theorem mem_upto (x : Int) : ∀ (n : Nat) (i : Int), x ∈ upto n i ↔ i ≤ x ∧ x < i + (n : Int)
  | 0, i => by
    have : ¬ (i ≤ x ∧ x < i + ((0 : Nat) : Int)) := by omega
    simp only [upto, List.not_mem_nil, this]
  | n + 1, i => by
    rw [upto, List.mem_cons, mem_upto x n]
    omega
def hintRow (kind : Int) (cols : List Int) (lo hi salt c : Int) : List Int := if allows cols c = true then (upto (hi + 1 - lo).toNat lo).map (hnt' salt kind c) else []
def hintsFor (id kind : Int) (cols : List Int) (lo hi : Int) (pl : List Int) (fr un salt : Int) : List Int :=
  if isReport id kind cols lo hi pl fr un = true then uni ((upto 8 0).flatMap (hintRow kind cols lo hi salt)) [] else []
def hintTen (kind : Int) (cols : List Int) (lo hi salt c : Int) : List Int := if allows cols c = true then (upto (hi / 10 + 1 - lo / 10).toNat (lo / 10)).map (fun d => hnt' salt kind c (10 * d)) else []
theorem ten_div (s : Int) (h0 : 0 ≤ s) (h1 : s ≤ 1000) : wrap64 (Int.tdiv s 10) = s / 10 := by
  rw [Int.tdiv_eq_ediv_of_nonneg h0, w64 (by omega) (by omega)]
theorem hnt_ten (salt kind c s : Int) (h0 : 0 ≤ s) (h1 : s ≤ 100) : hnt' salt kind c s = ghash [salt, kind, c, s / 10] := by
  unfold hnt'
  rw [ten_div s h0 (by omega)]
theorem row_mem (kind : Int) (cols : List Int) (lo hi salt c z : Int) (h1 : 1 ≤ lo) (h2 : lo ≤ hi) (h3 : hi ≤ 50) : z ∈ hintRow kind cols lo hi salt c ↔ z ∈ hintTen kind cols lo hi salt c := by
  unfold hintRow hintTen
  split
  · simp only [List.mem_map, mem_upto]
    constructor
    · rintro ⟨s, ⟨h4, h5⟩, rfl⟩
      refine ⟨s / 10, by omega, ?_⟩
      rw [hnt_ten _ _ _ _ (by omega) (by omega), hnt_ten _ _ _ _ (by omega) (by omega), show 10 * (s / 10) / 10 = s / 10 by omega]
    · rintro ⟨d, ⟨h4, h5⟩, rfl⟩
      by_cases h6 : 10 * d < lo
      · refine ⟨lo, by omega, ?_⟩
        rw [hnt_ten _ _ _ _ (by omega) (by omega), hnt_ten _ _ _ _ (by omega) (by omega), show 10 * d / 10 = lo / 10 by omega]
      · refine ⟨10 * d, by omega, ?_⟩
        rfl
  · exact Iff.rfl
theorem hintsFor_eq {id kind : Int} {cols : List Int} {lo hi : Int} {pl : List Int} {fr un salt : Int} (h : isReport id kind cols lo hi pl fr un = true) :
    uni ((upto 8 0).flatMap (hintRow kind cols lo hi salt)) [] = puts [] ((upto 8 0).flatMap (hintTen kind cols lo hi salt)) := by
  obtain ⟨h1, h2, h3⟩ := isReport_sizes h
  refine asc_ext _ _ (uni_asc _ _) (puts_asc _ _ asc_nil) (fun z => ?_)
  rw [mem_uni, mem_puts, List.mem_flatMap, List.mem_flatMap]
  constructor
  · rintro (⟨c, hc, hz⟩ | hz)
    · exact .inr ⟨c, hc, (row_mem kind cols lo hi salt c z h1 h2 h3).1 hz⟩
    · simp at hz
  · rintro (hz | ⟨c, hc, hz⟩)
    · simp at hz
    · exact .inl ⟨c, hc, (row_mem kind cols lo hi salt c z h1 h2 h3).2 hz⟩
theorem hintRow_len {kind : Int} {cols : List Int} {lo hi salt : Int} (h1 : 1 ≤ lo) (h3 : hi ≤ 50) (c : Int) : (hintRow kind cols lo hi salt c).length ≤ 50 := by
  unfold hintRow
  split
  · rw [List.length_map, upto_len]; omega
  · simp
theorem hintTen_len {kind : Int} {cols : List Int} {lo hi salt : Int} (h1 : 1 ≤ lo) (h3 : hi ≤ 50) (c : Int) : (hintTen kind cols lo hi salt c).length ≤ 50 := by
  unfold hintTen
  split
  · rw [List.length_map, upto_len]; omega
  · simp
theorem flat_len (f : Int → List Int) (h : ∀ c, (f c).length ≤ 50) : ∀ (n : Nat) (c : Int), ((upto n c).flatMap f).length ≤ 50 * n
  | 0, c => by simp [upto]
  | n + 1, c => by
    have := flat_len f h n (c + 1)
    have := h c
    rw [upto, List.flatMap_cons, List.length_append]
    omega
theorem hintsFor_len (id kind : Int) (cols : List Int) (lo hi : Int) (pl : List Int) (fr un salt : Int) : (hintsFor id kind cols lo hi pl fr un salt).length ≤ 400 := by
  unfold hintsFor
  split
  · rename_i h
    obtain ⟨h1, h2, h3⟩ := isReport_sizes h
    have := uni_len ((upto 8 0).flatMap (hintRow kind cols lo hi salt)) []
    have h4 := flat_len (hintRow kind cols lo hi salt) (hintRow_len h1 h3) 8 0
    rw [List.length_nil] at this
    omega
  · simp
theorem puts_app (s a b : List Int) : puts s (a ++ b) = puts (puts s a) b := by
  unfold puts
  rw [List.foldl_append]

/-! spec_HintsFor -/
theorem spec_HintsFor_ev (id kind : Int) (cols : List Int) (lo hi : Int) (pl : List Int) (fr un salt : Int) (hc : cols.length ≤ 1099511627776) (hp : pl.length ≤ 1099511627776) :
    Ev (fun k => spec_HintsFor.f k id kind cols lo hi pl fr un salt) (hintsFor id kind cols lo hi pl fr un salt) := by
  have jf : ∀ (s : List Int) (i : Int), Ev (fun k => spec_HintsFor.j1 k salt s i false id kind cols lo hi pl fr un) s := by
    intro s i
    refine ev_succ ?_
    simp only [spec_HintsFor.j1, Bool.false_eq_true, if_false]
    exact Ev.now _
  unfold hintsFor spec_HintsFor.f
  cases hr : isReport id kind cols lo hi pl fr un with
  | false =>
    simp only [Bool.false_eq_true, if_false]
    refine ev_succ ?_
    simp only [spec_HintsFor.l0, if_pos (show (0 : Int) ≤ 7 by omega)]
    refine Ev.bind (spec_IsReport_ev id kind cols lo hi pl fr un hc hp) ?_
    rw [hr]
    exact jf _ _
  | true =>
    simp only [if_true]
    rw [hintsFor_eq hr]
    obtain ⟨h1, h2, h3⟩ := isReport_sizes hr
    have hlo := ten_div lo (by omega) (by omega)
    have hhi := ten_div hi (by omega) (by omega)
    have inner : ∀ (n : Nat) (d c : Int) (out : List Int) (R : List Int), d + (n : Int) = hi / 10 + 1 → lo / 10 ≤ d → out.length + n ≤ 1000 →
        Ev (fun k => spec_HintsFor.l0 k salt (puts out ((upto n d).map (fun d => hnt' salt kind c (10 * d)))) (wrap64 (c + 1)) id kind cols lo hi pl fr un) R →
        Ev (fun k => spec_HintsFor.l1 k salt out c d id kind cols lo hi pl fr un) R := by
      intro n
      induction n with
      | zero =>
        intro d c out R hn hd ho he
        refine ev_succ ?_
        simp only [spec_HintsFor.l1, hhi, if_neg (show ¬ d ≤ hi / 10 by omega)]
        exact he
      | succ n ih =>
        intro d c out R hn hd ho he
        have hq := put_len (hnt' salt kind c (10 * d)) out
        refine ev_succ ?_
        simp only [spec_HintsFor.l1, hhi, if_pos (show d ≤ hi / 10 by omega), w64 (x := d + 1) (by omega) (by omega), w64 (x := 10 * d) (by omega) (by omega)]
        refine Ev.bind (spec_HintOf_ev _ _ _ _ _ _) ?_
        refine Ev.bind (spec_l9Put_ev out (hnt' salt kind c (10 * d)) (by omega)) ?_
        exact ih (d + 1) c (put (hnt' salt kind c (10 * d)) out) R (by omega) (by omega) (by omega) he
    have j2 : ∀ (b : Bool) (c : Int) (out R : List Int), 0 ≤ c → c < 8 → out.length ≤ 400 → b = !allows cols c →
        Ev (fun k => spec_HintsFor.l0 k salt (puts out (hintTen kind cols lo hi salt c)) (wrap64 (c + 1)) id kind cols lo hi pl fr un) R →
        Ev (fun k => spec_HintsFor.j2 k salt out c b id kind cols lo hi pl fr un) R := by
      intro b c out R hc0 hc1 ho hb he
      refine ev_succ ?_
      subst hb
      cases ha : allows cols c with
      | false =>
        simp only [spec_HintsFor.j2, Bool.not_false, if_true]
        simpa [hintTen, ha, puts] using he
      | true =>
        simp only [spec_HintsFor.j2, Bool.not_true, Bool.false_eq_true, if_false, hlo]
        refine inner (hi / 10 + 1 - lo / 10).toNat (lo / 10) c out R (by omega) (by omega) (by omega) ?_
        simpa [hintTen, ha] using he
    have outer : ∀ (n : Nat) (c : Int) (out : List Int), c + (n : Int) = 8 → 0 ≤ c → out.length + 50 * n ≤ 400 →
        Ev (fun k => spec_HintsFor.l0 k salt out c id kind cols lo hi pl fr un) (puts out ((upto n c).flatMap (hintTen kind cols lo hi salt))) := by
      intro n
      induction n with
      | zero =>
        intro c out hn hc0 ho
        refine ev_succ ?_
        simp only [spec_HintsFor.l0, if_neg (show ¬ c ≤ 7 by omega)]
        exact jf _ _
      | succ n ih =>
        intro c out hn hc0 ho
        refine ev_succ ?_
        simp only [spec_HintsFor.l0, if_pos (show c ≤ 7 by omega)]
        refine Ev.bind (spec_IsReport_ev id kind cols lo hi pl fr un hc hp) ?_
        rw [hr]
        have hl := hintTen_len (kind := kind) (cols := cols) (salt := salt) h1 h3 c
        have hq := puts_len (hintTen kind cols lo hi salt c) out
        have hi2 := ih (c + 1) (puts out (hintTen kind cols lo hi salt c)) (by omega) (by omega) (by omega)
        rw [upto, List.flatMap_cons, puts_app]
        have he : Ev (fun k => spec_HintsFor.l0 k salt (puts out (hintTen kind cols lo hi salt c)) (wrap64 (c + 1)) id kind cols lo hi pl fr un) (puts (puts out (hintTen kind cols lo hi salt c)) ((upto n (c + 1)).flatMap (hintTen kind cols lo hi salt))) := by
          rw [w64 (x := c + 1) (by omega) (by omega)]
          exact hi2
        refine ev_succ ?_
        simp only [spec_HintsFor.j1, if_true]
        by_cases h0 : (cols.length : Int) > 0
        · simp only [if_pos h0]
          refine Ev.bind (spec_l8Has_ev cols c hc) ?_
          refine j2 _ c out _ hc0 (by omega) (by omega) ?_ he
          rw [allows, decide_eq_false (show ¬ cols.length = 0 by omega), Bool.false_or]
        · simp only [if_neg h0]
          refine j2 _ c out _ hc0 (by omega) (by omega) ?_ he
          rw [allows, decide_eq_true (show cols.length = 0 by omega), Bool.true_or]
          rfl
    have := outer 8 0 [] (by omega) (by omega) (by simp)
    exact this

/-! sharedHints -/
def sharedHints (a b : List Int) : Int := (((uni a []).filter (has b)).length : Int)
theorem sharedHints_le (a b : List Int) : 0 ≤ sharedHints a b ∧ sharedHints a b ≤ (a.length : Int) := by
  unfold sharedHints
  have h1 := List.length_filter_le (has b) (uni a [])
  have h2 := uni_len a []
  rw [List.length_nil] at h2
  omega
def shStep (b s : List Int) (x : Int) : List Int := if has b x = true then put x s else s
theorem shStep_eq (b : List Int) : ∀ (a s : List Int), a.foldl (shStep b) s = puts s (a.filter (has b))
  | [], s => rfl
  | x :: a, s => by
    rw [List.foldl_cons, shStep_eq b a]
    unfold shStep
    cases h : has b x with
    | true => rw [List.filter_cons_of_pos h]; rfl
    | false => rw [List.filter_cons_of_neg (by simp [h])]; rfl
theorem shared_eq (a b : List Int) : a.foldl (shStep b) [] = (uni a []).filter (has b) := by
  rw [shStep_eq]
  refine asc_ext _ _ (puts_asc _ _ asc_nil) (List.Pairwise.filter _ (uni_asc a [])) (fun z => ?_)
  rw [mem_puts, List.mem_filter, List.mem_filter, mem_uni]
  simp

/-! spec_SharedHints -/
theorem spec_SharedHints_ev (a b : List Int) (ha : a.length ≤ 1099511627776) (hb : b.length ≤ 1099511627776) : Ev (fun k => spec_SharedHints.f k a b) (sharedHints a b) := by
  unfold sharedHints
  rw [← shared_eq]
  refine ev_range a (fun k (s : List Int) i => spec_SharedHints.l0 k a b s i) (fun s r => ((r.foldl (shStep b) s).length : Int)) (fun p s => s.length ≤ p.length) (by omega) ?_ ?_ [] (Nat.le_refl _)
  · intro s _
    simp only [spec_SharedHints.l0, if_neg (Int.lt_irrefl _)]
    exact Ev.now _
  · intro pre x rest s e hlt hget hs ih
    have hr : rd a (pre.length : Int) = x := hget 0
    have hs' : s.length ≤ pre.length := hs
    simp only [spec_SharedHints.l0, if_pos hlt, if_pos (ge0 pre.length), hr]
    refine Ev.bind (spec_l8Has_ev b x hb) ?_
    cases h : has b x with
    | true =>
      simp only [if_true]
      refine Ev.bind (spec_l9Put_ev s x (by omega)) ?_
      have := put_len x s
      exact ev_map (ih (put x s) (by simp; omega)) (by rw [List.foldl_cons]; unfold shStep; rw [if_pos h])
    | false =>
      simp only [Bool.false_eq_true, if_false]
      exact ev_map (ih s (by simp; omega)) (by rw [List.foldl_cons, show shStep b s x = s from by unfold shStep; rw [if_neg (by simp [h])]])

/-! mayHave -/
def mayHave (id kind : Int) (cols : List Int) (lo hi : Int) (pl : List Int) (fr un : Int) (h : List Int) (salt : Int) : Bool := decide (sharedHints (hintsFor id kind cols lo hi pl fr un salt) h > 0)

/-! spec_MayHave -/
theorem spec_MayHave_ev (id kind : Int) (cols : List Int) (lo hi : Int) (pl : List Int) (fr un : Int) (h : List Int) (salt : Int) (hc : cols.length ≤ 1099511627776) (hp : pl.length ≤ 1099511627776) (hh : h.length ≤ 1099511627776) :
    Ev (fun k => spec_MayHave.f k id kind cols lo hi pl fr un h salt) (mayHave id kind cols lo hi pl fr un h salt) := by
  have hl := hintsFor_len id kind cols lo hi pl fr un salt
  unfold spec_MayHave.f mayHave
  refine Ev.bind (spec_HintsFor_ev id kind cols lo hi pl fr un salt hc hp) ?_
  refine Ev.bind (spec_SharedHints_ev _ h (by omega) hh) ?_
  exact Ev.now _

/-! askHouses -/
def askFrom (p : List Int → Bool) : List (List Int) → Int → List Int
  | [], _ => []
  | x :: r, i => if p x then i :: askFrom p r (i + 1) else askFrom p r (i + 1)
theorem askFrom_len (p : List Int → Bool) : ∀ (l : List (List Int)) (i : Int), (askFrom p l i).length ≤ l.length
  | [], _ => Nat.le_refl _
  | x :: r, i => by
    have := askFrom_len p r (i + 1)
    simp only [askFrom]
    split <;> simp only [List.length_cons] <;> omega
def askHouses (id kind : Int) (cols : List Int) (lo hi : Int) (pl : List Int) (fr un : Int) (h : List (List Int)) (salt : Int) : List Int := askFrom (fun x => mayHave id kind cols lo hi pl fr un x salt) h 0

/-! spec_AskHouses -/
theorem spec_AskHouses_ev (id kind : Int) (cols : List Int) (lo hi : Int) (pl : List Int) (fr un : Int) (h : List (List Int)) (salt : Int) (hc : cols.length ≤ 1048576) (hp : pl.length ≤ 1048576) (hl : h.length ≤ 1048576) (hs : sumLen h ≤ 1048576) :
    Ev (fun k => spec_AskHouses.f k id kind cols lo hi pl fr un h salt) (askHouses id kind cols lo hi pl fr un h salt) := by
  unfold spec_AskHouses.f askHouses
  refine ev_map (ev_range h (fun k (o : List Int) i => spec_AskHouses.l0 k h salt o i id kind cols lo hi pl fr un) (fun o r => o ++ askFrom (fun x => mayHave id kind cols lo hi pl fr un x salt) r ((h.length : Int) - (r.length : Int))) (fun p o => o.length ≤ p.length) (by omega) ?_ ?_ [] (Nat.le_refl _)) (by simp)
  · intro o _
    simp only [spec_AskHouses.l0, if_neg (Int.lt_irrefl _)]
    exact ev_const (by simp [askFrom])
  · rintro pre x rest o e hlt hget ho ih
    have hr : rd_L1 h (pre.length : Int) = x := hget _
    have hx := sumLen_mem h x (by rw [e]; simp)
    have hn : h.length = pre.length + (rest.length + 1) := by rw [e, len_pre]
    have ho' : o.length ≤ pre.length := ho
    have hii : (h.length : Int) - ((x :: rest).length : Int) = (pre.length : Int) := by rw [List.length_cons]; omega
    have hj : (h.length : Int) - (rest.length : Int) = (pre.length : Int) + 1 := by omega
    simp only [spec_AskHouses.l0, if_pos hlt, if_pos (ge0 pre.length), hr]
    refine Ev.bind (spec_MayHave_ev id kind cols lo hi pl fr un x salt (by omega) (by omega) (by omega)) ?_
    rw [hii]
    rw [hj] at ih
    simp only [askFrom]
    rcases Bool.eq_false_or_eq_true (mayHave id kind cols lo hi pl fr un x salt) with hm | hm
    · simp only [hm, if_true, if_pos (show o.length < 17592186044416 by omega)]
      exact ev_map (ih (o ++ [(pre.length : Int)]) (by rw [List.length_append, List.length_append]; simp; omega)) (by simp)
    · simp only [hm, Bool.false_eq_true, if_false]
      exact ev_map (ih o (by rw [List.length_append]; omega)) (by simp)

/-! laws_toIntSS -/
theorem laws_toIntSS_ev (l : List (List Int)) (hl : l.length ≤ 1048576) (hs : sumLen l ≤ 1048576) : Ev (fun k => laws_toIntSS.f k l) l := by
  unfold laws_toIntSS.f
  simp only [if_pos (ge0 l.length), if_pos (show ((l.length : Int)).toNat ≤ 11728124029610 by omega)]
  refine ev_range l (fun k (s : List (List Int)) i => laws_toIntSS.l0 k l s i) (fun s r => s.take (l.length - r.length) ++ r) (fun p s => s.length = l.length ∧ s.take p.length = p) (by omega) ?_ ?_ (List.replicate ((l.length : Int)).toNat []) (by simp) |> fun h => ev_map h (by simp)
  · intro s hs
    simp only [laws_toIntSS.l0, if_neg (Int.lt_irrefl _)]
    have h9 : s.take l.length = s := by rw [← hs.1, List.take_length]
    exact ev_const (by simp [h9])
  · rintro pre x rest s e hlt hget ⟨h1, h2⟩ ih
    have hr : rd_L1 l (pre.length : Int) = x := hget _
    have hx := sumLen_mem l x (by rw [e]; simp)
    have hn : l.length = pre.length + (rest.length + 1) := by rw [e, len_pre]
    simp only [laws_toIntSS.l0, if_pos hlt, if_pos (ge0 pre.length), hr]
    refine Ev.bind (laws_toIntS_ev x (by omega)) ?_
    simp only [if_pos (show (pre.length : Int) < (s.length : Int) by omega), Int.toNat_natCast]
    have ht : (s.set pre.length x).take (pre.length + 1) = pre ++ [x] := by
      rw [List.take_add_one, List.take_set_of_le (Nat.le_refl _), h2, List.getElem?_set_self (by omega)]
      rfl
    refine ev_map (ih (s.set pre.length x) ⟨by rw [List.length_set, h1], by rw [List.length_append]; exact ht⟩) ?_
    simp only [List.length_cons]
    rw [show l.length - rest.length = pre.length + 1 by omega, show l.length - (rest.length + 1) = pre.length by omega, ht, h2]
    simp

/-! impl_united -/
theorem impl_united_eq (l m : List Int) (h : l.length + m.length < 17592186044416) : impl_united.f l m = some (uni l m) := by
  unfold impl_united.f uni msort
  rw [if_pos h]

/-! impl_InRange -/
theorem impl_InRange_eq (a b c : Int) : impl_InRange.f a b c = some (inr a b c) := by
  unfold impl_InRange.f inr
  by_cases h : b ≤ a <;> simp [h]

/-! impl_isAscending -/
theorem impl_isAscending_ev (l : List Int) (lo hi : Int) (h : l.length ≤ 1099511627776) : Ev (fun k => impl_isAscending.f k l lo hi) (ascOk lo hi none l) := by
  refine ev_range l (fun k (_ : Option Int) i => impl_isAscending.l0 k l lo hi l (l.length : Int) i) (fun s r => ascOk lo hi s r) (fun p s => s = p.getLast?) (by omega) ?_ ?_ none rfl
  · intro s _
    simp only [impl_isAscending.l0, if_neg (Int.lt_irrefl _)]
    exact Ev.now _
  · rintro pre x rest s e hlt hget rfl ih
    have hr : rd l (pre.length : Int) = x := hget 0
    have ih' := ih (some x) (by simp)
    simp only [impl_isAscending.l0, if_pos hlt, if_pos (ge0 pre.length), hr, impl_InRange_eq, Option.bind_some, ascOk]
    cases h1 : inr x lo hi with
    | false => exact Ev.now _
    | true =>
      simp only [if_true, Bool.true_and]
      rcases prev_cases e (by omega) with ⟨hp, hn⟩ | ⟨y, hy, h4, h5, h6, h7⟩
      · simp only [if_neg hn]
        exact ev_map ih' (by simp [hp])
      · have hr7 : rd l (wrap64 ((pre.length : Int) - 1)) = y := h7 0
        simp only [if_pos h4, if_pos h5, if_pos h6, hr7, hy]
        by_cases h8 : x ≤ y
        · simp only [if_pos h8]
          exact ev_const (by simp [show ¬ y < x by omega])
        · simp only [if_neg h8]
          exact ev_map ih' (by simp [show y < x by omega])

/-! impl_IsSpan -/
theorem impl_IsSpan_eq (a b : Int) : impl_IsSpan.f a b = some (isSpan a b) := by
  unfold impl_IsSpan.f isSpan
  simp only [impl_InRange_eq, Option.bind_some]
  cases inr a 0 100000 <;> cases inr b 0 100000 <;> simp

/-! impl_IsReport -/
theorem impl_IsReport_ev (id kind : Int) (cols : List Int) (lo hi : Int) (pl : List Int) (fr un : Int) (hc : cols.length ≤ 1099511627776) (hp : pl.length ≤ 1099511627776) :
    Ev (fun k => impl_IsReport.f k id kind cols lo hi pl fr un) (isReport id kind cols lo hi pl fr un) := by
  unfold impl_IsReport.f isReport
  simp only [impl_InRange_eq, impl_IsSpan_eq, Option.bind_some]
  cases h1 : inr id 1 999 with
  | false => exact Ev.now _
  | true =>
  cases h2 : inr kind 1 8 with
  | false => exact Ev.now _
  | true =>
  simp only [if_true, Bool.true_and]
  refine Ev.bind (impl_isAscending_ev cols 0 7 hc) ?_
  cases h3 : ascOk 0 7 none cols with
  | false => exact Ev.now _
  | true =>
  simp only [if_true, Bool.true_and]
  by_cases h4 : 1 ≤ lo
  · by_cases h5 : lo ≤ hi
    · by_cases h6 : hi ≤ 50
      · simp only [if_pos (show 1 ≤ lo from h4), if_pos h5, if_pos h6, decide_eq_true h4, decide_eq_true h5, decide_eq_true h6, Bool.true_and]
        refine Ev.bind (impl_isAscending_ev pl 1 30 hp) ?_
        cases h7 : ascOk 1 30 none pl with
        | false => exact Ev.now _
        | true =>
          simp only [if_true, Bool.true_and]
          by_cases h8 : pl.length ≤ 10
          · simp only [if_pos (show (pl.length : Int) ≤ 10 by omega), decide_eq_true h8, Bool.true_and]
            exact Ev.now _
          · simp only [if_neg (show ¬ (pl.length : Int) ≤ 10 by omega), decide_eq_false h8, Bool.false_and]
            exact Ev.now _
      · simp only [if_pos (show 1 ≤ lo from h4), if_pos h5, if_neg h6, decide_eq_false h6, Bool.false_and, Bool.and_false]
        exact Ev.now _
    · simp only [if_pos (show 1 ≤ lo from h4), if_neg h5, decide_eq_false h5, Bool.false_and, Bool.and_false]
      exact Ev.now _
  · simp only [if_neg (show ¬ 1 ≤ lo from h4), decide_eq_false h4, Bool.false_and]
    exact Ev.now _

/-! slices_Index_int_int -/
theorem slices_Index_ev (l : List Int) (n : Int) (h : l.length ≤ 1099511627776) : ∃ r, Ev (fun k => slices_Index_int_int.f k l n) r ∧ decide (r ≥ 0) = has l n := by
  have key : ∀ (rest pre : List Int), l = pre ++ rest → ∃ r, Ev (fun k => slices_Index_int_int.l0 k l n (l.length : Int) (pre.length : Int)) r ∧ decide (r ≥ 0) = has rest n := by
    intro rest
    induction rest with
    | nil =>
      intro pre e
      rw [List.append_nil] at e
      subst e
      refine ⟨-1, ev_succ ?_, by simp [has]⟩
      simp only [slices_Index_int_int.l0, if_neg (Int.lt_irrefl _)]
      exact Ev.now _
    | cons x rest ih =>
      intro pre e
      have hl : l.length = pre.length + (rest.length + 1) := by rw [e, len_pre]
      have hr : rd l (pre.length : Int) = x := by rw [e]; exact rd_pre pre x rest
      by_cases h2 : n = x
      · refine ⟨(pre.length : Int), ev_succ ?_, ?_⟩
        · simp only [slices_Index_int_int.l0, if_pos (show (pre.length : Int) < (l.length : Int) by omega), if_pos (ge0 pre.length), hr, if_pos h2]
          exact Ev.now _
        · rw [decide_eq_true (show (pre.length : Int) ≥ 0 by omega)]
          simp [has, h2]
      · obtain ⟨r, h3, h4⟩ := ih (pre ++ [x]) (by rw [← app_pre]; exact e)
        refine ⟨r, ev_succ ?_, ?_⟩
        · simp only [slices_Index_int_int.l0, if_pos (show (pre.length : Int) < (l.length : Int) by omega), if_pos (ge0 pre.length), hr, if_neg h2, wsucc (show pre.length < 9223372036854775807 by omega)]
          rw [snoc_len pre x]
          exact h3
        · rw [h4]
          simp [has, Ne.symm h2]
  exact key l [] rfl

/-! slices_Contains_int_int -/
theorem slices_Contains_ev (l : List Int) (n : Int) (h : l.length ≤ 1099511627776) : Ev (fun k => slices_Contains_int_int.f k l n) (has l n) := by
  obtain ⟨r, h1, h2⟩ := slices_Index_ev l n h
  unfold slices_Contains_int_int.f
  refine Ev.bind h1 ?_
  exact ev_const (by rw [← h2])

/-! impl_allows -/
theorem impl_allows_ev (l : List Int) (n : Int) (h : l.length ≤ 1099511627776) : Ev (fun k => impl_allows.f k l n) (allows l n) := by
  unfold impl_allows.f allows
  by_cases h0 : l.length = 0
  · simp only [if_pos (show (l.length : Int) = 0 by omega), decide_eq_true h0, Bool.true_or]
    exact Ev.now _
  · simp only [if_neg (show ¬ (l.length : Int) = 0 by omega), decide_eq_false h0, Bool.false_or]
    exact Ev.bind (slices_Contains_ev l n h) (Ev.now _)

/-! impl_Mod -/
theorem impl_Mod_eq (a : Int) : impl_Mod.f a 2147483647 = some (a % 2147483647) := by
  simp only [impl_Mod.f, impl_InRange_eq, Option.bind_some]
  rw [if_pos (by decide), if_neg (by decide)]
  by_cases h : Int.tmod a 2147483647 < 0
  · rw [if_pos h, mod_lo a h]
  · rw [if_neg h, mod_hi a h]

/-! impl_fold -/
theorem impl_fold_eq (a v : Int) : impl_fold.f a v = some (hstep a v) := by
  simp only [impl_fold.f, impl_Mod_eq, Option.bind_some, hstep]

/-! impl_Hash -/
theorem impl_Hash_loop (rest : List Int) : ∀ (pre : List Int) (acc : Int), (pre ++ rest).length < 9223372036854775807 → Ev (fun k => impl_Hash.l0 k acc (pre ++ rest) ((pre ++ rest).length : Int) (pre.length : Int)) (rest.foldl hstep acc) := by
  induction rest with
  | nil =>
    intro pre acc h
    refine ev_succ ?_
    simp only [impl_Hash.l0, if_neg (nlt_pre pre)]
    exact Ev.now _
  | cons x rest ih =>
    intro pre acc h
    have hl := len_pre pre x rest
    refine ev_succ ?_
    simp only [impl_Hash.l0, if_pos (lt_pre pre x rest), if_pos (ge0 pre.length), rd_pre, impl_fold_eq, Option.bind_some, wsucc (show pre.length < 9223372036854775807 by omega)]
    rw [snoc_len pre x]
    have := ih (pre ++ [x]) (hstep acc x) (by rw [← app_pre]; exact h)
    rw [← app_pre] at this
    exact this
theorem impl_Hash_ev (l : List Int) (h : l.length < 9223372036854775807) : Ev (fun k => impl_Hash.f k l) (ghash l) := impl_Hash_loop l [] 11 h

/-! impl_hint -/
theorem impl_hint_ev (s b c d : Int) : Ev (fun k => impl_hint.f k s b c d) (ghash [s, b, c, wrap64 (Int.tdiv d 10)]) := by
  simp only [impl_hint.f]
  exact Ev.bind (impl_Hash_ev _ (by simp)) (Ev.now _)

/-! impl_HintsFor -/
theorem impl_HintsFor_ev (id kind : Int) (cols : List Int) (lo hi : Int) (pl : List Int) (fr un salt : Int) (hc : cols.length ≤ 1099511627776) (hp : pl.length ≤ 1099511627776) :
    Ev (fun k => impl_HintsFor.f k id kind cols lo hi pl fr un salt) (hintsFor id kind cols lo hi pl fr un salt) := by
  unfold hintsFor impl_HintsFor.f
  refine Ev.bind (impl_IsReport_ev id kind cols lo hi pl fr un hc hp) ?_
  cases hr : isReport id kind cols lo hi pl fr un with
  | false => exact Ev.now _
  | true =>
    simp only [if_true]
    obtain ⟨h1, h2, h3⟩ := isReport_sizes hr
    have inner : ∀ (n : Nat) (i c : Int) (out : List Int) (R : List Int), i + (n : Int) = hi + 1 → lo ≤ i → out.length + n ≤ 1000 →
        Ev (fun k => impl_HintsFor.l0 k salt (out ++ if allows cols c = true then (upto n i).map (hnt' salt kind c) else []) (wrap64 (c + 1)) id kind cols lo hi pl fr un) R →
        Ev (fun k => impl_HintsFor.l1 k salt out c i c id kind cols lo hi pl fr un) R := by
      intro n
      induction n with
      | zero =>
        intro i c out R hn hi' ho he
        refine ev_succ ?_
        simp only [impl_HintsFor.l1, if_neg (show ¬ i ≤ hi by omega)]
        simpa [upto] using he
      | succ n ih =>
        intro i c out R hn hi' ho he
        refine ev_succ ?_
        simp only [impl_HintsFor.l1, if_pos (show i ≤ hi by omega), w64 (x := i + 1) (by omega) (by omega)]
        refine Ev.bind (impl_allows_ev cols c hc) ?_
        cases ha : allows cols c with
        | false =>
          simp only [Bool.false_eq_true, if_false]
          refine ih (i + 1) c out R (by omega) (by omega) (by omega) ?_
          simpa [ha] using he
        | true =>
          simp only [if_true]
          refine Ev.bind (impl_hint_ev _ _ _ _) ?_
          simp only [if_pos (show out.length < 17592186044416 by omega)]
          refine ih (i + 1) c _ R (by omega) (by omega) (by simp; omega) ?_
          simpa [ha, upto, hnt'] using he
    have outer : ∀ (n : Nat) (c : Int) (out : List Int), c + (n : Int) = 8 → 0 ≤ c → out.length + 50 * n ≤ 400 →
        Ev (fun k => impl_HintsFor.l0 k salt out c id kind cols lo hi pl fr un) (uni (out ++ (upto n c).flatMap (hintRow kind cols lo hi salt)) []) := by
      intro n
      induction n with
      | zero =>
        intro c out hn hc0 ho
        refine ev_succ ?_
        simp only [impl_HintsFor.l0, if_neg (show ¬ c < 8 by omega), impl_united_eq out [] (show out.length + ([] : List Int).length < 17592186044416 by rw [List.length_nil]; omega), Option.bind_some]
        exact ev_const (by simp [upto])
      | succ n ih =>
        intro c out hn hc0 ho
        refine ev_succ ?_
        simp only [impl_HintsFor.l0, if_pos (show c < 8 by omega)]
        refine inner (hi + 1 - lo).toNat lo c out _ (by omega) (by omega) (by omega) ?_
        rw [w64 (x := c + 1) (by omega) (by omega)]
        have hl := hintRow_len (kind := kind) (cols := cols) (salt := salt) h1 h3 c
        have := ih (c + 1) (out ++ hintRow kind cols lo hi salt c) (by omega) (by omega) (by rw [List.length_append]; omega)
        rw [upto, List.flatMap_cons, ← List.append_assoc]
        exact this
    have := outer 8 0 [] (by omega) (by omega) (by simp)
    simpa using this

/-! impl_SharedHints -/
theorem impl_SharedHints_ev (a b : List Int) (ha : a.length ≤ 1099511627776) (hb : b.length ≤ 1099511627776) : Ev (fun k => impl_SharedHints.f k a b) (sharedHints a b) := by
  have hu := uni_len a []
  rw [List.length_nil] at hu
  unfold impl_SharedHints.f
  rw [impl_united_eq a [] (by rw [List.length_nil]; omega)]
  simp only [Option.bind_some]
  refine ev_map (ev_range (uni a []) (fun k (s : Nat) i => impl_SharedHints.l0 k b (s : Int) (uni a []) ((uni a []).length : Int) i) (fun s r => ((s + (r.filter (has b)).length : Nat) : Int)) (fun p s => s ≤ p.length) (by omega) ?_ ?_ 0 (Nat.zero_le _)) (by simp [sharedHints])
  · intro s _
    simp only [impl_SharedHints.l0, if_neg (Int.lt_irrefl _)]
    exact ev_const (by simp)
  · intro pre x rest s e hlt hget hs ih
    have hr : rd (uni a []) (pre.length : Int) = x := hget 0
    have hs' : s ≤ pre.length := hs
    simp only [impl_SharedHints.l0, if_pos hlt, if_pos (ge0 pre.length), hr]
    refine Ev.bind (slices_Contains_ev b x hb) ?_
    cases h : has b x with
    | true =>
      simp only [if_true, wsucc (show s < 9223372036854775807 by omega)]
      exact ev_map (ih (s + 1) (by simp; omega)) (by rw [List.filter_cons_of_pos h, List.length_cons]; omega)
    | false =>
      simp only [Bool.false_eq_true, if_false]
      exact ev_map (ih s (by simp; omega)) (by rw [List.filter_cons_of_neg (by simp [h])])

/-! impl_MayHave -/
theorem impl_MayHave_ev (id kind : Int) (cols : List Int) (lo hi : Int) (pl : List Int) (fr un : Int) (h : List Int) (salt : Int) (hc : cols.length ≤ 1099511627776) (hp : pl.length ≤ 1099511627776) (hh : h.length ≤ 1099511627776) :
    Ev (fun k => impl_MayHave.f k id kind cols lo hi pl fr un h salt) (mayHave id kind cols lo hi pl fr un h salt) := by
  have hl := hintsFor_len id kind cols lo hi pl fr un salt
  unfold impl_MayHave.f mayHave
  refine Ev.bind (impl_HintsFor_ev id kind cols lo hi pl fr un salt hc hp) ?_
  refine Ev.bind (impl_SharedHints_ev _ h (by omega) hh) ?_
  exact Ev.now _

/-! impl_AskHouses -/
theorem impl_AskHouses_ev (id kind : Int) (cols : List Int) (lo hi : Int) (pl : List Int) (fr un : Int) (h : List (List Int)) (salt : Int) (hc : cols.length ≤ 1048576) (hp : pl.length ≤ 1048576) (hl : h.length ≤ 1048576) (hs : sumLen h ≤ 1048576) :
    Ev (fun k => impl_AskHouses.f k id kind cols lo hi pl fr un h salt) (askHouses id kind cols lo hi pl fr un h salt) := by
  unfold impl_AskHouses.f askHouses
  refine ev_map (ev_range h (fun k (o : List Int) i => impl_AskHouses.l0 k salt o h (h.length : Int) i id kind cols lo hi pl fr un) (fun o r => o ++ askFrom (fun x => mayHave id kind cols lo hi pl fr un x salt) r ((h.length : Int) - (r.length : Int))) (fun p o => o.length ≤ p.length) (by omega) ?_ ?_ [] (Nat.le_refl _)) (by simp)
  · intro o _
    simp only [impl_AskHouses.l0, if_neg (Int.lt_irrefl _)]
    exact ev_const (by simp [askFrom])
  · rintro pre x rest o e hlt hget ho ih
    have hr : rd_L1 h (pre.length : Int) = x := hget _
    have hx := sumLen_mem h x (by rw [e]; simp)
    have hn : h.length = pre.length + (rest.length + 1) := by rw [e, len_pre]
    have ho' : o.length ≤ pre.length := ho
    have hii : (h.length : Int) - ((x :: rest).length : Int) = (pre.length : Int) := by rw [List.length_cons]; omega
    have hj : (h.length : Int) - (rest.length : Int) = (pre.length : Int) + 1 := by omega
    simp only [impl_AskHouses.l0, if_pos hlt, if_pos (ge0 pre.length), hr]
    refine Ev.bind (impl_MayHave_ev id kind cols lo hi pl fr un x salt (by omega) (by omega) (by omega)) ?_
    rw [hii]
    rw [hj] at ih
    simp only [askFrom]
    rcases Bool.eq_false_or_eq_true (mayHave id kind cols lo hi pl fr un x salt) with hm | hm
    · simp only [hm, if_true, if_pos (show o.length < 17592186044416 by omega)]
      exact ev_map (ih (o ++ [(pre.length : Int)]) (by rw [List.length_append, List.length_append]; simp; omega)) (by simp)
    · simp only [hm, Bool.false_eq_true, if_false]
      exact ev_map (ih o (by rw [List.length_append]; omega)) (by simp)

/-! laws_eqIntSS -/
theorem laws_eqIntSS_refl (l : List (List Int)) (hl : l.length ≤ 1048576) (hs : sumLen l ≤ 1048576) : Ev (fun k => laws_eqIntSS.f k l l) true := by
  unfold laws_eqIntSS.f
  simp only [if_true]
  refine ev_range l (fun k (_ : Unit) i => laws_eqIntSS.l0 k l l i) (fun _ _ => true) (fun _ _ => True) (by omega) ?_ ?_ () trivial
  · intro s _
    simp only [laws_eqIntSS.l0, if_neg (Int.lt_irrefl _)]
    exact Ev.now _
  · rintro pre x rest s e hlt hget _ ih
    have hr : rd_L1 l (pre.length : Int) = x := hget _
    have hx := sumLen_mem l x (by rw [e]; simp)
    simp only [laws_eqIntSS.l0, if_pos hlt, if_pos (ge0 pre.length), hr]
    refine Ev.bind (laws_eqIntS_refl x (by omega)) ?_
    simp only [if_true]
    exact ih () trivial

/-! laws_markIntSS -/
theorem laws_markIntSS_ev (l : List (List Int)) (a : Int) (h0 : 0 ≤ a) (h1 : a ≤ 10000000) (hl : l.length ≤ 1048576) (hs : sumLen l ≤ 1048576) : Ev (fun k => laws_markIntSS.f k l a) (a + (sumLen l : Int)) := by
  unfold laws_markIntSS.f
  refine ev_range l (fun k (s : List (List Int) × Int) i => laws_markIntSS.l0 k s.1 s.2 i) (fun s r => s.2 + (sumLen r : Int)) (fun p s => s.1.length = l.length ∧ s.1.drop p.length = l.drop p.length ∧ 0 ≤ s.2 ∧ s.2 + (sumLen (l.drop p.length) : Int) ≤ 20000000) (by omega) ?_ ?_ (l, a) ⟨rfl, rfl, h0, by simp only [List.length_nil, List.drop_zero]; omega⟩
  · rintro ⟨s, b⟩ ⟨h2, h3, h4⟩
    simp only [laws_markIntSS.l0, h2, if_neg (Int.lt_irrefl _)]
    exact ev_const (by simp [sumLen])
  · rintro pre x rest ⟨s, b⟩ e hlt hget ⟨h2, h3, h4, h5⟩ ih
    have hd : l.drop pre.length = x :: rest := by rw [e, List.drop_left]
    rw [hd] at h3 h5
    have h6 : sumLen (x :: rest) = x.length + sumLen rest := rfl
    have hx := sumLen_mem l x (by rw [e]; simp)
    have hn : l.length = pre.length + (rest.length + 1) := by rw [e, len_pre]
    have hr : laws_markIntSS.at_ s (pre.length : Int) = x := by
      show s.getD ((pre.length : Int)).toNat [] = x
      have h7 : (s.drop pre.length)[0]? = some x := by rw [h3]; rfl
      rw [List.getElem?_drop, Nat.add_zero] at h7
      rw [Int.toNat_natCast, List.getD_eq_getElem?_getD, h7]
      rfl
    simp only at h2 h3 h4 h5
    simp only [laws_markIntSS.l0, h2, if_pos hlt, if_pos (ge0 pre.length), hr]
    refine Ev.bind (laws_markIntS_ev x b h4 (by omega) (by omega)) ?_
    simp only [Int.toNat_natCast]
    have hd2 : (s.set pre.length (markedInt x b)).drop (pre.length + 1) = rest := by
      rw [List.drop_set_of_lt (by omega), ← List.drop_drop, h3]
      rfl
    have hd3 : l.drop (pre ++ [x]).length = rest := by rw [e, show pre ++ x :: rest = (pre ++ [x]) ++ rest by simp, List.drop_left]
    refine ev_map (ih (s.set pre.length (markedInt x b), b + 1 * (x.length : Int)) ⟨by rw [List.length_set, h2], ?_, by simp only []; omega, ?_⟩) ?_
    · rw [hd3, List.length_append]
      exact hd2
    · rw [hd3]
      simp only []
      omega
    · simp only [h6]
      omega

/-! the law -/
theorem markReport2_ev (a b : Int) (l : List Int) (c d : Int) (m : List Int) (e f : Int) (hl : l.length ≤ 1048576) (hm : m.length ≤ 1048576) : ∃ x : Int × List Int × List Int, Ev (fun k => laws_markReport.f k a b l c d m e f 1) x ∧ 0 ≤ x.1 ∧ x.1 ≤ 3000000 := by
  refine ⟨(1 + 1 * (l.length : Int) + 1 * (m.length : Int), markedInt l 1, markedInt m (1 + 1 * (l.length : Int))), ?_, ?_, ?_⟩
  · unfold laws_markReport.f
    refine Ev.bind (laws_markIntS_ev l 1 (by omega) (by omega) (by omega)) ?_
    refine Ev.bind (laws_markIntS_ev m (1 + 1 * (l.length : Int)) (by omega) (by omega) (by omega)) ?_
    exact Ev.now _
  · simp only []
    omega
  · simp only []
    omega
theorem Pf.FnExactAskHouses : FnExactAskHousesLaw := by
  rintro ⟨a, b, l, c, d, m, ⟨e, f⟩⟩ hs s hq0 hm1 hq1 hq2
  refine Ev.rounds ?_
  have hl9 : l.length ≤ 9223372036854775807 := hq0.2.2.1.1
  have hm9 : m.length ≤ 9223372036854775807 := hq0.2.2.2.2.2.1.1
  unfold laws_FnExactAskHouses.f
  by_cases h0 : (l.length : Int) + (m.length : Int) ≤ 1048576
  · have hl : l.length ≤ 1048576 := by omega
    have hm : m.length ≤ 1048576 := by omega
    obtain ⟨x, hx, hx0, hx1⟩ := markReport2_ev a b l c d m e f hl hm
    simp only [szReport_ok a b l c d m e f 1048576 h0 (by omega), Option.bind_some, if_neg (show ¬ ((1048576 : Int) - (l.length : Int) - (m.length : Int) < 0) by omega)]
    refine Ev.bind (laws_szIntSS_ev hs (1048576 - (l.length : Int) - (m.length : Int)) (by omega) (by omega) hm1 (fun y hy => (hq1 y hy).1)) ?_
    by_cases h2 : (hs.length : Int) + (sumLen hs : Int) ≤ 1048576 - (l.length : Int) - (m.length : Int)
    · have hh : hs.length ≤ 1048576 := by omega
      have hh2 : sumLen hs ≤ 1048576 := by omega
      have hR0 : (askHouses a b l c d m e f hs s).length ≤ hs.length := askFrom_len _ _ _
      simp only [if_pos h2, if_neg (show ¬ (1048576 - (l.length : Int) - (m.length : Int) - (hs.length : Int) - (sumLen hs : Int) < 0) by omega)]
      repeat' first
        | exact Ev.now _
        | refine Ev.bind (spec_AskHouses_ev _ _ _ _ _ _ _ _ _ _ hl hm hh hh2) ?_
        | refine Ev.bind (impl_AskHouses_ev _ _ _ _ _ _ _ _ _ _ hl hm hh hh2) ?_
        | refine Ev.bind (toReport_ev _ _ _ _ _ _ _ _ hl hm) ?_
        | refine Ev.bind (eqReport_refl _ _ _ _ _ _ _ _ hl hm) ?_
        | refine Ev.bind hx ?_
        | refine Ev.bind (laws_toIntSS_ev _ hh hh2) ?_
        | refine Ev.bind (laws_eqIntSS_refl _ hh hh2) ?_
        | refine Ev.bind (laws_markIntSS_ev _ _ hx0 (by omega) hh hh2) ?_
        | refine Ev.bind (laws_eqIntS_refl _ (by omega)) ?_
        | refine Ev.bind (laws_markIntS_ev _ _ (by omega) (by omega) (by omega)) ?_
        | refine Ev.bind (laws_heldIntS_ev _ _ (by omega) (by omega) (by omega)) ?_
        | simp only [if_true, if_false, Bool.not_true, Bool.not_false, bne_self_eq_false, Bool.false_eq_true, Option.bind_some, if_neg (show ¬ x.1 + (sumLen hs : Int) < 0 by omega), if_neg (show ¬ (1 : Int) + 1 * ((askHouses a b l c d m e f hs s).length : Int) < 0 by omega)]
        | (refine ev_succ ?_; simp only [laws_FnExactAskHouses.j0])
    · simp only [if_neg h2, if_pos (show (-1 : Int) < 0 by decide)]
      exact Ev.now _
  · simp only [szReport_big a b l c d m e f 1048576 (by omega) (by omega) (by omega) hl9 hm9, Option.bind_some]
    exact Ev.now _

end Go.Proofs.Ytejhjenlodclpaa.PFnExactAskHouses
