/- The plain part of FnExactTighten: what the printed functions come to, and that the law's answer is true. No conditions beyond those of the statement. -/
import Derived.Test.YtejhjenlodclpaaPFnExactTightenx
import Derived.Test.YtejhjenlodclpaaBaseFnExactTighten
import Derived.Test.YtejhjenlodclpaaDefFnExactTighten
namespace Go.Proofs.Ytejhjenlodclpaa.PFnExactTighten
open Go.RowKit Go.Proofs.YtejhjenlodclpaaW.PrintWords Go.Proofs.YtejhjenlodclpaaW.PrintMore Go.Proofs.Ytejhjenlodclpaa.Base
set_option linter.unusedVariables false
set_option linter.unusedSimpArgs false

/-! laws_szSlotS -/
theorem laws_szSlotS_ok (l : List (S156)) (a : Int) (h0 : (l.length : Int) ≤ a) (h1 : a ≤ 1048576) : laws_szSlotS.f l a = some (a - (l.length : Int)) := by
  unfold laws_szSlotS.f
  rw [w64 (by omega) (by omega), if_neg (by omega)]
theorem laws_szSlotS_big (l : List (S156)) (a : Int) (h0 : a < (l.length : Int)) (h1 : 0 ≤ a) (h2 : l.length ≤ 9223372036854775807) : laws_szSlotS.f l a = some (-1) := by
  unfold laws_szSlotS.f
  rw [w64 (by omega) (by omega), if_pos (by omega)]

/-! laws_szThingS -/
theorem laws_szThingS_ok (l : List (S122)) (a : Int) (h0 : (l.length : Int) ≤ a) (h1 : a ≤ 1048576) : laws_szThingS.f l a = some (a - (l.length : Int)) := by
  unfold laws_szThingS.f
  rw [w64 (by omega) (by omega), if_neg (by omega)]
theorem laws_szThingS_big (l : List (S122)) (a : Int) (h0 : a < (l.length : Int)) (h1 : 0 ≤ a) (h2 : l.length ≤ 9223372036854775807) : laws_szThingS.f l a = some (-1) := by
  unfold laws_szThingS.f
  rw [w64 (by omega) (by omega), if_pos (by omega)]

/-! spec_l1In -/
theorem spec_l1In_eq (a b c : Int) : spec_l1In.f a b c = some (inr a b c) := by
  unfold spec_l1In.f inr
  by_cases h : b ≤ a <;> simp [h]

/-! type_154 -/
theorem rd_T154_pre (pre : List (S154)) (x : S154) (rest : List (S154)) : rd_T154 (pre ++ x :: rest) (pre.length : Int) = x := getD_pre pre x rest z154

/-! areSlots -/
def slEarly (pre : List (S154)) (x : S154) : Bool := match pre.getLast? with | none => false | some y => decide (x.f0 ≤ y.f0)
def slClash (x y : S154) : Bool := !decide (x.f2 = 0) && decide (y.f2 = x.f2)
def slOk : List (S154) → List (S154) → Bool
  | _, [] => true
  | pre, x :: rest => inr x.f0 1 99 && (inr x.f1 1 50 && (inr x.f2 0 999 && (!slEarly pre x && (!pre.any (slClash x) && slOk (pre ++ [x]) rest))))
def areSlots (l : List (S154)) : Bool := decide (l.length ≤ 30) && slOk [] l
/-- The first slot with a thing. -/
def slotFind (l : List (S154)) (t : Int) : Option (S154) := if t = 0 then none else l.find? (fun y => decide (y.f2 = t))
def slotOf (l : List (S154)) (t : Int) : Int := match slotFind l t with | none => 0 | some y => y.f0
theorem slotOf_nil (t : Int) : slotOf [] t = 0 := by unfold slotOf slotFind; split <;> simp_all
theorem slotOf_zero (x : S154) (pre : List (S154)) (h : ∀ y ∈ pre, 1 ≤ y.f0) : (slotOf pre x.f2 = 0) ↔ pre.any (slClash x) = false := by
  unfold slotOf slotFind
  by_cases h0 : x.f2 = 0
  · rw [if_pos h0]
    have : pre.any (slClash x) = false := by
      rw [List.any_eq_false]
      intro y _
      simp [slClash, h0]
    simp [this]
  · rw [if_neg h0]
    cases hf : pre.find? (fun y => decide (y.f2 = x.f2)) with
    | none =>
      have := List.find?_eq_none.1 hf
      refine ⟨fun _ => ?_, fun _ => rfl⟩
      rw [List.any_eq_false]
      intro y hy
      have := this y hy
      simp [slClash, h0]
      simpa using this
    | some y =>
      have h1 := List.mem_of_find?_eq_some hf
      have h2 := List.find?_some hf
      have h3 := h y h1
      refine ⟨fun q => ?_, fun q => ?_⟩
      · have q' : y.f0 = 0 := q
        omega
      · rw [List.any_eq_false] at q
        have := q y h1
        simp [slClash, h0] at this
        simp at h2
        exact absurd h2 this

/-! spec_AreSlots -/
theorem spec_AreSlots_j1_true (l : List (S154)) (i : Int) : Ev (fun k => spec_AreSlots.j1 k l i true) false := by
  refine ev_succ ?_
  simp only [spec_AreSlots.j1, if_true]
  exact Ev.now _
theorem spec_AreSlots_j1_false {l pre rest : List (S154)} {x : S154} (e : l = pre ++ x :: rest) (hl : l.length < 9223372036854775807) (R : Bool) (ih : Ev (fun k => spec_AreSlots.l0 k l (wrap64 ((pre.length : Int) + 1))) R) :
    Ev (fun k => spec_AreSlots.j1 k l (pre.length : Int) false) (!pre.any (slClash x) && R) := by
  have hlen : l.length = pre.length + (rest.length + 1) := by rw [e, len_pre]
  have hx : rd_T154 l (pre.length : Int) = x := by
    unfold rd_T154
    rw [e]
    simp
  refine ev_succ ?_
  simp only [spec_AreSlots.j1, Bool.false_eq_true, if_false]
  refine ev_range pre (fun k _ j => spec_AreSlots.l1 k l (pre.length : Int) j) (fun _ r => !r.any (slClash x) && R) (fun _ _ => True) (by omega) ?_ ?_ () trivial
  · intro _ _
    simp only [spec_AreSlots.l1, if_neg (Int.lt_irrefl _)]
    simpa using ih
  · intro p y r _ ep hlt hget _ ihj
    have hr : rd_T154 l (p.length : Int) = y := by
      have := hget z154
      unfold rd_T154
      rw [e, getD_app _ _ _ (by omega)]
      exact this
    simp only [spec_AreSlots.l1, if_pos hlt, if_pos (ge0 p.length), if_pos (show (p.length : Int) < (l.length : Int) by omega), if_pos (ge0 pre.length), if_pos (show (pre.length : Int) < (l.length : Int) by omega), hr, hx]
    by_cases h0 : x.f2 = 0
    · simp only [if_pos h0]
      exact ev_map (ihj () trivial) (by simp [slClash, h0])
    · by_cases h1 : y.f2 = x.f2
      · simp only [if_neg h0, if_pos h1]
        exact ev_const (by simp [slClash, h0, h1])
      · simp only [if_neg h0, if_neg h1]
        exact ev_map (ihj () trivial) (by simp [slClash, h1])
theorem spec_AreSlots_ev (l : List (S154)) (hl : l.length < 9223372036854775807) : Ev (fun k => spec_AreSlots.f k l) (areSlots l) := by
  refine ev_map (ev_range l (fun k (_ : List (S154)) i => spec_AreSlots.l0 k l i) (fun s r => slOk s r && decide ((l.length : Int) ≤ 30)) (fun p s => s = p) hl ?_ ?_ [] rfl) ?_
  · intro s _
    simp only [spec_AreSlots.l0, if_neg (Int.lt_irrefl _)]
    exact ev_const (by simp [slOk])
  · rintro pre x rest s e hlt hget rfl ih
    have hr : rd_T154 l (s.length : Int) = x := hget _
    have ih' := ih _ rfl
    simp only [spec_AreSlots.l0, if_pos hlt, if_pos (ge0 s.length), hr, spec_l1In_eq, Option.bind_some, slOk]
    cases h1 : inr x.f0 1 99 with
    | false => exact spec_AreSlots_j1_true _ _
    | true =>
      cases h2 : inr x.f1 1 50 with
      | false => exact spec_AreSlots_j1_true _ _
      | true =>
        cases h3 : inr x.f2 0 999 with
        | false => exact spec_AreSlots_j1_true _ _
        | true =>
          simp only [if_true, Bool.true_and]
          rcases prev_cases e hl with ⟨hp, hn⟩ | ⟨y, hy, h4, h5, h6, h7⟩
          · simp only [if_neg hn]
            exact ev_map (spec_AreSlots_j1_false e hl _ ih') (by simp [slEarly, hp])
          · have hr7 : rd_T154 l (wrap64 ((s.length : Int) - 1)) = y := h7 _
            simp only [if_pos h4, if_pos h5, if_pos h6, hr7]
            by_cases h8 : y.f0 ≥ x.f0
            · simp only [h8, decide_true]
              exact ev_map (spec_AreSlots_j1_true _ _) (by simp [slEarly, hy, show x.f0 ≤ y.f0 from h8])
            · simp only [h8, decide_false]
              exact ev_map (spec_AreSlots_j1_false e hl _ ih') (by simp [slEarly, hy, show ¬ x.f0 ≤ y.f0 from h8, Bool.and_assoc])
  · unfold areSlots
    rw [Bool.and_comm, show decide ((l.length : Int) ≤ 30) = decide (l.length ≤ 30) from decide_eq_decide.2 (by omega)]

/-! spec_IsThing -/
theorem spec_IsThing_eq (a b c d e : Int) : spec_IsThing.f a b c d e = some (isThing a b c d e) := by
  simp only [spec_IsThing.f, spec_l1In_eq, Option.bind_some, ite_and, isThing]

/-! type_111 -/
theorem rd_T111_pre (pre : List (S111)) (x : S111) (rest : List (S111)) : rd_T111 (pre ++ x :: rest) (pre.length : Int) = x := getD_pre pre x rest z111

/-! areThings -/
def thEarly (pre : List (S111)) (x : S111) : Bool := match pre.getLast? with | none => false | some y => decide (x.f0 ≤ y.f0)
def thOk : List (S111) → List (S111) → Bool
  | _, [] => true
  | pre, x :: rest => isThing x.f0 x.f1 x.f2 x.f3 x.f4 && (!thEarly pre x && thOk (pre ++ [x]) rest)
def areThings (l : List (S111)) : Bool := decide (l.length ≤ 20) && thOk [] l

/-! spec_AreThings -/
theorem spec_AreThings_ev (l : List (S111)) (hl : l.length < 9223372036854775807) : Ev (fun k => spec_AreThings.f k l) (areThings l) := by
  refine ev_map (ev_range l (fun k (_ : List (S111)) i => spec_AreThings.l0 k l i) (fun s r => thOk s r && decide ((l.length : Int) ≤ 20)) (fun p s => s = p) hl ?_ ?_ [] rfl) ?_
  · intro s _
    simp only [spec_AreThings.l0, if_neg (Int.lt_irrefl _)]
    exact ev_const (by simp [thOk])
  · rintro pre x rest s e hlt hget rfl ih
    have hr : rd_T111 l (s.length : Int) = x := hget _
    have ih' := ih _ rfl
    simp only [spec_AreThings.l0, if_pos hlt, if_pos (ge0 s.length), hr, spec_IsThing_eq, Option.bind_some, thOk]
    cases h1 : isThing x.f0 x.f1 x.f2 x.f3 x.f4 with
    | false =>
      simp only [Bool.false_eq_true, if_false, Bool.false_and]
      exact Ev.now _
    | true =>
      simp only [if_true, Bool.true_and]
      rcases prev_cases e hl with ⟨hp, hn⟩ | ⟨y, hy, h4, h5, h6, h7⟩
      · simp only [if_neg hn]
        exact ev_map ih' (by simp [thEarly, hp])
      · have hr7 : rd_T111 l (wrap64 ((s.length : Int) - 1)) = y := h7 _
        simp only [if_pos h4, if_pos h5, if_pos h6, hr7]
        by_cases h8 : y.f0 ≥ x.f0
        · simp only [if_pos h8]
          exact ev_const (by simp [thEarly, hy, show x.f0 ≤ y.f0 from h8])
        · simp only [if_neg h8]
          exact ev_map ih' (by simp [thEarly, hy, show ¬ x.f0 ≤ y.f0 from h8])
  · unfold areThings
    rw [Bool.and_comm, show decide ((l.length : Int) ≤ 20) = decide (l.length ≤ 20) from decide_eq_decide.2 (by omega)]

/-! spec_SlotOf -/
theorem spec_SlotOf_ev (l : List (S154)) (t : Int) (hl : l.length < 9223372036854775807) : Ev (fun k => spec_SlotOf.f k l t) (slotOf l t) := by
  refine ev_range l (fun k (_ : Unit) i => spec_SlotOf.l0 k l t i) (fun _ r => slotOf r t) (fun _ _ => True) hl ?_ ?_ () trivial
  · intro _ _
    simp only [spec_SlotOf.l0, if_neg (Int.lt_irrefl _), slotOf_nil]
    exact Ev.now _
  · rintro pre x rest _ e hlt hget _ ih
    have hr : rd_T154 l (pre.length : Int) = x := hget _
    have ih' := ih () trivial
    simp only [spec_SlotOf.l0, if_pos hlt, if_pos (ge0 pre.length), hr]
    by_cases h0 : t = 0
    · simp only [if_pos h0]
      exact ev_map ih' (by simp [slotOf, slotFind, h0])
    · by_cases h1 : x.f2 = t
      · simp only [if_neg h0, if_pos h1]
        exact ev_const (by simp [slotOf, slotFind, h0, h1])
      · simp only [if_neg h0, if_neg h1]
        exact ev_map ih' (by simp [slotOf, slotFind, h0, h1])

/-! put -/
/-- x goes into an ascending list, once. -/
def put (n : Int) : List Int → List Int
  | [] => [n]
  | x :: l => if x < n then x :: put n l else if x = n then x :: l else n :: x :: l
def asc (l : List Int) : Prop := l.Pairwise (fun a b => a < b)
theorem put_len (n : Int) : ∀ l : List Int, (put n l).length ≤ l.length + 1
  | [] => by simp [put]
  | x :: l => by
    have := put_len n l
    unfold put
    split
    · simp only [List.length_cons]; omega
    split
    · simp
    · simp
theorem mem_put (n z : Int) : ∀ l : List Int, z ∈ put n l ↔ z = n ∨ z ∈ l
  | [] => by simp [put]
  | x :: l => by
    have ih := mem_put n z l
    unfold put
    split
    · simp only [List.mem_cons, ih]
      constructor
      · rintro (h | h | h)
        · exact .inr (.inl h)
        · exact .inl h
        · exact .inr (.inr h)
      · rintro (h | h | h)
        · exact .inr (.inl h)
        · exact .inl h
        · exact .inr (.inr h)
    split
    · rename_i h
      subst h
      simp only [List.mem_cons]
      constructor
      · exact .inr
      · rintro (h | h | h)
        · exact .inl h
        · exact .inl h
        · exact .inr h
    · simp only [List.mem_cons]
theorem put_asc (n : Int) : ∀ l : List Int, asc l → asc (put n l)
  | [], _ => by simp [put, asc]
  | x :: l, h => by
    obtain ⟨h1, h2⟩ := List.pairwise_cons.1 h
    have ih := put_asc n l h2
    unfold put
    split
    · rename_i hx
      refine List.pairwise_cons.2 ⟨fun z hz => ?_, ih⟩
      rcases (mem_put n z l).1 hz with rfl | hz
      · exact hx
      · exact h1 z hz
    split
    · exact h
    · rename_i hx hn
      refine List.pairwise_cons.2 ⟨fun z hz => ?_, h⟩
      rcases List.mem_cons.1 hz with rfl | hz
      · omega
      · have := h1 z hz
        omega
theorem asc_ext : ∀ (l l' : List Int), asc l → asc l' → (∀ z, z ∈ l ↔ z ∈ l') → l = l'
  | [], [], _, _, _ => rfl
  | [], y :: l', _, _, h => by
    have := (h y).2 (by simp)
    simp at this
  | x :: l, [], _, _, h => by
    have := (h x).1 (by simp)
    simp at this
  | x :: l, y :: l', h1, h2, h => by
    obtain ⟨a1, a2⟩ := List.pairwise_cons.1 h1
    obtain ⟨b1, b2⟩ := List.pairwise_cons.1 h2
    have e : x = y := by
      rcases List.mem_cons.1 ((h x).1 (by simp)) with e | e
      · exact e
      rcases List.mem_cons.1 ((h y).2 (by simp)) with e' | e'
      · exact e'.symm
      have := a1 y e'
      have := b1 x e
      omega
    subst e
    rw [asc_ext l l' a2 b2 (fun z => ?_)]
    constructor
    · intro hz
      rcases List.mem_cons.1 ((h z).1 (List.mem_cons_of_mem _ hz)) with e | e
      · have := a1 z hz
        omega
      · exact e
    · intro hz
      rcases List.mem_cons.1 ((h z).2 (List.mem_cons_of_mem _ hz)) with e | e
      · have := b1 z hz
        omega
      · exact e
def puts (s l : List Int) : List Int := l.foldl (fun s x => put x s) s
theorem puts_asc : ∀ (l s : List Int), asc s → asc (puts s l)
  | [], s, h => h
  | x :: l, s, h => puts_asc l (put x s) (put_asc x s h)
theorem mem_puts (z : Int) : ∀ (l s : List Int), z ∈ puts s l ↔ z ∈ s ∨ z ∈ l
  | [], s => by simp [puts]
  | x :: l, s => by
    have ih := mem_puts z l (put x s)
    have e : puts s (x :: l) = puts (put x s) l := rfl
    rw [e, ih, mem_put, List.mem_cons]
    constructor
    · rintro ((h | h) | h)
      · exact .inr (.inl h)
      · exact .inl h
      · exact .inr (.inr h)
    · rintro (h | h | h)
      · exact .inl (.inr h)
      · exact .inl (.inl h)
      · exact .inr h
theorem puts_len : ∀ (l s : List Int), (puts s l).length ≤ s.length + l.length
  | [], s => by simp [puts]
  | x :: l, s => by
    have := puts_len l (put x s)
    have h := put_len x s
    have e : puts s (x :: l) = puts (put x s) l := rfl
    rw [e, List.length_cons]
    omega
theorem asc_nil : asc [] := List.Pairwise.nil
def msort (l : List Int) : List Int := l.mergeSort fun x y => decide (x ≤ y)
theorem msort_len (l : List Int) : (msort l).length = l.length := List.length_mergeSort l
theorem mem_msort (z : Int) (l : List Int) : z ∈ msort l ↔ z ∈ l := List.mem_mergeSort
theorem msort_le (l : List Int) : (msort l).Pairwise (fun a b => a ≤ b) := by
  have := List.pairwise_mergeSort (le := fun x y : Int => decide (x ≤ y)) (fun a b c h1 h2 => by simp at h1 h2 ⊢; omega) (fun a b => by simp; omega) l
  exact this.imp (fun h => by simpa using h)
theorem msort_asc (l : List Int) (h : l.Nodup) : asc (msort l) := by
  have h1 := msort_le l
  have h2 : (msort l).Nodup := (List.mergeSort_perm l _).nodup_iff.2 h
  exact (h1.and h2).imp (fun ⟨a, b⟩ => by omega)

/-! spec_l9Put -/
theorem spec_l9Put_ev (l : List Int) (n : Int) (h : l.length ≤ 1099511627776) : Ev (fun k => spec_l9Put.f k l n) (put n l) := by
  refine ev_map (ev_range l (fun k (_ : List Int) i => spec_l9Put.l0 k l n i) (fun s r => s ++ put n r) (fun p s => s = p) (by omega) ?_ ?_ [] rfl) (by simp)
  · rintro s rfl
    simp only [spec_l9Put.l0, if_neg (Int.lt_irrefl _), Option.bind_some, if_pos (ge0 s.length), if_pos (Int.le_refl _), List.length_nil, Int.toNat_natCast, List.take_length, List.drop_length, List.nil_append, List.length_append, List.length_singleton]
    exact ev_const (by simp only [put, List.append_nil]; repeat rw [if_pos (by omega)])
  · rintro pre x rest s e hlt hget rfl ih
    have hr : rd l (s.length : Int) = x := hget 0
    have hl : l.length = s.length + (rest.length + 1) := by rw [e, len_pre]
    have ht : l.take s.length = s := by rw [e]; simp
    have hd : l.drop s.length = x :: rest := by rw [e]; simp
    simp only [spec_l9Put.l0, if_pos hlt, if_pos (ge0 s.length), hr, put]
    by_cases h1 : x < n
    · simp only [if_pos h1]
      exact ev_map (ih (s ++ [x]) rfl) (by simp)
    by_cases h2 : x = n
    · simp only [if_neg h1, if_pos h2, Option.bind_some, List.length_nil, List.nil_append]
      rw [if_pos (by omega)]
      exact ev_const (by rw [e])
    · simp only [if_neg h1, if_neg h2, Option.bind_some, if_pos (show (s.length : Int) ≤ (l.length : Int) by omega), List.length_nil, Int.toNat_natCast, ht, hd, List.nil_append, List.length_append, List.length_singleton, List.length_cons]
      exact ev_const (by rw [if_pos (by omega), if_pos (by omega), if_pos (by omega)]; simp)

/-! slotFacts -/
def slFits (x : S154) : Prop := (1 ≤ x.f0 ∧ x.f0 ≤ 99) ∧ (1 ≤ x.f1 ∧ x.f1 ≤ 50) ∧ (0 ≤ x.f2 ∧ x.f2 ≤ 999)
def slAfter (pre : List (S154)) (x : S154) : Prop := ∀ y, pre.getLast? = some y → y.f0 < x.f0
theorem slEarly_iff (pre : List (S154)) (x : S154) : slEarly pre x = false ↔ slAfter pre x := by
  unfold slEarly slAfter
  cases pre.getLast? with
  | none => simp
  | some y => simp
theorem slOk_iff : ∀ (l pre : List (S154)), slOk pre l = true ↔ (∀ x ∈ l, slFits x) ∧ (∀ x ∈ l, slAfter pre x) ∧ l.Pairwise (fun a b => a.f0 < b.f0) ∧ (∀ x ∈ l, ∀ y ∈ pre, x.f2 = 0 ∨ y.f2 ≠ x.f2) ∧ l.Pairwise (fun a b => b.f2 = 0 ∨ a.f2 ≠ b.f2)
  | [], pre => by simp [slOk]
  | x :: l, pre => by
    have ih := slOk_iff l (pre ++ [x])
    have hA : ∀ z, slAfter (pre ++ [x]) z ↔ x.f0 < z.f0 := fun z => by
      unfold slAfter
      rw [List.getLast?_concat]
      simp
    have hC : pre.any (slClash x) = false ↔ ∀ y ∈ pre, x.f2 = 0 ∨ y.f2 ≠ x.f2 := by
      rw [List.any_eq_false]
      refine forall_congr' fun y => forall_congr' fun _ => ?_
      simp [slClash]
      constructor
      · intro q
        by_cases h0 : x.f2 = 0
        · exact .inl h0
        · exact .inr (q h0)
      · rintro (q | q) h0
        · exact absurd q h0
        · exact q
    simp only [slOk, Bool.and_eq_true, inr_iff, Bool.not_eq_true', slEarly_iff, hC, ih, List.pairwise_cons, List.mem_cons, forall_eq_or_imp, slFits, List.mem_append, List.mem_singleton, hA]
    constructor
    · rintro ⟨h1, h2, h3, h4, h5, h6, h7, h8, h9, h10⟩
      refine ⟨⟨⟨h1, h2, h3⟩, h6⟩, ⟨h4, fun z hz y hy => Int.lt_trans (h4 y hy) (h7 z hz)⟩, ⟨h7, h8⟩, ⟨h5, fun z hz y hy => h9 z hz y (.inl hy)⟩, ⟨fun z hz => h9 z hz x (.inr (by simp)), h10⟩⟩
    · rintro ⟨⟨⟨h1, h2, h3⟩, h6⟩, ⟨h4, h4'⟩, ⟨h7, h8⟩, ⟨h5, h9⟩, ⟨h9', h10⟩⟩
      refine ⟨h1, h2, h3, h4, h5, h6, h7, h8, fun z hz y hy => ?_, h10⟩
      rcases hy with hy | hy
      · exact h9 z hz y hy
      · have hy' : y = x := by simpa using hy
        rw [hy']; exact h9' z hz
theorem areSlots_iff (l : List (S154)) : areSlots l = true ↔ l.length ≤ 30 ∧ (∀ x ∈ l, slFits x) ∧ l.Pairwise (fun a b => a.f0 < b.f0) ∧ l.Pairwise (fun a b => b.f2 = 0 ∨ a.f2 ≠ b.f2) := by
  unfold areSlots
  rw [Bool.and_eq_true, decide_eq_true_eq, slOk_iff]
  constructor
  · rintro ⟨h0, h1, _, h2, _, h3⟩
    exact ⟨h0, h1, h2, h3⟩
  · rintro ⟨h0, h1, h2, h3⟩
    exact ⟨h0, h1, fun x _ y hy => by simp at hy, h2, fun x _ y hy => by simp at hy, h3⟩
def noThing (y : S154) : S154 := ⟨y.f0, y.f1, 0⟩
def zero1 (R : List Int) (y : S154) : S154 := if y.f2 ∈ R then noThing y else y
def zeroed (l : List (S154)) (R : List Int) : List (S154) := l.map (zero1 R)
theorem zero1_f0 (R : List Int) (y : S154) : (zero1 R y).f0 = y.f0 := by unfold zero1 noThing; split <;> rfl
theorem zero1_f1 (R : List Int) (y : S154) : (zero1 R y).f1 = y.f1 := by unfold zero1 noThing; split <;> rfl
theorem zero1_f2 (R : List Int) (y : S154) : (zero1 R y).f2 = 0 ∨ (zero1 R y).f2 = y.f2 := by
  unfold zero1 noThing
  split
  · exact .inl rfl
  · exact .inr rfl
theorem zeroed_nil (l : List (S154)) : zeroed l [] = l := by
  unfold zeroed
  rw [List.map_congr_left (g := id) (fun y _ => by simp [zero1]), List.map_id]
theorem zeroed_ok (l : List (S154)) (R : List Int) (h : areSlots l = true) : areSlots (zeroed l R) = true := by
  obtain ⟨h0, h1, h2, h3⟩ := (areSlots_iff l).1 h
  refine (areSlots_iff _).2 ⟨by unfold zeroed; rw [List.length_map]; exact h0, ?_, ?_, ?_⟩
  · intro x hx
    obtain ⟨y, hy, rfl⟩ := List.mem_map.1 hx
    have := h1 y hy
    unfold slFits at this ⊢
    rw [zero1_f0, zero1_f1]
    rcases zero1_f2 R y with q | q <;> rw [q] <;> omega
  · unfold zeroed
    rw [List.pairwise_map]
    exact h2.imp (fun {a b} q => by rw [zero1_f0, zero1_f0]; exact q)
  · unfold zeroed
    rw [List.pairwise_map]
    refine h3.imp (fun {a b} q => ?_)
    rcases zero1_f2 R b with qb | qb
    · exact .inl qb
    · rcases zero1_f2 R a with qa | qa
      · rw [qa, qb]
        by_cases hb : b.f2 = 0
        · exact .inl hb
        · exact .inr (fun e => hb e.symm)
      · rw [qa, qb]; exact q
theorem pair_at {P : S154 → S154 → Prop} {l : List (S154)} (h : l.Pairwise P) (i j : Nat) (hj : j < l.length) (hij : i < j) : P (l[i]'(by omega)) l[j] := List.pairwise_iff_getElem.1 h i j (by omega) hj hij
/-- A thing that is not nothing lies in one slot alone. -/
theorem thing_once {l : List (S154)} (h : areSlots l = true) (i j : Nat) (hi : i < l.length) (hj : j < l.length) (h0 : l[i].f2 ≠ 0) (e : l[i].f2 = l[j].f2) : i = j := by
  obtain ⟨_, _, _, h3⟩ := (areSlots_iff l).1 h
  rcases Nat.lt_trichotomy i j with q | q | q
  · rcases pair_at h3 i j hj q with r | r
    · exact absurd (e.trans r) h0
    · exact absurd e r
  · exact q
  · rcases pair_at h3 j i hi q with r | r
    · exact absurd r h0
    · exact absurd e.symm r
theorem id_once {l : List (S154)} (h : areSlots l = true) (i j : Nat) (hi : i < l.length) (hj : j < l.length) (e : l[i].f0 = l[j].f0) : i = j := by
  obtain ⟨_, _, h2, _⟩ := (areSlots_iff l).1 h
  rcases Nat.lt_trichotomy i j with q | q | q
  · have := pair_at h2 i j hj q
    omega
  · exact q
  · have := pair_at h2 j i hi q
    omega
/-- To change the slots with an identity is to change one place. -/
theorem map_set (l : List (S154)) (h : areSlots l = true) (n : Nat) (hn : n < l.length) (u : S154 → S154) : l.map (fun y => if y.f0 = l[n].f0 then u y else y) = l.set n (u l[n]) := by
  refine List.ext_getElem (by simp) (fun m h1 h2 => ?_)
  rw [List.getElem_map, List.getElem_set]
  have hm : m < l.length := by simpa using h1
  by_cases q : n = m
  · subst q
    simp
  · rw [if_neg q, if_neg (fun e => q (id_once h n m hn hm e.symm))]
theorem zeroed_set (l : List (S154)) (h : areSlots l = true) (R : List Int) (t : Int) (n : Nat) (hn : n < l.length) (ht : l[n].f2 = t) (h0 : t ≠ 0) : (zeroed l R).set n (noThing l[n]) = zeroed l (R ++ [t]) := by
  refine List.ext_getElem (by simp [zeroed]) (fun m h1 h2 => ?_)
  have hm : m < l.length := by simpa [zeroed] using h1
  rw [List.getElem_set]
  simp only [zeroed, List.getElem_map]
  by_cases q : n = m
  · subst q
    rw [if_pos rfl]
    unfold zero1
    rw [if_pos (by simp [ht])]
  · rw [if_neg q]
    have hne : l[m].f2 ≠ t := fun e => q (thing_once h n m hn hm (by rw [ht]; exact h0) (by rw [ht, e]))
    unfold zero1
    simp [hne]
theorem zeroed_none (l : List (S154)) (R : List Int) (t : Int) (ht : ∀ y ∈ l, y.f2 ≠ t) : zeroed l (R ++ [t]) = zeroed l R := by
  unfold zeroed
  refine List.map_congr_left (fun y hy => ?_)
  have := ht y hy
  unfold zero1
  simp [this]

/-! impl_SlotOf -/
def slotIx (l : List (S154)) (t : Int) : Int := if t = 0 then -1 else impl_slotWith.idx (impl_slotWith.p t) 0 l
theorem idx_spec (q : S154 → Bool) : ∀ (l : List (S154)) (i : Nat), (impl_slotWith.idx q i l = -1 ∧ l.find? q = none) ∨ ∃ n y, impl_slotWith.idx q i l = ((i + n : Nat) : Int) ∧ l[n]? = some y ∧ l.find? q = some y ∧ q y = true ∧ ∀ m, m < n → ∀ z, l[m]? = some z → q z = false
  | [], i => .inl ⟨rfl, rfl⟩
  | x :: l, i => by
    by_cases hx : q x = true
    · right
      refine ⟨0, x, by simp [impl_slotWith.idx, hx], rfl, by simp [hx], hx, fun m hm => by omega⟩
    · have hx' : q x = false := Bool.eq_false_iff.mpr hx
      have e : impl_slotWith.idx q i (x :: l) = impl_slotWith.idx q (i + 1) l := by simp [impl_slotWith.idx, hx']
      rcases idx_spec q l (i + 1) with ⟨h1, h2⟩ | ⟨n, y, h1, h2, h3, h4, h5⟩
      · left
        exact ⟨by rw [e, h1], by simp [hx', h2]⟩
      · right
        refine ⟨n + 1, y, by rw [e, h1, show i + 1 + n = i + (n + 1) by omega], by simpa using h2, by simp [hx', h3], h4, ?_⟩
        intro m hm z hz
        cases m with
        | zero =>
          have : x = z := by simpa using hz
          rw [← this]
          exact hx'
        | succ m => exact h5 m (by omega) z (by simpa using hz)
theorem slotIx_spec (l : List (S154)) (t : Int) : (slotIx l t = -1 ∧ slotFind l t = none) ∨ ∃ (n : Nat) (y : S154), slotIx l t = (n : Int) ∧ l[n]? = some y ∧ slotFind l t = some y ∧ y.f2 = t ∧ t ≠ 0 ∧ n < l.length := by
  unfold slotIx slotFind
  by_cases h0 : t = 0
  · rw [if_pos h0, if_pos h0]
    exact .inl ⟨rfl, rfl⟩
  · rw [if_neg h0, if_neg h0]
    rcases idx_spec (impl_slotWith.p t) l 0 with ⟨h1, h2⟩ | ⟨n, y, h1, h2, h3, h4, h5⟩
    · exact .inl ⟨h1, h2⟩
    · refine .inr ⟨n, y, by rw [h1, Nat.zero_add], h2, h3, of_decide_eq_true h4, h0, ?_⟩
      exact (List.getElem?_eq_some_iff.1 h2).1
theorem slot_rd (l : List (S154)) (n : Nat) (y : S154) (h : l[n]? = some y) : rd_T154 l (n : Int) = y := by
  unfold rd_T154
  rw [List.getD_eq_getElem?_getD, show ((n : Int)).toNat = n by omega, h]
  rfl
theorem impl_slotWith_eq (l : List (S154)) (t : Int) : impl_slotWith.f l t = some (slotIx l t) := rfl
theorem impl_SlotOf_eq (l : List (S154)) (t : Int) : impl_SlotOf.f l t = some (slotOf l t) := by
  unfold impl_SlotOf.f
  simp only [impl_slotWith_eq, Option.bind_some]
  rcases slotIx_spec l t with ⟨h1, h2⟩ | ⟨n, y, h1, h2, h3, _, _, h6⟩
  · rw [h1, if_pos (by omega)]
    unfold slotOf
    rw [h2]
  · rw [h1, if_neg (by omega), if_pos (by omega), if_pos (by omega), slot_rd l n y h2]
    unfold slotOf
    rw [h3]

/-! slotMore -/
theorem slotOf_ne (l : List (S154)) (t : Int) (h : areSlots l = true) : (slotOf l t = 0 ∧ slotIx l t = -1 ∧ (t = 0 ∨ ∀ y ∈ l, y.f2 ≠ t)) ∨ ∃ (n : Nat) (hn : n < l.length), slotIx l t = (n : Int) ∧ slotOf l t = l[n].f0 ∧ l[n].f2 = t ∧ t ≠ 0 ∧ slotOf l t ≠ 0 := by
  rcases slotIx_spec l t with ⟨h1, h2⟩ | ⟨n, y, h1, h2, h3, h4, h5, h6⟩
  · left
    refine ⟨by unfold slotOf; rw [h2], h1, ?_⟩
    unfold slotFind at h2
    by_cases h0 : t = 0
    · exact .inl h0
    · rw [if_neg h0] at h2
      right
      intro y hy e
      have := List.find?_eq_none.1 h2 y hy
      simp [e] at this
  · right
    have hy : y = l[n] := by rw [List.getElem?_eq_getElem h6] at h2; exact (Option.some.inj h2).symm
    have hs : slotOf l t = l[n].f0 := by unfold slotOf; rw [h3, hy]
    refine ⟨n, h6, h1, hs, by rw [← hy]; exact h4, h5, ?_⟩
    obtain ⟨_, hf, _, _⟩ := (areSlots_iff l).1 h
    have := (hf l[n] (List.getElem_mem h6)).1
    rw [hs]
    omega
/-- The place of the smallest free slot for a size, or -1. -/
def bestStep (l : List (S154)) (size b : Int) (n : Nat) (x : S154) : Int := if x.f2 = 0 then (if x.f1 ≥ size then (if b < 0 then (n : Int) else (if x.f1 < (rd_T154 l b).f1 then (n : Int) else b)) else b) else b
def bestFrom (l : List (S154)) (size : Int) : Int → Nat → List (S154) → Int
  | b, _, [] => b
  | b, n, x :: r => bestFrom l size (bestStep l size b n x) (n + 1) r
def freeIx (l : List (S154)) (size : Int) : Int := bestFrom l size (-1) 0 l
theorem bestStep_lt (l : List (S154)) (size b : Int) (n : Nat) (x : S154) (h : -1 ≤ b ∧ b < (n : Int)) : -1 ≤ bestStep l size b n x ∧ bestStep l size b n x < ((n + 1 : Nat) : Int) := by
  unfold bestStep
  split
  · split
    · split
      · omega
      · split <;> omega
    · omega
  · omega
theorem bestFrom_lt (l : List (S154)) (size : Int) : ∀ (r : List (S154)) (b : Int) (n : Nat), -1 ≤ b ∧ b < (n : Int) → -1 ≤ bestFrom l size b n r ∧ bestFrom l size b n r < ((n + r.length : Nat) : Int)
  | [], b, n, h => by simpa [bestFrom] using h
  | x :: r, b, n, h => by
    have := bestFrom_lt l size r _ _ (bestStep_lt l size b n x h)
    unfold bestFrom
    simp only [List.length_cons]
    omega
theorem freeIx_lt (l : List (S154)) (size : Int) : -1 ≤ freeIx l size ∧ freeIx l size < (l.length : Int) := by
  have := bestFrom_lt l size l (-1) 0 (by omega)
  rw [Nat.zero_add] at this
  exact this
def putAway (l : List (S154)) (a b c d e : Int) : List (S154) × Bool :=
  if areSlots l = true ∧ isThing a b c d e = true ∧ 0 ≤ freeIx l d ∧ slotIx l a < 0 then (l.set (freeIx l d).toNat ⟨(rd_T154 l (freeIx l d)).f0, (rd_T154 l (freeIx l d)).f1, a⟩, true) else (l, false)
theorem putAway_len (l : List (S154)) (a b c d e : Int) : (putAway l a b c d e).1.length = l.length := by
  unfold putAway
  split
  · rw [List.length_set]
  · rfl

/-! spec_PutAway -/
theorem spec_SmallestFree_ev (l : List (S154)) (size : Int) (hl : l.length < 9223372036854775807) : Ev (fun k => spec_SmallestFree.f k l size) (if freeIx l size < 0 then 0 else (rd_T154 l (freeIx l size)).f0) := by
  refine ev_range l (fun k (s : Int × Nat) i => spec_SmallestFree.l0 k l size s.1 i) (fun s r => if bestFrom l size s.1 s.2 r < 0 then 0 else (rd_T154 l (bestFrom l size s.1 s.2 r)).f0) (fun p s => s.2 = p.length ∧ -1 ≤ s.1 ∧ s.1 < (p.length : Int)) hl ?_ ?_ (-1, 0) ⟨rfl, by omega, by simp⟩
  · rintro ⟨b, n⟩ ⟨hn, hb0, hb1⟩
    have hb1' : b < (l.length : Int) := hb1
    simp only [spec_SmallestFree.l0, if_neg (Int.lt_irrefl _), bestFrom]
    by_cases h3 : b < 0
    · simp only [if_pos h3]
      refine ev_const ?_
      show some (0 : Int) = some (if b < 0 then 0 else (rd_T154 l b).f0)
      rw [if_pos h3]
    · simp only [if_neg h3, if_pos (show 0 ≤ b by omega), if_pos hb1']
      refine ev_const ?_
      show some (rd_T154 l b).f0 = some (if b < 0 then 0 else (rd_T154 l b).f0)
      rw [if_neg h3]
  · rintro pre x rest ⟨b, n⟩ e hlt hget ⟨hn, hb0, hb1⟩ ih
    have hn' : n = pre.length := hn
    have hb0' : -1 ≤ b := hb0
    have hb1' : b < (pre.length : Int) := hb1
    subst hn'
    have hr : rd_T154 l (pre.length : Int) = x := hget _
    have hs := bestStep_lt l size b pre.length x ⟨hb0', hb1'⟩
    have ih' := ih (bestStep l size b pre.length x, pre.length + 1) ⟨by simp, hs.1, by simpa using hs.2⟩
    simp only [spec_SmallestFree.l0, if_pos hlt, if_pos (ge0 pre.length), hr, bestFrom]
    unfold bestStep at ih' ⊢
    by_cases h1 : x.f2 = 0
    · by_cases h2 : x.f1 ≥ size
      · by_cases h3 : b < 0
        · simp only [if_pos h1, if_pos h2, if_pos h3] at ih' ⊢
          exact ih'
        · by_cases h4 : x.f1 < (rd_T154 l b).f1
          · simp only [if_pos h1, if_pos h2, if_neg h3, if_pos h4, if_pos (show 0 ≤ b by omega), if_pos (show b < (l.length : Int) by omega)] at ih' ⊢
            exact ih'
          · simp only [if_pos h1, if_pos h2, if_neg h3, if_neg h4, if_pos (show 0 ≤ b by omega), if_pos (show b < (l.length : Int) by omega)] at ih' ⊢
            exact ih'
      · simp only [if_pos h1, if_neg h2] at ih' ⊢
        exact ih'
    · simp only [if_neg h1] at ih' ⊢
      exact ih'
theorem spec_PutAway_loop (l : List (S154)) (s a b c d e : Int) (hl : l.length < 1099511627776) : Ev (fun k => spec_PutAway.l0 k l s 0 a b c d e) (l.map (fun y => if y.f0 = s then (⟨y.f0, y.f1, a⟩ : S154) else y), true) := by
  have key : ∀ (rest pre : List (S154)), pre.length + rest.length < 1099511627776 → Ev (fun k => spec_PutAway.l0 k (pre ++ rest) s (pre.length : Int) a b c d e) (pre ++ rest.map (fun y => if y.f0 = s then (⟨y.f0, y.f1, a⟩ : S154) else y), true) := by
    intro rest
    induction rest with
    | nil =>
      intro pre _
      refine ev_succ ?_
      simp only [spec_PutAway.l0, List.append_nil, if_neg (Int.lt_irrefl _), List.map_nil]
      exact Ev.now _
    | cons x rest ih =>
      intro pre h
      simp only [List.length_cons] at h
      have hr : rd_T154 (pre ++ x :: rest) (pre.length : Int) = x := getD_pre pre x rest _
      refine ev_succ ?_
      simp only [spec_PutAway.l0, if_pos (show (pre.length : Int) < ((pre ++ x :: rest).length : Int) by simp only [List.length_append, List.length_cons]; omega), if_pos (ge0 pre.length), hr, wsucc (show pre.length < 9223372036854775807 by omega), Int.toNat_natCast]
      by_cases h1 : x.f0 = s
      · simp only [if_pos h1]
        have := ih (pre ++ [⟨x.f0, x.f1, a⟩]) (by simp only [List.length_append, List.length_singleton]; omega)
        rw [List.length_append, List.length_singleton] at this
        simpa [h1] using this
      · simp only [if_neg h1]
        have := ih (pre ++ [x]) (by simp only [List.length_append, List.length_singleton]; omega)
        rw [List.length_append, List.length_singleton] at this
        simpa [h1] using this
  exact key l [] (by simpa using hl)
theorem spec_PutAway_ev (l : List (S154)) (a b c d e : Int) (hl : l.length < 1099511627776) : Ev (fun k => spec_PutAway.f k l a b c d e) (putAway l a b c d e) := by
  have hf := freeIx_lt l d
  have jt : ∀ s : Int, Ev (fun k => spec_PutAway.j0 k l s true a b c d e) (l, false) := fun s => by
    refine ev_succ ?_
    simp only [spec_PutAway.j0, if_true]
    exact Ev.now _
  unfold spec_PutAway.f putAway
  simp only [Option.bind_some, List.nil_append, List.length_nil, Nat.zero_add, if_pos (show l.length < 5864062014805 by omega)]
  refine Ev.bind (spec_SmallestFree_ev l d (by omega)) ?_
  refine Ev.bind (spec_AreSlots_ev l (by omega)) ?_
  by_cases h1 : areSlots l = true
  · by_cases h2 : isThing a b c d e = true
    · simp only [if_pos h1, spec_IsThing_eq, Option.bind_some, if_pos h2]
      by_cases h3 : freeIx l d < 0
      · simp only [if_pos h3, if_true, if_neg (show ¬ (areSlots l = true ∧ isThing a b c d e = true ∧ 0 ≤ freeIx l d ∧ slotIx l a < 0) from fun q => by omega)]
        exact jt _
      · have hn : (freeIx l d).toNat < l.length := by omega
        have hrd : rd_T154 l (freeIx l d) = l[(freeIx l d).toNat] := by
          unfold rd_T154
          rw [List.getD_eq_getElem?_getD, List.getElem?_eq_getElem hn]; rfl
        obtain ⟨_, hfit, _, _⟩ := (areSlots_iff l).1 h1
        have hpos := (hfit _ (List.getElem_mem hn)).1
        have hne : ¬ (rd_T154 l (freeIx l d)).f0 = 0 := by rw [hrd]; omega
        simp only [if_neg h3, if_neg hne]
        refine Ev.bind (spec_SlotOf_ev l a (by omega)) ?_
        rcases slotOf_ne l a h1 with ⟨h4, h5, _⟩ | ⟨n, hnl, h4, h5, _, _, h6⟩
        · rw [h4, if_pos (show areSlots l = true ∧ isThing a b c d e = true ∧ 0 ≤ freeIx l d ∧ slotIx l a < 0 from ⟨h1, h2, by omega, by omega⟩)]
          simp only [bne_self_eq_false]
          refine ev_succ ?_
          simp only [spec_PutAway.j0, Bool.false_eq_true, if_false]
          refine ev_map (spec_PutAway_loop l _ a b c d e hl) ?_
          rw [hrd, map_set l h1 _ hn (fun y => ⟨y.f0, y.f1, a⟩)]
        · rw [if_neg (show ¬ (areSlots l = true ∧ isThing a b c d e = true ∧ 0 ≤ freeIx l d ∧ slotIx l a < 0) from fun q => by omega), show (slotOf l a != 0) = true from bne_iff_ne.2 h6]
          exact jt _
    · simp only [if_pos h1, spec_IsThing_eq, Option.bind_some, if_neg h2, if_neg (show ¬ (areSlots l = true ∧ isThing a b c d e = true ∧ 0 ≤ freeIx l d ∧ slotIx l a < 0) from fun q => h2 q.2.1)]
      exact jt _
  · simp only [if_neg h1, if_neg (show ¬ (areSlots l = true ∧ isThing a b c d e = true ∧ 0 ≤ freeIx l d ∧ slotIx l a < 0) from fun q => h1 q.1)]
    exact jt _

/-! putAll -/
def tsort (l : List (S111)) : List (S111) := Go.Proofs.Ytejhjenlodclpaa.SlcK.inSort slices_SortThing.lt l
theorem spec_sort (l : List (S111)) : Go.Proofs.Ytejhjenlodclpaa.SlcK.inSort spec_l15Sorted.lt l = tsort l := rfl
theorem tsort_nil : tsort [] = [] := rfl
theorem tsort_len (l : List (S111)) : (tsort l).length = l.length := in_len _ l
def putStep (s : List (S154) × List Int) (x : S111) : List (S154) × List Int :=
  ((putAway s.1 x.f0 x.f1 x.f2 x.f3 x.f4).1, if (putAway s.1 x.f0 x.f1 x.f2 x.f3 x.f4).2 = true then s.2 else s.2 ++ [x.f0])
def putStep' (s : List (S154) × List Int) (x : S111) : List (S154) × List Int :=
  ((putAway s.1 x.f0 x.f1 x.f2 x.f3 x.f4).1, if (putAway s.1 x.f0 x.f1 x.f2 x.f3 x.f4).2 = true then s.2 else put x.f0 s.2)
theorem put_both : ∀ (r : List (S111)) (s : List (S154)) (f g : List Int), (f = [] ↔ g = []) → (r.foldl putStep (s, f)).1 = (r.foldl putStep' (s, g)).1 ∧ ((r.foldl putStep (s, f)).2 = [] ↔ (r.foldl putStep' (s, g)).2 = [])
  | [], s, f, g, h => ⟨rfl, h⟩
  | x :: r, s, f, g, h => by
    rw [List.foldl_cons, List.foldl_cons]
    refine put_both r _ _ _ ?_
    show ((if (putAway s x.f0 x.f1 x.f2 x.f3 x.f4).2 = true then f else f ++ [x.f0]) = []) ↔ ((if (putAway s x.f0 x.f1 x.f2 x.f3 x.f4).2 = true then g else put x.f0 g) = [])
    split
    · exact h
    · refine ⟨fun q => by simp at q, fun q => ?_⟩
      have : x.f0 ∈ put x.f0 g := (mem_put _ _ _).2 (.inl rfl)
      rw [q] at this
      simp at this
def allOf (l : List (S154)) (ts : List (S111)) : List (S154) × List Int := if areSlots l = true ∧ areThings ts = true then (((tsort ts).foldl putStep (l, [])).1, msort ((tsort ts).foldl putStep (l, [])).2) else (l, [])
def allOf' (l : List (S154)) (ts : List (S111)) : List (S154) × List Int := if areSlots l = true ∧ areThings ts = true then (tsort ts).foldl putStep' (l, []) else (l, [])
theorem all_both (l : List (S154)) (ts : List (S111)) : (allOf l ts).1 = (allOf' l ts).1 ∧ ((allOf l ts).2 = [] ↔ (allOf' l ts).2 = []) := by
  unfold allOf allOf'
  split
  · have h := put_both (tsort ts) l [] [] Iff.rfl
    refine ⟨h.1, ?_⟩
    rw [← h.2]
    constructor
    · intro q
      have := msort_len ((tsort ts).foldl putStep (l, [])).2
      have q' : msort ((tsort ts).foldl putStep (l, [])).2 = [] := q
      rw [q'] at this
      exact List.length_eq_zero_iff.1 this.symm
    · intro q
      show msort ((tsort ts).foldl putStep (l, [])).2 = []
      rw [q]
      exact List.length_eq_zero_iff.1 (msort_len [])
  · exact ⟨rfl, Iff.rfl⟩
theorem areThings_len (l : List (S111)) (h : areThings l = true) : l.length ≤ 20 := by
  simp only [areThings, Bool.and_eq_true, decide_eq_true_eq] at h
  exact h.1
def thAfter (pre : List (S111)) (x : S111) : Prop := ∀ y, pre.getLast? = some y → y.f0 < x.f0
theorem thOk_facts : ∀ (l pre : List (S111)), thOk pre l = true → (∀ x ∈ l, 1 ≤ x.f0) ∧ (∀ x ∈ l, thAfter pre x) ∧ l.Pairwise (fun a b => a.f0 < b.f0)
  | [], pre, _ => by simp
  | x :: l, pre, h => by
    simp only [thOk, Bool.and_eq_true, Bool.not_eq_true'] at h
    obtain ⟨h1, h2, h3⟩ := thOk_facts l _ h.2.2
    have hx : 1 ≤ x.f0 := by
      have := h.1
      simp only [isThing, Bool.and_eq_true, inr_iff] at this
      exact this.1.1
    have hl : ∀ z ∈ l, x.f0 < z.f0 := fun z hz => h2 z hz x (by rw [List.getLast?_concat])
    have hp : thAfter pre x := by
      have := h.2.1
      unfold thEarly at this
      unfold thAfter
      intro y hy
      rw [hy] at this
      have := of_decide_eq_false this
      omega
    refine ⟨fun z hz => ?_, fun z hz => ?_, List.pairwise_cons.2 ⟨hl, h3⟩⟩
    · rcases List.mem_cons.1 hz with q | hz
      · rw [q]; exact hx
      · exact h1 z hz
    · rcases List.mem_cons.1 hz with q | hz
      · rw [q]; exact hp
      · exact fun y hy => Int.lt_trans (hp y hy) (hl z hz)

/-! spec_PutAll -/
theorem spec_PutAll_ev (l : List (S154)) (ts : List (S111)) (hl : l.length ≤ 1048576) (ht : ts.length ≤ 1048576) : Ev (fun k => spec_PutAll.f k l ts) (allOf' l ts) := by
  have jf : ∀ (o : List (S154)) (f : List Int) (i : Int), Ev (fun k => spec_PutAll.j1 k l ts o f (tsort ts) i false) (o, f) := fun o f i => by
    refine ev_succ ?_
    simp only [spec_PutAll.j1, Bool.false_eq_true, if_false]
    exact Ev.now _
  have hlen := tsort_len ts
  unfold spec_PutAll.f allOf'
  simp only [Option.bind_some, List.nil_append, List.length_nil, Nat.zero_add, if_pos (show l.length < 5864062014805 by omega), spec_l15Sorted.f, if_pos (show ts.length < 1099511627776 by omega), spec_sort]
  by_cases hb : areSlots l = true ∧ areThings ts = true
  · rw [if_pos hb]
    refine ev_range (tsort ts) (fun k (s : List (S154) × List Int) i => spec_PutAll.l0 k l ts s.1 s.2 (tsort ts) i) (fun s r => r.foldl putStep' s) (fun p s => s.1.length = l.length ∧ s.2.length ≤ p.length) (by omega) ?_ ?_ (l, []) ⟨rfl, Nat.le_refl _⟩
    · rintro ⟨s, f⟩ _
      simp only [spec_PutAll.l0, if_neg (Int.lt_irrefl _)]
      exact jf s f _
    · rintro pre x rest ⟨s, f⟩ e hlt hget ⟨hs, hf⟩ ih
      have hs' : s.length = l.length := hs
      have hf' : f.length ≤ pre.length := hf
      have hr : rd_T111 (tsort ts) (pre.length : Int) = x := hget _
      have hp := putAway_len s x.f0 x.f1 x.f2 x.f3 x.f4
      have hpl := put_len x.f0 f
      simp only [spec_PutAll.l0, if_pos hlt]
      refine Ev.bind (spec_AreSlots_ev l (by omega)) ?_
      simp only [if_pos hb.1]
      refine Ev.bind (spec_AreThings_ev ts (by omega)) ?_
      rw [hb.2]
      refine ev_succ ?_
      simp only [spec_PutAll.j1, if_true, if_pos hlt, if_pos (ge0 pre.length), hr]
      refine Ev.bind (spec_PutAway_ev s x.f0 x.f1 x.f2 x.f3 x.f4 (by omega)) ?_
      rw [List.foldl_cons]
      by_cases h3 : (putAway s x.f0 x.f1 x.f2 x.f3 x.f4).2 = true
      · simp only [if_pos h3]
        have := ih ((putAway s x.f0 x.f1 x.f2 x.f3 x.f4).1, f) ⟨by rw [hp]; exact hs', by simp; omega⟩
        simp only [putStep', if_pos h3]
        exact this
      · simp only [if_neg h3]
        refine Ev.bind (spec_l9Put_ev f x.f0 (by omega)) ?_
        have := ih ((putAway s x.f0 x.f1 x.f2 x.f3 x.f4).1, put x.f0 f) ⟨by rw [hp]; exact hs', by simp; omega⟩
        simp only [putStep', if_neg h3]
        exact this
  · rw [if_neg hb]
    refine ev_succ ?_
    simp only [spec_PutAll.l0]
    by_cases h0 : (0 : Int) < ((tsort ts).length : Int)
    · simp only [if_pos h0]
      refine Ev.bind (spec_AreSlots_ev l (by omega)) ?_
      by_cases h1 : areSlots l = true
      · simp only [if_pos h1]
        refine Ev.bind (spec_AreThings_ev ts (by omega)) ?_
        rw [show areThings ts = false from Bool.eq_false_iff.mpr (fun q => hb ⟨h1, q⟩)]
        exact jf l [] _
      · simp only [if_neg h1]
        exact jf l [] _
    · simp only [if_neg h0]
      exact jf l [] _

/-! tighten -/
def isIn (l : List (S154)) (x : S111) : Bool := decide (0 ≤ slotIx l x.f0)
def tight (l : List (S154)) (ts : List (S111)) : List (S154) :=
  if areSlots l = true ∧ areThings ts = true then (if (allOf (zeroed l (ts.map (fun x => x.f0))) (ts.filter (isIn l))).2 = [] then (allOf (zeroed l (ts.map (fun x => x.f0))) (ts.filter (isIn l))).1 else l) else l
theorem zeroed_len (l : List (S154)) (R : List Int) : (zeroed l R).length = l.length := by unfold zeroed; rw [List.length_map]
theorem foldPut_len : ∀ (r : List (S111)) (s : List (S154) × List Int), (r.foldl putStep s).1.length = s.1.length
  | [], s => rfl
  | x :: r, s => by
    rw [List.foldl_cons, foldPut_len r]
    exact putAway_len _ _ _ _ _ _
theorem allOf_len (l : List (S154)) (ts : List (S111)) : (allOf l ts).1.length = l.length := by
  unfold allOf
  split
  · exact foldPut_len _ _
  · rfl
theorem tight_len (l : List (S154)) (ts : List (S111)) : (tight l ts).length = l.length := by
  unfold tight
  split
  · split
    · rw [allOf_len, zeroed_len]
    · rfl
  · rfl
theorem zeroed_get (l : List (S154)) (R : List Int) (n : Nat) (hn : n < l.length) : rd_T154 (zeroed l R) (n : Int) = zero1 R l[n] := by
  refine slot_rd _ n _ ?_
  unfold zeroed
  rw [List.getElem?_map, List.getElem?_eq_getElem hn]
  rfl
/-- A step of taking out, on either side. -/
theorem take_step (l : List (S154)) (h : areSlots l = true) (R : List Int) (t : Int) (h0 : t ≠ 0) (hR : t ∉ R) :
    (slotIx l t = -1 ∧ slotOf (zeroed l R) t = 0 ∧ zeroed l (R ++ [t]) = zeroed l R) ∨
    ∃ (n : Nat) (hn : n < l.length), slotIx l t = (n : Int) ∧ slotOf (zeroed l R) t ≠ 0 ∧ (zeroed l R).set n (noThing l[n]) = zeroed l (R ++ [t]) ∧ (zeroed l R).map (fun y => if y.f0 = slotOf (zeroed l R) t then noThing y else y) = zeroed l (R ++ [t]) := by
  have hz := zeroed_ok l R h
  rcases slotOf_ne l t h with ⟨h1, h2, h3⟩ | ⟨n, hn, h1, h2, h3, _, h5⟩
  · left
    have hnone : ∀ y ∈ l, y.f2 ≠ t := by
      rcases h3 with q | q
      · exact absurd q h0
      · exact q
    refine ⟨h2, ?_, zeroed_none l R t hnone⟩
    rcases slotOf_ne (zeroed l R) t hz with ⟨q, _⟩ | ⟨m, hm, _, _, q3, _, _⟩
    · exact q
    · exfalso
      have hm' : m < l.length := by rw [zeroed_len] at hm; exact hm
      have e : (zeroed l R)[m] = zero1 R l[m] := by simp [zeroed]
      rw [e] at q3
      rcases zero1_f2 R l[m] with q | q
      · rw [q] at q3; exact h0 q3.symm
      · rw [q] at q3; exact hnone _ (List.getElem_mem hm') q3
  · right
    have hset := zeroed_set l h R t n hn h3 h0
    have hsame : zero1 R l[n] = l[n] := by unfold zero1; rw [if_neg (by rw [h3]; exact hR)]
    have hnz : n < (zeroed l R).length := by rw [zeroed_len]; exact hn
    have en : (zeroed l R)[n] = l[n] := by rw [show (zeroed l R)[n] = zero1 R l[n] by simp [zeroed], hsame]
    rcases slotOf_ne (zeroed l R) t hz with ⟨_, _, q⟩ | ⟨m, hm, _, q2, q3, _, q5⟩
    · exfalso
      rcases q with q | q
      · exact h0 q
      · exact q _ (List.getElem_mem hnz) (by rw [en, h3])
    · have hm' : m = n := thing_once hz m n hm hnz (by rw [q3]; exact h0) (by rw [q3, en, h3])
      subst hm'
      refine ⟨m, hn, h1, q5, hset, ?_⟩
      rw [q2, map_set _ hz m hm noThing, en]
      exact hset
theorem filter_snoc (p : S111 → Bool) (pre : List (S111)) (x : S111) : (pre ++ [x]).filter p = if p x = true then pre.filter p ++ [x] else pre.filter p := by
  rw [List.filter_append]
  by_cases h : p x = true
  · simp [h]
  · simp [h]

/-! spec_Tighten -/
theorem spec_TakeOut_loop (l : List (S154)) (s : Int) (hl : l.length < 1099511627776) : Ev (fun k => spec_TakeOut.l0 k l s 0) (l.map (fun y => if y.f0 = s then noThing y else y), true) := by
  have key : ∀ (rest pre : List (S154)), pre.length + rest.length < 1099511627776 → Ev (fun k => spec_TakeOut.l0 k (pre ++ rest) s (pre.length : Int)) (pre ++ rest.map (fun y => if y.f0 = s then noThing y else y), true) := by
    intro rest
    induction rest with
    | nil =>
      intro pre _
      refine ev_succ ?_
      simp only [spec_TakeOut.l0, List.append_nil, if_neg (Int.lt_irrefl _), List.map_nil]
      exact Ev.now _
    | cons x rest ih =>
      intro pre h
      simp only [List.length_cons] at h
      have hr : rd_T154 (pre ++ x :: rest) (pre.length : Int) = x := getD_pre pre x rest _
      refine ev_succ ?_
      simp only [spec_TakeOut.l0, if_pos (show (pre.length : Int) < ((pre ++ x :: rest).length : Int) by simp only [List.length_append, List.length_cons]; omega), if_pos (ge0 pre.length), hr, wsucc (show pre.length < 9223372036854775807 by omega), Int.toNat_natCast]
      by_cases h1 : x.f0 = s
      · simp only [if_pos h1]
        have := ih (pre ++ [noThing x]) (by simp only [List.length_append, List.length_singleton]; omega)
        rw [List.length_append, List.length_singleton] at this
        simpa [h1, noThing] using this
      · simp only [if_neg h1]
        have := ih (pre ++ [x]) (by simp only [List.length_append, List.length_singleton]; omega)
        rw [List.length_append, List.length_singleton] at this
        simpa [h1] using this
  exact key l [] (by simpa using hl)
theorem spec_TakeOut_ev (l : List (S154)) (t : Int) (hl : l.length < 1099511627776) (h : areSlots l = true) : Ev (fun k => spec_TakeOut.f k l t) (if slotOf l t = 0 then (l, false) else (l.map (fun y => if y.f0 = slotOf l t then noThing y else y), true)) := by
  unfold spec_TakeOut.f
  simp only [Option.bind_some, List.nil_append, List.length_nil, Nat.zero_add, if_pos (show l.length < 5864062014805 by omega)]
  refine Ev.bind (spec_SlotOf_ev l t (by omega)) ?_
  refine Ev.bind (spec_AreSlots_ev l (by omega)) ?_
  simp only [if_pos h]
  by_cases h0 : slotOf l t = 0
  · rw [if_pos h0, h0]
    refine ev_succ ?_
    simp only [spec_TakeOut.j0, beq_self_eq_true, if_true]
    exact Ev.now _
  · rw [if_neg h0, show (slotOf l t == 0) = false from beq_false_of_ne h0]
    refine ev_succ ?_
    simp only [spec_TakeOut.j0, Bool.false_eq_true, if_false]
    exact spec_TakeOut_loop l _ hl
theorem spec_Tighten_ev (l : List (S154)) (ts : List (S111)) (hl : l.length ≤ 1048576) (ht : ts.length ≤ 1048576) : Ev (fun k => spec_Tighten.f k l ts) (tight l ts) := by
  have jf : ∀ (o : List (S154)) (m : List (S111)) (i : Int), o.length = l.length → m.length ≤ 1048576 → Ev (fun k => spec_Tighten.j1 k l ts o m i false) (if (allOf o m).2 = [] then (allOf o m).1 else l) := fun o m i ho hm => by
    obtain ⟨b1, b2⟩ := all_both o m
    refine ev_succ ?_
    simp only [spec_Tighten.j1, Bool.false_eq_true, if_false]
    refine Ev.bind (spec_PutAll_ev o m (by omega) hm) ?_
    by_cases hq : (allOf o m).2 = []
    · rw [if_pos hq]
      have hq' := b2.1 hq
      simp only [hq', List.length_nil, Int.natCast_zero, gt_iff_lt, Int.lt_irrefl, if_false]
      rw [b1]
      exact Ev.now _
    · rw [if_neg hq]
      have hp := List.length_pos_iff.2 (fun q => hq (b2.2 q))
      simp only [if_pos (show ((allOf' o m).2.length : Int) > 0 by omega), Option.bind_some, List.nil_append, List.length_nil, Nat.zero_add, if_pos (show l.length < 5864062014805 by omega)]
      exact Ev.now _
  unfold spec_Tighten.f
  simp only [Option.bind_some, List.nil_append, List.length_nil, Nat.zero_add, if_pos (show l.length < 5864062014805 by omega)]
  by_cases hb : areSlots l = true ∧ areThings ts = true
  · obtain ⟨f1, _, f3⟩ := thOk_facts ts [] (by have := hb.2; simp only [areThings, Bool.and_eq_true] at this; exact this.2)
    have htl : tight l ts = (if (allOf (zeroed l (ts.map (fun x => x.f0))) (ts.filter (isIn l))).2 = [] then (allOf (zeroed l (ts.map (fun x => x.f0))) (ts.filter (isIn l))).1 else l) := if_pos hb
    refine ev_range ts (fun k (s : List (S154) × List (S111)) i => spec_Tighten.l0 k l ts s.1 s.2 i) (fun _ _ => tight l ts) (fun p s => s.1 = zeroed l (p.map (fun x => x.f0)) ∧ s.2 = p.filter (isIn l)) (by omega) ?_ ?_ (l, []) ⟨(zeroed_nil l).symm, rfl⟩
    · rintro ⟨s, m⟩ ⟨hs, hm⟩
      have hs' : s = zeroed l (ts.map (fun x => x.f0)) := hs
      have hm' : m = ts.filter (isIn l) := hm
      have hfl : (ts.filter (isIn l)).length ≤ ts.length := List.length_filter_le _ _
      simp only [spec_Tighten.l0, if_neg (Int.lt_irrefl _)]
      rw [hs', hm', htl]
      exact jf _ _ _ (zeroed_len _ _) (by omega)
    · rintro pre x rest ⟨s, m⟩ e hlt hget ⟨hs, hm⟩ ih
      have hs' : s = zeroed l (pre.map (fun x => x.f0)) := hs
      have hm' : m = pre.filter (isIn l) := hm
      have hr : rd_T111 ts (pre.length : Int) = x := hget _
      have hx0 : x.f0 ≠ 0 := by have := f1 x (by rw [e]; simp); omega
      have hxR : x.f0 ∉ pre.map (fun x => x.f0) := by
        intro q
        obtain ⟨y, hy, hq⟩ := List.mem_map.1 q
        rw [e] at f3
        have := (List.pairwise_append.1 f3).2.2 y hy x (by simp)
        omega
      have hfl : (pre.filter (isIn l)).length ≤ pre.length := List.length_filter_le _ _
      subst hs'
      subst hm'
      simp only [spec_Tighten.l0, if_pos hlt]
      refine Ev.bind (spec_AreSlots_ev l (by omega)) ?_
      simp only [if_pos hb.1]
      refine Ev.bind (spec_AreThings_ev ts (by omega)) ?_
      rw [hb.2]
      refine ev_succ ?_
      simp only [spec_Tighten.j1, if_true, if_pos hlt, if_pos (ge0 pre.length), hr]
      refine Ev.bind (spec_TakeOut_ev _ x.f0 (by rw [zeroed_len]; omega) (zeroed_ok l _ hb.1)) ?_
      rcases take_step l hb.1 (pre.map (fun x => x.f0)) x.f0 hx0 hxR with ⟨h3, h4, h5⟩ | ⟨n, hn, h3, h4, _, h6⟩
      · simp only [if_pos h4, Bool.false_eq_true, if_false]
        refine ih (zeroed l (pre.map (fun x => x.f0)), pre.filter (isIn l)) ⟨?_, ?_⟩
        · rw [List.map_append]
          exact h5.symm
        · rw [filter_snoc, if_neg (by unfold isIn; rw [h3]; decide)]
      · simp only [if_neg h4, if_true, if_pos (show (pre.filter (isIn l)).length < 3518437208883 by omega)]
        refine ih (_, pre.filter (isIn l) ++ [x]) ⟨?_, ?_⟩
        · rw [List.map_append]
          exact h6
        · rw [filter_snoc, if_pos (by unfold isIn; rw [h3]; exact decide_eq_true (by omega))]
  · have hno : allOf l [] = (l, []) := by
      unfold allOf
      split
      · rw [tsort_nil, List.foldl_nil]
        exact Prod.ext rfl (List.length_eq_zero_iff.1 (msort_len []))
      · rfl
    rw [show tight l ts = l from if_neg hb]
    have hj : ∀ i : Int, Ev (fun k => spec_Tighten.j1 k l ts l [] i false) l := fun i => by
      have := jf l [] i rfl (by simp)
      rw [hno, if_pos rfl] at this
      exact this
    refine ev_succ ?_
    simp only [spec_Tighten.l0]
    by_cases h0 : (0 : Int) < (ts.length : Int)
    · simp only [if_pos h0]
      refine Ev.bind (spec_AreSlots_ev l (by omega)) ?_
      by_cases h1 : areSlots l = true
      · simp only [if_pos h1]
        refine Ev.bind (spec_AreThings_ev ts (by omega)) ?_
        rw [show areThings ts = false from Bool.eq_false_iff.mpr (fun q => hb ⟨h1, q⟩)]
        exact hj _
      · simp only [if_neg h1]
        exact hj _
    · simp only [if_neg h0]
      exact hj _

/-! type_156 -/
theorem rd_T156_pre (pre : List (S156)) (x : S156) (rest : List (S156)) : rd_T156 (pre ++ x :: rest) (pre.length : Int) = x := getD_pre pre x rest z156

/-! conv_Slot -/
def cSlot (x : S156) : S154 := (⟨x.f0, x.f1, x.f2⟩ : S154)

/-! laws_toSlotS -/
theorem laws_toSlotS_loop (rest : List (S156)) : ∀ (pre : List (S156)), (pre ++ rest).length ≤ 1099511627776 → Ev (fun k => laws_toSlotS.l0 k (pre ++ rest) ((pre).map cSlot ++ List.replicate rest.length z154) (pre.length : Int)) ((pre ++ rest).map cSlot) := by
  induction rest with
  | nil =>
    intro pre h
    refine ev_succ ?_
    simp only [laws_toSlotS.l0, if_neg (nlt_pre pre)]
    exact ev_const (by simp)
  | cons x rest ih =>
    intro pre h
    have hl := len_pre pre x rest
    have hlt : (pre.length : Int) < (((pre).map cSlot ++ List.replicate (x :: rest).length z154).length : Int) := by
      simp
      omega
    have hset : ((pre).map cSlot ++ List.replicate (x :: rest).length z154).set ((pre.length : Int)).toNat (⟨x.f0, x.f1, x.f2⟩ : S154) = (pre ++ [x]).map cSlot ++ List.replicate rest.length z154 := by
      simp [List.replicate_succ, cSlot]
    refine ev_succ ?_
    simp only [laws_toSlotS.l0, if_pos (lt_pre pre x rest), if_pos (ge0 pre.length), rd_T156_pre, laws_toSlot.f, Option.bind_some, if_pos hlt, wsucc (show pre.length < 9223372036854775807 by omega)]
    refine ev_map (Ev.congr (fun k => ?_) (ih (pre ++ [x]) (by rw [← app_pre]; exact h))) (by rw [← app_pre pre x rest])
    rw [hset, snoc_len pre x, ← app_pre pre x rest]
theorem laws_toSlotS_ev (l : List (S156)) (h : l.length ≤ 1048576) : Ev (fun k => laws_toSlotS.f k l) (l.map cSlot) := by
  have e := laws_toSlotS_loop l [] (by simp; omega)
  unfold laws_toSlotS.f
  simp only [if_pos (ge0 l.length), if_pos (show ((l.length : Int)).toNat ≤ 11728124029610 by omega)]
  exact e

/-! type_122 -/
theorem rd_T122_pre (pre : List (S122)) (x : S122) (rest : List (S122)) : rd_T122 (pre ++ x :: rest) (pre.length : Int) = x := getD_pre pre x rest z122

/-! conv_Thing -/
def cThing (x : S122) : S111 := (⟨x.f0, x.f1, x.f2, x.f3, x.f4⟩ : S111)

/-! laws_toThingS -/
theorem laws_toThingS_loop (rest : List (S122)) : ∀ (pre : List (S122)), (pre ++ rest).length ≤ 1099511627776 → Ev (fun k => laws_toThingS.l0 k (pre ++ rest) ((pre).map cThing ++ List.replicate rest.length z111) (pre.length : Int)) ((pre ++ rest).map cThing) := by
  induction rest with
  | nil =>
    intro pre h
    refine ev_succ ?_
    simp only [laws_toThingS.l0, if_neg (nlt_pre pre)]
    exact ev_const (by simp)
  | cons x rest ih =>
    intro pre h
    have hl := len_pre pre x rest
    have hlt : (pre.length : Int) < (((pre).map cThing ++ List.replicate (x :: rest).length z111).length : Int) := by
      simp
      omega
    have hset : ((pre).map cThing ++ List.replicate (x :: rest).length z111).set ((pre.length : Int)).toNat (⟨x.f0, x.f1, x.f2, x.f3, x.f4⟩ : S111) = (pre ++ [x]).map cThing ++ List.replicate rest.length z111 := by
      simp [List.replicate_succ, cThing]
    refine ev_succ ?_
    simp only [laws_toThingS.l0, if_pos (lt_pre pre x rest), if_pos (ge0 pre.length), rd_T122_pre, laws_toThing.f, Option.bind_some, if_pos hlt, wsucc (show pre.length < 9223372036854775807 by omega)]
    refine ev_map (Ev.congr (fun k => ?_) (ih (pre ++ [x]) (by rw [← app_pre]; exact h))) (by rw [← app_pre pre x rest])
    rw [hset, snoc_len pre x, ← app_pre pre x rest]
theorem laws_toThingS_ev (l : List (S122)) (h : l.length ≤ 1048576) : Ev (fun k => laws_toThingS.f k l) (l.map cThing) := by
  have e := laws_toThingS_loop l [] (by simp; omega)
  unfold laws_toThingS.f
  simp only [if_pos (ge0 l.length), if_pos (show ((l.length : Int)).toNat ≤ 7036874417766 by omega)]
  exact e

/-! impl_InRange -/
theorem impl_InRange_eq (a b c : Int) : impl_InRange.f a b c = some (inr a b c) := by
  unfold impl_InRange.f inr
  by_cases h : b ≤ a <;> simp [h]

/-! impl_AreSlots -/
theorem impl_AreSlots_ev (l : List (S154)) (hl : l.length < 9223372036854775807) : Ev (fun k => impl_AreSlots.f k l) (areSlots l) := by
  unfold impl_AreSlots.f areSlots
  by_cases hb : (l.length : Int) > 30
  · simp only [if_pos hb]
    exact ev_const (by simp; omega)
  · simp only [if_neg hb, show decide (l.length ≤ 30) = true from decide_eq_true (by omega), Bool.true_and]
    refine ev_range l (fun k (_ : List (S154)) i => impl_AreSlots.l0 k l l (l.length : Int) i) (fun s r => slOk s r) (fun p s => s = p ∧ ∀ y ∈ p, 1 ≤ y.f0) hl ?_ ?_ [] ⟨rfl, by simp⟩
    · intro s _
      simp only [impl_AreSlots.l0, if_neg (Int.lt_irrefl _)]
      exact ev_const (by simp [slOk])
    · rintro pre x rest s e hlt hget ⟨hs, hpos⟩ ih
      subst hs
      have hr : rd_T154 l (s.length : Int) = x := hget _
      have ht : l.take ((s.length : Int)).toNat = s := by rw [e]; simp
      simp only [impl_AreSlots.l0, if_pos hlt, if_pos (ge0 s.length), hr, impl_InRange_eq, Option.bind_some, slOk, impl_SlotOf_eq, if_pos (show (s.length : Int) ≤ (l.length : Int) by omega), ht]
      cases h1 : inr x.f0 1 99 with
      | false =>
        simp only [Bool.false_eq_true, if_false, Bool.false_and]
        exact Ev.now _
      | true =>
        have hx1 := (inr_iff _ _ _).1 h1
        have ih' := ih (s ++ [x]) ⟨rfl, fun y hy => by
          rcases List.mem_append.1 hy with q | q
          · exact hpos y q
          · rw [List.mem_singleton.1 q]; exact hx1.1⟩
        have fin : Ev (fun k => if inr x.f1 1 50 = true then (if inr x.f2 0 999 = true then (if slotOf s x.f2 = 0 then impl_AreSlots.l0 k l l (l.length : Int) (wrap64 ((s.length : Int) + 1)) else some false) else some false) else some false) (inr x.f1 1 50 && (inr x.f2 0 999 && (!s.any (slClash x) && slOk (s ++ [x]) rest))) := by
          cases h2 : inr x.f1 1 50 with
          | false => simp only [Bool.false_eq_true, if_false, Bool.false_and]; exact Ev.now _
          | true =>
            cases h3 : inr x.f2 0 999 with
            | false => simp only [Bool.false_eq_true, if_false, if_true, Bool.false_and, Bool.and_false]; exact Ev.now _
            | true =>
              simp only [if_true, Bool.true_and]
              by_cases h4 : slotOf s x.f2 = 0
              · simp only [if_pos h4, (slotOf_zero x s hpos).1 h4, Bool.not_false, Bool.true_and]
                exact ih'
              · have h5 : s.any (slClash x) = true := by
                  cases q : s.any (slClash x) with
                  | true => rfl
                  | false => exact absurd ((slotOf_zero x s hpos).2 q) h4
                simp only [if_neg h4, h5, Bool.not_true, Bool.false_and]
                exact Ev.now _
        simp only [if_true, Bool.true_and]
        rcases prev_cases e hl with ⟨hp, hn⟩ | ⟨y, hy, h4, h5, h6, h7⟩
        · simp only [if_neg hn, show slEarly s x = false by simp [slEarly, hp], Bool.not_false, Bool.true_and]
          exact fin
        · have hr7 : rd_T154 l (wrap64 ((s.length : Int) - 1)) = y := h7 _
          simp only [if_pos h4, if_pos h5, if_pos h6, hr7]
          by_cases h8 : x.f0 ≤ y.f0
          · simp only [if_pos h8]
            exact ev_const (by simp [slEarly, hy, h8])
          · simp only [if_neg h8, show slEarly s x = false by simp [slEarly, hy, h8], Bool.not_false, Bool.true_and]
            exact fin

/-! impl_IsThing -/
theorem impl_IsThing_eq (a b c d e : Int) : impl_IsThing.f a b c d e = some (isThing a b c d e) := by
  simp only [impl_IsThing.f, impl_InRange_eq, Option.bind_some, ite_and, isThing]

/-! impl_AreThings -/
theorem impl_AreThings_ev (l : List (S111)) (hl : l.length < 9223372036854775807) : Ev (fun k => impl_AreThings.f k l) (areThings l) := by
  unfold impl_AreThings.f areThings
  by_cases hb : (l.length : Int) > 20
  · simp only [if_pos hb]
    exact ev_const (by simp; omega)
  · simp only [if_neg hb, show decide (l.length ≤ 20) = true from decide_eq_true (by omega), Bool.true_and]
    refine ev_range l (fun k (_ : List (S111)) i => impl_AreThings.l0 k l l (l.length : Int) i) (fun s r => thOk s r) (fun p s => s = p) hl ?_ ?_ [] rfl
    · intro s _
      simp only [impl_AreThings.l0, if_neg (Int.lt_irrefl _)]
      exact ev_const (by simp [thOk])
    · rintro pre x rest s e hlt hget rfl ih
      have hr : rd_T111 l (s.length : Int) = x := hget _
      have ih' := ih _ rfl
      simp only [impl_AreThings.l0, if_pos hlt, if_pos (ge0 s.length), hr, impl_IsThing_eq, Option.bind_some, thOk]
      cases h1 : isThing x.f0 x.f1 x.f2 x.f3 x.f4 with
      | false =>
        simp only [Bool.false_eq_true, if_false, Bool.false_and]
        exact Ev.now _
      | true =>
        simp only [if_true, Bool.true_and]
        rcases prev_cases e hl with ⟨hp, hn⟩ | ⟨y, hy, h4, h5, h6, h7⟩
        · simp only [if_neg hn]
          exact ev_map ih' (by simp [thEarly, hp])
        · have hr7 : rd_T111 l (wrap64 ((s.length : Int) - 1)) = y := h7 _
          simp only [if_pos h4, if_pos h5, if_pos h6, hr7]
          by_cases h8 : x.f0 ≤ y.f0
          · simp only [if_pos h8]
            exact ev_const (by simp [thEarly, hy, h8])
          · simp only [if_neg h8]
            exact ev_map ih' (by simp [thEarly, hy, h8])

/-! clone:impl.Slot -/
theorem clone_Slot_eq (l : List (S154)) (h : l.length < 5864062014805) : impl_Slot.f l = some l := by
  unfold impl_Slot.f
  simp only [Option.bind_some, List.length_nil, List.nil_append, Nat.zero_add, if_pos h]

/-! impl_PutAway -/
theorem impl_freeFor_ev (l : List (S154)) (size : Int) (hl : l.length < 9223372036854775807) : Ev (fun k => impl_freeFor.f k l size) (freeIx l size) := by
  refine ev_range l (fun k (s : Int × Nat) i => impl_freeFor.l0 k l size s.1 l (l.length : Int) i) (fun s r => bestFrom l size s.1 s.2 r) (fun p s => s.2 = p.length ∧ -1 ≤ s.1 ∧ s.1 < (p.length : Int)) hl ?_ ?_ (-1, 0) ⟨rfl, by omega, by simp⟩
  · rintro ⟨b, n⟩ _
    simp only [impl_freeFor.l0, if_neg (Int.lt_irrefl _)]
    exact Ev.now _
  · rintro pre x rest ⟨b, n⟩ e hlt hget ⟨hn, hb0, hb1⟩ ih
    have hn' : n = pre.length := hn
    have hb0' : -1 ≤ b := hb0
    have hb1' : b < (pre.length : Int) := hb1
    subst hn'
    have hr : rd_T154 l (pre.length : Int) = x := hget _
    have hs := bestStep_lt l size b pre.length x ⟨hb0', hb1'⟩
    have ih' := ih (bestStep l size b pre.length x, pre.length + 1) ⟨by simp, hs.1, by simpa using hs.2⟩
    simp only [impl_freeFor.l0, if_pos hlt, if_pos (ge0 pre.length), hr, bestFrom]
    unfold bestStep at ih' ⊢
    by_cases h1 : x.f2 = 0
    · by_cases h2 : x.f1 ≥ size
      · by_cases h3 : b < 0
        · simp only [if_pos h1, if_pos h2, if_pos h3] at ih' ⊢
          exact ih'
        · by_cases h4 : x.f1 < (rd_T154 l b).f1
          · simp only [if_pos h1, if_pos h2, if_neg h3, if_pos h4, if_pos (show 0 ≤ b by omega), if_pos (show b < (l.length : Int) by omega)] at ih' ⊢
            exact ih'
          · simp only [if_pos h1, if_pos h2, if_neg h3, if_neg h4, if_pos (show 0 ≤ b by omega), if_pos (show b < (l.length : Int) by omega)] at ih' ⊢
            exact ih'
      · simp only [if_pos h1, if_neg h2] at ih' ⊢
        exact ih'
    · simp only [if_neg h1] at ih' ⊢
      exact ih'
theorem impl_PutAway_ev (l : List (S154)) (a b c d e : Int) (hl : l.length < 1099511627776) : Ev (fun k => impl_PutAway.f k l a b c d e) (putAway l a b c d e) := by
  have hf := freeIx_lt l d
  unfold impl_PutAway.f putAway
  simp only [clone_Slot_eq l (by omega), Option.bind_some]
  refine Ev.bind (impl_freeFor_ev l d (by omega)) ?_
  refine Ev.bind (impl_AreSlots_ev l (by omega)) ?_
  by_cases h1 : areSlots l = true
  · by_cases h2 : isThing a b c d e = true
    · by_cases h3 : freeIx l d < 0
      · simp only [if_pos h1, impl_IsThing_eq, Option.bind_some, if_pos h2, if_pos h3, if_neg (show ¬ (areSlots l = true ∧ isThing a b c d e = true ∧ 0 ≤ freeIx l d ∧ slotIx l a < 0) from fun q => by omega)]
        exact Ev.now _
      · by_cases h4 : slotIx l a ≥ 0
        · simp only [if_pos h1, impl_IsThing_eq, Option.bind_some, if_pos h2, if_neg h3, impl_slotWith_eq, if_pos h4, if_neg (show ¬ (areSlots l = true ∧ isThing a b c d e = true ∧ 0 ≤ freeIx l d ∧ slotIx l a < 0) from fun q => by omega)]
          exact Ev.now _
        · simp only [if_pos h1, impl_IsThing_eq, Option.bind_some, if_pos h2, if_neg h3, impl_slotWith_eq, if_neg h4, if_pos (show 0 ≤ freeIx l d by omega), if_pos hf.2, if_pos (show areSlots l = true ∧ isThing a b c d e = true ∧ 0 ≤ freeIx l d ∧ slotIx l a < 0 from ⟨h1, h2, by omega, by omega⟩)]
          exact Ev.now _
    · simp only [if_pos h1, impl_IsThing_eq, Option.bind_some, if_neg h2, if_neg (show ¬ (areSlots l = true ∧ isThing a b c d e = true ∧ 0 ≤ freeIx l d ∧ slotIx l a < 0) from fun q => h2 q.2.1)]
      exact Ev.now _
  · simp only [if_neg h1, if_neg (show ¬ (areSlots l = true ∧ isThing a b c d e = true ∧ 0 ≤ freeIx l d ∧ slotIx l a < 0) from fun q => h1 q.1)]
    exact Ev.now _

/-! clone:impl.Thing -/
theorem clone_Thing_eq (l : List (S111)) (h : l.length < 3518437208883) : impl_Thing_163.f l = some l := by
  unfold impl_Thing_163.f
  simp only [Option.bind_some, List.length_nil, List.nil_append, Nat.zero_add, if_pos h]

/-! impl_PutAll -/
theorem impl_PutAll_ev (l : List (S154)) (ts : List (S111)) (hl : l.length ≤ 1048576) (ht : ts.length ≤ 1048576) : Ev (fun k => impl_PutAll.f k l ts) (allOf l ts) := by
  have jt : Ev (fun k => impl_PutAll.j0 k ts l [] true) (l, []) := by
    refine ev_succ ?_
    simp only [impl_PutAll.j0, if_true]
    exact Ev.now _
  unfold impl_PutAll.f allOf
  simp only [clone_Slot_eq l (by omega), Option.bind_some]
  refine Ev.bind (impl_AreSlots_ev l (by omega)) ?_
  by_cases h1 : areSlots l = true
  · simp only [if_pos h1]
    refine Ev.bind (impl_AreThings_ev ts (by omega)) ?_
    by_cases h2 : areThings ts = true
    · have h20 := areThings_len ts h2
      have hlen := tsort_len ts
      rw [if_pos ⟨h1, h2⟩, h2]
      simp only [Bool.not_true]
      refine ev_succ ?_
      simp only [impl_PutAll.j0, Bool.false_eq_true, if_false, clone_Thing_eq ts (by omega), Option.bind_some, slices_SortThing.f, if_pos h20]
      show Ev (fun k => impl_PutAll.l0 k l [] (tsort ts) (ts.length : Int) 0) _
      rw [← hlen]
      refine ev_range (tsort ts) (fun k (s : List (S154) × List Int) i => impl_PutAll.l0 k s.1 s.2 (tsort ts) ((tsort ts).length : Int) i) (fun s r => ((r.foldl putStep s).1, msort (r.foldl putStep s).2)) (fun p s => s.1.length = l.length ∧ s.2.length ≤ p.length) (by omega) ?_ ?_ (l, []) ⟨rfl, Nat.le_refl _⟩
      · rintro ⟨s, f⟩ ⟨_, hf⟩
        have hf' : f.length ≤ (tsort ts).length := hf
        simp only [impl_PutAll.l0, if_neg (Int.lt_irrefl _), slices_Sort.f, if_pos (show f.length < 4611686018427387904 by omega), Option.bind_some]
        exact Ev.now _
      · rintro pre x rest ⟨s, f⟩ e hlt hget ⟨hs, hf⟩ ih
        have hs' : s.length = l.length := hs
        have hf' : f.length ≤ pre.length := hf
        have hr : rd_T111 (tsort ts) (pre.length : Int) = x := hget _
        have hp := putAway_len s x.f0 x.f1 x.f2 x.f3 x.f4
        simp only [impl_PutAll.l0, if_pos hlt, if_pos (ge0 pre.length), hr]
        refine Ev.bind (impl_PutAway_ev s x.f0 x.f1 x.f2 x.f3 x.f4 (by omega)) ?_
        rw [List.foldl_cons]
        by_cases h3 : (putAway s x.f0 x.f1 x.f2 x.f3 x.f4).2 = true
        · simp only [if_pos h3]
          have := ih ((putAway s x.f0 x.f1 x.f2 x.f3 x.f4).1, f) ⟨by rw [hp]; exact hs', by simp; omega⟩
          simp only [putStep, if_pos h3]
          exact this
        · simp only [if_neg h3, if_pos (show f.length < 17592186044416 by omega)]
          have := ih ((putAway s x.f0 x.f1 x.f2 x.f3 x.f4).1, f ++ [x.f0]) ⟨by rw [hp]; exact hs', by simp; omega⟩
          simp only [putStep, if_neg h3]
          exact this
    · rw [if_neg (fun q => h2 q.2), Bool.eq_false_iff.mpr h2]
      simp only [Bool.not_false]
      exact jt
  · simp only [if_neg h1]
    rw [if_neg (fun q => h1 q.1)]
    exact jt

/-! impl_Tighten -/
theorem impl_Tighten_ev (l : List (S154)) (ts : List (S111)) (hl : l.length ≤ 1048576) (ht : ts.length ≤ 1048576) : Ev (fun k => impl_Tighten.f k l ts) (tight l ts) := by
  have hcl := clone_Slot_eq l (by omega)
  have jt : Ev (fun k => impl_Tighten.j0 k l ts true) l := by
    refine ev_succ ?_
    simp only [impl_Tighten.j0, if_true, hcl, Option.bind_some]
    exact Ev.now _
  unfold impl_Tighten.f
  refine Ev.bind (impl_AreSlots_ev l (by omega)) ?_
  by_cases h1 : areSlots l = true
  · simp only [if_pos h1]
    refine Ev.bind (impl_AreThings_ev ts (by omega)) ?_
    by_cases h2 : areThings ts = true
    · obtain ⟨f1, _, f3⟩ := thOk_facts ts [] (by have := h2; simp only [areThings, Bool.and_eq_true] at this; exact this.2)
      have htl : tight l ts = (if (allOf (zeroed l (ts.map (fun x => x.f0))) (ts.filter (isIn l))).2 = [] then (allOf (zeroed l (ts.map (fun x => x.f0))) (ts.filter (isIn l))).1 else l) := if_pos ⟨h1, h2⟩
      rw [h2]
      simp only [Bool.not_true]
      refine ev_succ ?_
      simp only [impl_Tighten.j0, Bool.false_eq_true, if_false, hcl, Option.bind_some]
      refine ev_range ts (fun k (s : List (S154) × List (S111)) i => impl_Tighten.l0 k l s.1 s.2 ts (ts.length : Int) i) (fun _ _ => tight l ts) (fun p s => s.1 = zeroed l (p.map (fun x => x.f0)) ∧ s.2 = p.filter (isIn l)) (by omega) ?_ ?_ (l, []) ⟨(zeroed_nil l).symm, rfl⟩
      · rintro ⟨s, m⟩ ⟨hs, hm⟩
        have hs' : s = zeroed l (ts.map (fun x => x.f0)) := hs
        have hm' : m = ts.filter (isIn l) := hm
        have hfl : (ts.filter (isIn l)).length ≤ ts.length := List.length_filter_le _ _
        simp only [impl_Tighten.l0, if_neg (Int.lt_irrefl _)]
        rw [hs', hm']
        refine Ev.bind (impl_PutAll_ev _ _ (by rw [zeroed_len]; omega) (by omega)) ?_
        rw [htl]
        by_cases hq : (allOf (zeroed l (ts.map (fun x => x.f0))) (ts.filter (isIn l))).2 = []
        · rw [if_pos hq]
          simp only [hq, List.length_nil, Int.natCast_zero, gt_iff_lt, Int.lt_irrefl, if_false]
          exact Ev.now _
        · have hp := List.length_pos_iff.2 hq
          rw [if_neg hq]
          simp only [if_pos (show ((allOf (zeroed l (ts.map (fun x => x.f0))) (ts.filter (isIn l))).2.length : Int) > 0 by omega), hcl, Option.bind_some]
          exact Ev.now _
      · rintro pre x rest ⟨s, m⟩ e hlt hget ⟨hs, hm⟩ ih
        have hs' : s = zeroed l (pre.map (fun x => x.f0)) := hs
        have hm' : m = pre.filter (isIn l) := hm
        have hr : rd_T111 ts (pre.length : Int) = x := hget _
        have hx0 : x.f0 ≠ 0 := by have := f1 x (by rw [e]; simp); omega
        have hxR : x.f0 ∉ pre.map (fun x => x.f0) := by
          intro q
          obtain ⟨y, hy, hq⟩ := List.mem_map.1 q
          rw [e] at f3
          have := (List.pairwise_append.1 f3).2.2 y hy x (by simp)
          omega
        have hfl : (pre.filter (isIn l)).length ≤ pre.length := List.length_filter_le _ _
        subst hs'
        subst hm'
        simp only [impl_Tighten.l0, if_pos hlt, if_pos (ge0 pre.length), hr, impl_slotWith_eq, Option.bind_some]
        rcases take_step l h1 (pre.map (fun x => x.f0)) x.f0 hx0 hxR with ⟨h3, _, h5⟩ | ⟨n, hn, h3, _, h5, _⟩
        · simp only [h3, if_neg (show ¬ (-1 : Int) ≥ 0 by omega)]
          refine ih (zeroed l (pre.map (fun x => x.f0)), pre.filter (isIn l)) ⟨?_, ?_⟩
          · rw [List.map_append]
            exact h5.symm
          · rw [filter_snoc, if_neg (by unfold isIn; rw [h3]; decide)]
        · simp only [h3, if_pos (show (n : Int) ≥ 0 by omega), if_pos (show (0 : Int) ≤ (n : Int) by omega), if_pos (show (n : Int) < ((zeroed l (pre.map (fun x => x.f0))).length : Int) by rw [zeroed_len]; omega), if_pos (show (pre.filter (isIn l)).length < 3518437208883 by omega), zeroed_get l _ n hn, zero1_f0, zero1_f1, Int.toNat_natCast]
          refine ih ((zeroed l (pre.map (fun x => x.f0))).set n (noThing l[n]), pre.filter (isIn l) ++ [x]) ⟨?_, ?_⟩
          · rw [List.map_append]
            exact h5
          · rw [filter_snoc, if_pos (by unfold isIn; rw [h3]; exact decide_eq_true (by omega))]
    · rw [Bool.eq_false_iff.mpr h2, show tight l ts = l from if_neg (fun q => h2 q.2)]
      simp only [Bool.not_false]
      exact jt
  · rw [show tight l ts = l from if_neg (fun q => h1 q.1)]
    simp only [if_neg h1]
    exact jt

/-! laws_eqSlotS -/
theorem laws_eqSlotS_loop (rest : List (S154)) : ∀ (pre : List (S154)), (pre ++ rest).length ≤ 1099511627776 → Ev (fun k => laws_eqSlotS.l0 k (pre ++ rest) (pre ++ rest) (pre.length : Int)) true := by
  induction rest with
  | nil =>
    intro pre h
    refine ev_succ ?_
    simp only [laws_eqSlotS.l0, if_neg (nlt_pre pre)]
    exact Ev.now _
  | cons x rest ih =>
    intro pre h
    have hl := len_pre pre x rest
    refine ev_succ ?_
    simp only [laws_eqSlotS.l0, if_pos (lt_pre pre x rest), if_pos (ge0 pre.length), rd_T154_pre, laws_eqSlot.f, Option.bind_some, if_true, wsucc (show pre.length < 9223372036854775807 by omega)]
    refine Ev.congr (fun k => ?_) (ih (pre ++ [x]) (by rw [← app_pre]; exact h))
    rw [snoc_len pre x, ← app_pre]
theorem laws_eqSlotS_refl (l : List (S154)) (h : l.length ≤ 1099511627776) : Ev (fun k => laws_eqSlotS.f k l l) true := by
  have e := laws_eqSlotS_loop l [] h
  unfold laws_eqSlotS.f
  simp only [if_true]
  exact e

/-! laws_eqThingS -/
theorem laws_eqThingS_loop (rest : List (S111)) : ∀ (pre : List (S111)), (pre ++ rest).length ≤ 1099511627776 → Ev (fun k => laws_eqThingS.l0 k (pre ++ rest) (pre ++ rest) (pre.length : Int)) true := by
  induction rest with
  | nil =>
    intro pre h
    refine ev_succ ?_
    simp only [laws_eqThingS.l0, if_neg (nlt_pre pre)]
    exact Ev.now _
  | cons x rest ih =>
    intro pre h
    have hl := len_pre pre x rest
    refine ev_succ ?_
    simp only [laws_eqThingS.l0, if_pos (lt_pre pre x rest), if_pos (ge0 pre.length), rd_T111_pre, laws_eqThing.f, Option.bind_some, if_true, wsucc (show pre.length < 9223372036854775807 by omega)]
    refine Ev.congr (fun k => ?_) (ih (pre ++ [x]) (by rw [← app_pre]; exact h))
    rw [snoc_len pre x, ← app_pre]
theorem laws_eqThingS_refl (l : List (S111)) (h : l.length ≤ 1099511627776) : Ev (fun k => laws_eqThingS.f k l l) true := by
  have e := laws_eqThingS_loop l [] h
  unfold laws_eqThingS.f
  simp only [if_true]
  exact e

/-! marked_Slot -/
def markedSlot : List (S154) → Int → List (S154)
  | [], _ => []
  | _ :: l, a => (⟨a, a + 1, a + 2⟩ : S154) :: markedSlot l (a + 3)
theorem markedSlot_length (l : List (S154)) : ∀ a, (markedSlot l a).length = l.length := by
  induction l with
  | nil => intro a; rfl
  | cons x l ih => intro a; simp [markedSlot, ih]
-- Slot

/-! laws_markSlotS -/
theorem laws_markSlotS_loop (rest : List (S154)) : ∀ (pre : List (S154)) (a : Int), 0 ≤ a → a + 3 * (rest.length : Int) ≤ 9223372036854775000 → (pre ++ rest).length ≤ 1099511627776 → Ev (fun k => laws_markSlotS.l0 k (pre ++ rest) a (pre.length : Int)) (a + 3 * (rest.length : Int), pre ++ markedSlot rest a) := by
  induction rest with
  | nil =>
    intro pre a h0 h1 h
    refine ev_succ ?_
    simp only [laws_markSlotS.l0, if_neg (nlt_pre pre)]
    exact ev_const (by simp [markedSlot])
  | cons x rest ih =>
    intro pre a h0 h1 h
    have hl := len_pre pre x rest
    rw [List.length_cons] at h1
    refine ev_succ ?_
    simp only [laws_markSlotS.l0, if_pos (lt_pre pre x rest), if_pos (ge0 pre.length), rd_T154_pre, set_pre, Option.bind_some, wsucc (show pre.length < 9223372036854775807 by omega), w64 (x := a + 1) (by omega) (by omega), w64 (x := a + 2) (by omega) (by omega), w64 (x := a + 3) (by omega) (by omega), show a + 1 + 1 = a + 2 by omega, show a + 2 + 1 = a + 3 by omega]
    refine Ev.congr (fun k => ?_) (ev_map (ih (pre ++ [(⟨a, a + 1, a + 2⟩ : S154)]) (a + 3) (by omega) (by omega) (by rw [← app_pre, len_pre]; omega)) ?_)
    · rw [← app_pre, List.length_append, List.length_singleton]
    · simp only [markedSlot, List.length_cons, List.append_assoc, List.singleton_append, Prod.mk.injEq, and_true]
      omega
theorem laws_markSlotS_ev (l : List (S154)) (a : Int) (h0 : 0 ≤ a) (h1 : a ≤ 1099511627776) (h : l.length ≤ 1099511627776) : Ev (fun k => laws_markSlotS.f k l a) (a + 3 * (l.length : Int), markedSlot l a) := laws_markSlotS_loop l [] a h0 (by omega) h

/-! marked_Thing -/
def markedThing : List (S111) → Int → List (S111)
  | [], _ => []
  | _ :: l, a => (⟨a, a + 1, a + 2, a + 3, a + 4⟩ : S111) :: markedThing l (a + 5)
theorem markedThing_length (l : List (S111)) : ∀ a, (markedThing l a).length = l.length := by
  induction l with
  | nil => intro a; rfl
  | cons x l ih => intro a; simp [markedThing, ih]
-- Thing

/-! laws_markThingS -/
theorem laws_markThingS_loop (rest : List (S111)) : ∀ (pre : List (S111)) (a : Int), 0 ≤ a → a + 5 * (rest.length : Int) ≤ 9223372036854775000 → (pre ++ rest).length ≤ 1099511627776 → Ev (fun k => laws_markThingS.l0 k (pre ++ rest) a (pre.length : Int)) (a + 5 * (rest.length : Int), pre ++ markedThing rest a) := by
  induction rest with
  | nil =>
    intro pre a h0 h1 h
    refine ev_succ ?_
    simp only [laws_markThingS.l0, if_neg (nlt_pre pre)]
    exact ev_const (by simp [markedThing])
  | cons x rest ih =>
    intro pre a h0 h1 h
    have hl := len_pre pre x rest
    rw [List.length_cons] at h1
    refine ev_succ ?_
    simp only [laws_markThingS.l0, if_pos (lt_pre pre x rest), if_pos (ge0 pre.length), rd_T111_pre, set_pre, Option.bind_some, wsucc (show pre.length < 9223372036854775807 by omega), w64 (x := a + 1) (by omega) (by omega), w64 (x := a + 2) (by omega) (by omega), w64 (x := a + 3) (by omega) (by omega), w64 (x := a + 4) (by omega) (by omega), w64 (x := a + 5) (by omega) (by omega), show a + 1 + 1 = a + 2 by omega, show a + 2 + 1 = a + 3 by omega, show a + 3 + 1 = a + 4 by omega, show a + 4 + 1 = a + 5 by omega]
    refine Ev.congr (fun k => ?_) (ev_map (ih (pre ++ [(⟨a, a + 1, a + 2, a + 3, a + 4⟩ : S111)]) (a + 5) (by omega) (by omega) (by rw [← app_pre, len_pre]; omega)) ?_)
    · rw [← app_pre, List.length_append, List.length_singleton]
    · simp only [markedThing, List.length_cons, List.append_assoc, List.singleton_append, Prod.mk.injEq, and_true]
      omega
theorem laws_markThingS_ev (l : List (S111)) (a : Int) (h0 : 0 ≤ a) (h1 : a ≤ 1099511627776) (h : l.length ≤ 1099511627776) : Ev (fun k => laws_markThingS.f k l a) (a + 5 * (l.length : Int), markedThing l a) := laws_markThingS_loop l [] a h0 (by omega) h

/-! laws_heldSlotS -/
theorem laws_heldSlotS_loop (rest : List (S154)) : ∀ (pre : List (S154)) (a : Int), 0 ≤ a → a + 3 * (rest.length : Int) ≤ 9223372036854775000 → (pre ++ rest).length ≤ 1099511627776 → Ev (fun k => laws_heldSlotS.l0 k (pre ++ markedSlot rest a) a (pre.length : Int)) (a + 3 * (rest.length : Int)) := by
  induction rest with
  | nil =>
    intro pre a h0 h1 h
    refine ev_succ ?_
    show Ev (fun k => laws_heldSlotS.l0 (k + 1) (pre ++ []) a (pre.length : Int)) _
    simp only [laws_heldSlotS.l0, if_neg (nlt_pre pre)]
    exact ev_const (by simp)
  | cons x rest ih =>
    intro pre a h0 h1 h
    have hl := len_pre pre x rest
    rw [List.length_cons] at h1
    refine ev_succ ?_
    show Ev (fun k => laws_heldSlotS.l0 (k + 1) (pre ++ (⟨a, a + 1, a + 2⟩ : S154) :: markedSlot rest (a + 3)) a (pre.length : Int)) _
    simp only [laws_heldSlotS.l0, if_pos (lt_pre _ _ _), if_pos (ge0 pre.length), rd_T154_pre, wsucc (show pre.length < 9223372036854775807 by omega), w64 (x := a + 1) (by omega) (by omega), w64 (x := a + 2) (by omega) (by omega), w64 (x := a + 3) (by omega) (by omega), show a + 1 + 1 = a + 2 by omega, show a + 2 + 1 = a + 3 by omega, if_true]
    refine Ev.congr (fun k => ?_) (ev_map (ih (pre ++ [(⟨a, a + 1, a + 2⟩ : S154)]) (a + 3) (by omega) (by omega) (by rw [← app_pre, len_pre]; omega)) ?_)
    · rw [← app_pre, List.length_append, List.length_singleton]
    · rw [List.length_cons]
      omega
theorem laws_heldSlotS_ev (l : List (S154)) (a : Int) (h0 : 0 ≤ a) (h1 : a ≤ 1099511627776) (h : l.length ≤ 1099511627776) : Ev (fun k => laws_heldSlotS.f k (markedSlot l a) a) (a + 3 * (l.length : Int)) := laws_heldSlotS_loop l [] a h0 (by omega) h

/-! the law -/
theorem Pf.FnExactTighten : FnExactTightenLaw := by
  intro l0 l1 hm0 hq0 hm1 hq1
  refine Ev.rounds ?_
  unfold laws_FnExactTighten.f
  by_cases hl0 : (l0.length : Int) ≤ 1048576
  · have hsz0 : ¬ (1048576 - (l0.length : Int) < 0) := by omega
    simp only [laws_szSlotS_ok l0 (1048576) hl0 (by omega), Option.bind_some, if_neg hsz0]
    by_cases hl1 : (l1.length : Int) ≤ 1048576 - (l0.length : Int)
    · have hsz1 : ¬ (1048576 - (l0.length : Int) - (l1.length : Int) < 0) := by omega
      simp only [laws_szThingS_ok l1 (1048576 - (l0.length : Int)) hl1 (by omega), Option.bind_some, if_neg hsz1]
      have hc0 : (l0.map cSlot).length ≤ 1048576 := by rw [List.length_map]; omega
      have hk0 : ¬ ((1 : Int) + 3 * ((l0.map cSlot).length : Int) < 0) := by omega
      have hc1 : (l1.map cThing).length ≤ 1048576 := by rw [List.length_map]; omega
      have hk1 : ¬ ((1 : Int) + 5 * ((l1.map cThing).length : Int) < 0) := by omega
      have hk01 : ¬ ((1 : Int) + 3 * ((l0.map cSlot).length : Int) + 5 * ((l1.map cThing).length : Int) < 0) := by omega
      have hR0 : (tight (l0.map cSlot) (l1.map cThing)).length ≤ 1099511627776 := by rw [tight_len]; omega
      have hr0 : ¬ ((1 : Int) + 3 * ((tight (l0.map cSlot) (l1.map cThing)).length : Int) < 0) := by omega
      repeat' first
        | exact Ev.now _
        | refine Ev.bind (spec_Tighten_ev _ _ (by omega) (by omega)) ?_
        | refine Ev.bind (impl_Tighten_ev _ _ (by omega) (by omega)) ?_
        | refine Ev.bind (laws_toSlotS_ev _ (by omega)) ?_
        | refine Ev.bind (laws_eqSlotS_refl _ (by omega)) ?_
        | refine Ev.bind (laws_markSlotS_ev _ _ (by omega) (by omega) (by omega)) ?_
        | refine Ev.bind (laws_toThingS_ev _ (by omega)) ?_
        | refine Ev.bind (laws_eqThingS_refl _ (by omega)) ?_
        | refine Ev.bind (laws_markThingS_ev _ _ (by omega) (by omega) (by omega)) ?_
        | refine Ev.bind (laws_heldSlotS_ev _ _ (by omega) (by omega) (by omega)) ?_
        | simp only [if_true, if_false, Bool.not_true, Bool.not_false, bne_self_eq_false, Bool.false_eq_true, Option.bind_some, if_neg hk0, if_neg hk1, if_neg hk01, if_neg hr0]
        | (refine ev_succ ?_; simp only [laws_FnExactTighten.j0])
    · simp only [laws_szThingS_big l1 (1048576 - (l0.length : Int)) (by omega) (by omega) hm1, Option.bind_some]
      exact Ev.now _
  · simp only [laws_szSlotS_big l0 (1048576) (by omega) (by omega) hm0, Option.bind_some]
    exact Ev.now _

end Go.Proofs.Ytejhjenlodclpaa.PFnExactTighten
