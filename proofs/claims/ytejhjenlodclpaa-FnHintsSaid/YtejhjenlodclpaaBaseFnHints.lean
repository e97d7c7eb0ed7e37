/- Plain lemmas: rounds of printed loops, lists read at an index, whole numbers of 64 bits. -/
import Derived.Test.YtejhjenlodclpaaVFnHints
namespace Go.Proofs.Ytejhjenlodclpaa.Base
open Go.RowKit Go.Proofs.YtejhjenlodclpaaW.PrintWords Go.Proofs.YtejhjenlodclpaaW.PrintMore

/-- One round of a loop. -/
theorem ev_succ {α : Type} {g : Nat → Option α} {r : α} (h : Ev (fun k => g (k + 1)) r) : Ev g r := Ev.step (fun _ => rfl) h
/-- An answer without rounds. -/
theorem ev_const {α : Type} {o : Option α} {r : α} (h : o = some r) : Ev (fun _ => o) r := ⟨0, fun _ _ => h⟩
theorem ev_bind {α β : Type} {g : Nat → Option α} {f : Nat → α → Option β} {a : α} {r : β} (h : Ev g a) (k : Ev (fun n => f n a) r) : Ev (fun n => (g n).bind (fun x => f n x)) r := Ev.bind h k
theorem ev_map {α : Type} {g : Nat → Option α} {a b : α} (h : Ev g a) (e : a = b) : Ev g b := e ▸ h

theorem w64 {x : Int} (h1 : -9223372036854775808 ≤ x) (h2 : x ≤ 9223372036854775807) : wrap64 x = x := by
  unfold wrap64
  omega
theorem wsucc {n : Nat} (h : n < 9223372036854775807) : wrap64 ((n : Int) + 1) = ((n + 1 : Nat) : Int) := by
  unfold wrap64
  omega
theorem wrap_lo (x : Int) : -9223372036854775808 ≤ wrap64 x := by
  unfold wrap64
  omega
theorem wrap_hi (x : Int) : wrap64 x ≤ 9223372036854775807 := by
  unfold wrap64
  omega
theorem wf_lo {x : Int} (h : (Lit.int .i64 x).wf = true) : -9223372036854775808 ≤ x ∧ x ≤ 9223372036854775807 := by
  simp [Lit.wf, IntKind.min, IntKind.max, IntKind.signed, IntKind.bits] at h
  omega

theorem len_pre {α : Type} (pre : List α) (x : α) (rest : List α) : (pre ++ x :: rest).length = pre.length + (rest.length + 1) := by simp
theorem app_pre {α : Type} (pre : List α) (x : α) (rest : List α) : pre ++ x :: rest = (pre ++ [x]) ++ rest := by simp
theorem getD_pre {α : Type} (pre : List α) (x : α) (rest : List α) (z : α) : (pre ++ x :: rest).getD ((pre.length : Int)).toNat z = x := by
  simp [List.getD]
theorem rd_pre (pre : List Int) (x : Int) (rest : List Int) : rd (pre ++ x :: rest) (pre.length : Int) = x := getD_pre pre x rest 0
theorem set_pre {α : Type} (pre : List α) (x y : α) (rest : List α) : (pre ++ x :: rest).set ((pre.length : Int)).toNat y = pre ++ y :: rest := by
  simp
theorem lt_pre {α : Type} (pre : List α) (x : α) (rest : List α) : (pre.length : Int) < ((pre ++ x :: rest).length : Int) := by
  rw [len_pre]
  omega
theorem nlt_pre {α : Type} (pre : List α) : ¬ (pre.length : Int) < ((pre ++ []).length : Int) := by simp
theorem ge0 (n : Nat) : (0 : Int) ≤ (n : Int) := by omega
theorem snoc_len {α : Type} (pre : List α) (x : α) : ((pre.length + 1 : Nat) : Int) = (((pre ++ [x]).length : Nat) : Int) := by simp

/-- A loop over a list's places: what it comes to from state s on, with the rest of the list before it. -/
theorem ev_range {α ρ σ : Type} (l : List α) (g : Nat → σ → Int → Option ρ) (F : σ → List α → ρ) (P : List α → σ → Prop) (hl : l.length < 9223372036854775807)
    (hnil : ∀ s, P l s → Ev (fun k => g (k + 1) s (l.length : Int)) (F s []))
    (hcons : ∀ (pre : List α) (x : α) (rest : List α) (s : σ), l = pre ++ x :: rest → (pre.length : Int) < (l.length : Int) → (∀ z, l.getD ((pre.length : Int)).toNat z = x) → P pre s →
      (∀ s', P (pre ++ [x]) s' → Ev (fun k => g k s' (wrap64 ((pre.length : Int) + 1))) (F s' rest)) → Ev (fun k => g (k + 1) s (pre.length : Int)) (F s (x :: rest)))
    (s : σ) (h0 : P [] s) : Ev (fun k => g k s 0) (F s l) := by
  have key : ∀ (rest pre : List α) (s : σ), l = pre ++ rest → P pre s → Ev (fun k => g k s (pre.length : Int)) (F s rest) := by
    intro rest
    induction rest with
    | nil =>
      intro pre s e hp
      rw [List.append_nil] at e
      subst e
      exact ev_succ (hnil s hp)
    | cons x rest ih =>
      intro pre s e hp
      have hlen : l.length = pre.length + (rest.length + 1) := by rw [e, len_pre]
      refine ev_succ (hcons pre x rest s e (by omega) (fun z => by rw [e]; exact getD_pre pre x rest z) hp (fun s' hp' => ?_))
      rw [wsucc (by omega), snoc_len pre x]
      exact ih (pre ++ [x]) s' (by rw [← app_pre]; exact e) hp'
  exact key l [] s rfl h0

theorem getD_app {α : Type} (pre t : List α) (i : Nat) (h : i < pre.length) (z : α) : (pre ++ t).getD i z = pre.getD i z := by
  simp only [List.getD]
  rw [List.getElem?_append_left h]
/-- The element ahead of a place, if there is one. -/
theorem prev_cases {α : Type} {l pre : List α} {x : α} {rest : List α} (e : l = pre ++ x :: rest) (hl : l.length < 9223372036854775807) :
    (pre = [] ∧ ¬ (pre.length : Int) > 0) ∨ ∃ y, pre.getLast? = some y ∧ (pre.length : Int) > 0 ∧ 0 ≤ wrap64 ((pre.length : Int) - 1) ∧ wrap64 ((pre.length : Int) - 1) < (l.length : Int) ∧ ∀ z, l.getD (wrap64 ((pre.length : Int) - 1)).toNat z = y := by
  rcases List.eq_nil_or_concat pre with rfl | ⟨p, y, hp⟩
  · exact .inl ⟨rfl, by simp⟩
  · rw [List.concat_eq_append] at hp
    subst hp
    right
    have hlen : l.length = p.length + 1 + (rest.length + 1) := by rw [e]; simp; omega
    have hw : wrap64 (((p ++ [y]).length : Int) - 1) = (p.length : Int) := by
      rw [List.length_append, List.length_singleton, w64 (by omega) (by omega)]
      omega
    refine ⟨y, by simp, by rw [List.length_append, List.length_singleton]; omega, by rw [hw]; omega, by rw [hw]; omega, fun z => ?_⟩
    rw [hw, e, List.append_assoc]
    exact getD_pre p y (x :: rest) z

/-- n lies between a and b. -/
def inr (n a b : Int) : Bool := decide (a ≤ n) && decide (n ≤ b)
theorem inr_iff (n a b : Int) : inr n a b = true ↔ a ≤ n ∧ n ≤ b := by simp [inr]
theorem ite_and (b x : Bool) : (if b = true then some x else some false) = some (b && x) := by cases b <;> rfl
theorem ite_nand (b x : Bool) : (if b = true then some false else some x) = some (!b && x) := by cases b <;> rfl
theorem ite_or (b x : Bool) : (if b = true then some true else some x) = some (b || x) := by cases b <;> rfl
theorem ite_orn (b x : Bool) : (if b = true then some x else some true) = some (!b || x) := by cases b <;> rfl
theorem itp_and (p : Prop) [Decidable p] (x : Bool) : (if p then some x else some false) = some (decide p && x) := by by_cases h : p <;> simp [h]
theorem itp_nand (p : Prop) [Decidable p] (x : Bool) : (if p then some false else some x) = some (!decide p && x) := by by_cases h : p <;> simp [h]
theorem ite_some {α : Type} (p : Prop) [Decidable p] (x y : α) : (if p then some x else some y) = some (if p then x else y) := by split <;> rfl

/-! things and finds, by their numbers -/
def isThing (id kind colour size worth : Int) : Bool := inr id 1 999 && (inr kind 1 8 && (inr colour 0 7 && (inr size 1 50 && inr worth 0 10000000)))
def isFind (id kind colour size worth place hour finder : Int) : Bool := isThing id kind colour size worth && (inr place 1 30 && (inr hour 0 100000 && inr finder 0 999))
def keepDays (kind : Int) : Int := if kind = 7 then 1 else if kind = 4 then 180 else if kind = 5 then 180 else if inr kind 1 8 = true then 90 else 0
def dueHour (id kind colour size worth place hour finder : Int) : Int := if isFind id kind colour size worth place hour finder = true then wrap64 (hour + wrap64 (24 * keepDays kind)) else -1
def isDue (id kind colour size worth place hour finder now : Int) : Bool := isFind id kind colour size worth place hour finder && decide (now ≥ dueHour id kind colour size worth place hour finder)
def isBid (who cents : Int) : Bool := inr who 1 999 && inr cents 1 10000000

/-! the ghash -/
def hstep (acc v : Int) : Int := Int.tmod (wrap64 (wrap64 (wrap64 (acc * 1000003) + v % 2147483647) + 13)) 2147483647
def ghash (l : List Int) : Int := l.foldl hstep 11
theorem mod_up (a : Int) : Int.tmod (wrap64 (Int.tmod a 2147483647 + 2147483647)) 2147483647 = a % 2147483647 := by
  have h := Int.tmod_eq_emod (a := a) (b := 2147483647)
  have h1 := Int.tmod_lt_of_pos a (b := 2147483647) (by omega)
  have h2 := Int.lt_tmod_of_pos a (b := 2147483647) (by omega)
  rw [w64 (by omega) (by omega), Int.tmod_eq_emod_of_nonneg (by omega)]
  split at h <;> omega
theorem mod_lo (a : Int) (h0 : Int.tmod a 2147483647 < 0) : wrap64 (Int.tmod a 2147483647 + 2147483647) = a % 2147483647 := by
  have h := Int.tmod_eq_emod (a := a) (b := 2147483647)
  have h1 := Int.tmod_lt_of_pos a (b := 2147483647) (by omega)
  have h2 := Int.lt_tmod_of_pos a (b := 2147483647) (by omega)
  rw [w64 (by omega) (by omega)]
  split at h <;> omega
theorem mod_hi (a : Int) (h0 : ¬ Int.tmod a 2147483647 < 0) : Int.tmod a 2147483647 = a % 2147483647 := by
  have h := Int.tmod_eq_emod (a := a) (b := 2147483647)
  have h1 := Int.tmod_lt_of_pos a (b := 2147483647) (by omega)
  split at h <;> omega

end Go.Proofs.Ytejhjenlodclpaa.Base
