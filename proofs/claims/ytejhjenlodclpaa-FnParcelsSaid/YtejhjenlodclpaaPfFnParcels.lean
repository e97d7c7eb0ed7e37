/- The plain part of FnParcels: what the printed functions come to, and that the law's answer is true. No conditions beyond those of the statement. -/
import Derived.Test.YtejhjenlodclpaaPFnParcelsx
import Derived.Test.YtejhjenlodclpaaBaseFnParcels
import Derived.Test.YtejhjenlodclpaaDefFnParcels
/- narrow -/
namespace Go.Proofs.Ytejhjenlodclpaa.PFnParcels
open Go.RowKit Go.Proofs.YtejhjenlodclpaaW.PrintWords Go.Proofs.YtejhjenlodclpaaW.PrintMore Go.Proofs.Ytejhjenlodclpaa.Base
set_option linter.unusedVariables false
set_option linter.unusedSimpArgs false

/-! cursor -/
theorem i64_and255 (n : Int) : bits .and .i64 n 255 = n % 256 := by
 have h255 : (BitVec.ofInt 64 255).toNat = 2 ^ 8 - 1 := by decide
 have key : (BitVec.ofInt 64 n &&& BitVec.ofInt 64 255).toNat = (n % ((2 ^ 64 : Nat) : Int)).toNat % 2 ^ 8 := by
  rw [BitVec.toNat_and, BitVec.toNat_ofInt, h255, Nat.and_two_pow_sub_one_eq_mod]
 show IntKind.i64.wrap ((BitVec.ofInt 64 n &&& BitVec.ofInt 64 255).toNat : Nat) = n % 256
 rw [key, IntKind.wrap_i64]
 omega
/-- A cursor over the bytes b stands at place i. -/
def Cur (b : List Int) (i : Int) : Prop := b.length ≤ 1048576 ∧ 0 ≤ i ∧ i ≤ (b.length : Int)

/-! spec_l1New -/
theorem l1New_tot (b : List Int) (hl : b.length ≤ 1048576) : ∃ h, Ev (fun k => spec_l1New.f k b) (b, 0, h) := by
 have key : ∀ (d i : Nat) (h : Int), i + d = b.length → ∃ h', Ev (fun k => spec_l1New.l0 k b h (i : Int)) (b, 0, h') := by
  intro d
  induction d with
  | zero =>
   intro i h hi
   refine ⟨h, ev_succ ?_⟩
   simp only [spec_l1New.l0, if_neg (show ¬ (i : Int) < (b.length : Int) by omega)]
   exact Ev.now _
  | succ d ih =>
   intro i h hi
   by_cases h4 : (i : Int) < 4000
   ·obtain ⟨h', e⟩ := ih (i + 1) (bits .and .i64 (wrap64 (wrap64 (wrap64 (h * 137) + wrap64 (rd b i)) + 11)) 1073741823) (by omega)
    refine ⟨h', ev_succ ?_⟩
    simp only [spec_l1New.l0, if_pos (show (i : Int) < (b.length : Int) by omega), if_pos h4, if_pos (ge0 i), wsucc (show i < 9223372036854775807 by omega)]
    exact e
   ·refine ⟨h, ev_succ ?_⟩
    simp only [spec_l1New.l0, if_pos (show (i : Int) < (b.length : Int) by omega), if_neg h4]
    exact Ev.now _
 exact key b.length 0 _ (by omega)
theorem cur0 (b : List Int) (hl : b.length ≤ 1048576) : Cur b 0 := ⟨hl, by omega, by omega⟩

/-! spec_l1Byte -/
theorem l1Byte_tot (b : List Int) (i h : Int) (hc : Cur b i) : ∃ x i' h', spec_l1Byte.f b i h = some (x, i', h') ∧ 0 ≤ x ∧ x < 256 ∧ Cur b i' := by
 obtain ⟨h1, h2, h3⟩ := hc
 unfold spec_l1Byte.f
 by_cases hi : i < (b.length : Int)
 ·rw [if_pos hi, if_pos h2]
  refine ⟨_, _, _, rfl, ?_, ?_, h1, ?_⟩
  ·rw [i64_and255 (wrap64 _)]
   omega
  ·rw [i64_and255 (wrap64 _)]
   omega
  ·rw [w64 (by omega) (by omega)]
   omega
 ·rw [if_neg hi]
  refine ⟨_, _, _, rfl, ?_, ?_, h1, h2, h3⟩
  ·rw [i64_and255]
   omega
  ·rw [i64_and255]
   omega

/-! spec_l1Below -/
theorem l1Below_tot (b : List Int) (i h n : Int) (hc : Cur b i) : ∃ x i' h', spec_l1Below.f b i h n = some (x, i', h') ∧ 0 ≤ x ∧ (0 < n → x < n) ∧ Cur b i' := by
 unfold spec_l1Below.f
 by_cases hn : n ≤ 0
 ·rw [if_pos hn]
  exact ⟨_, _, _, rfl, by omega, fun h => by omega, hc⟩
 ·rw [if_neg hn]
  by_cases h256 : n ≤ 256
  ·rw [if_pos h256]
   obtain ⟨x, i1, h1, e1, hx0, hx1, c1⟩ := l1Byte_tot b i h hc
   simp only [e1, Option.bind_some, if_neg (show ¬ n = 0 by omega)]
   exact ⟨_, _, _, rfl, Int.tmod_nonneg _ hx0, fun h => Int.tmod_lt_of_pos _ h, c1⟩
  ·rw [if_neg h256]
   obtain ⟨x, i1, h1, e1, hx0, hx1, c1⟩ := l1Byte_tot b i h hc
   obtain ⟨y, i2, h2, e2, hy0, hy1, c2⟩ := l1Byte_tot b i1 h1 c1
   obtain ⟨z, i3, h3, e3, hz0, hz1, c3⟩ := l1Byte_tot b i2 h2 c2
   simp only [e1, e2, e3, Option.bind_some, if_neg (show ¬ n = 0 by omega)]
   refine ⟨_, _, _, rfl, Int.tmod_nonneg _ ?_, fun h => Int.tmod_lt_of_pos _ h, c3⟩
   rw [w64 (x := x * 65536) (by omega) (by omega), w64 (x := y * 256) (by omega) (by omega), w64 (x := x * 65536 + y * 256) (by omega) (by omega), w64 (by omega) (by omega)]
   omega

/-! spec_l1In -/
theorem spec_l1In_eq (a b c : Int) : spec_l1In.f a b c = some (inr a b c) := by
 unfold spec_l1In.f inr
 by_cases h : b ≤ a <;> simp [h]

/-! type_138 -/
theorem rd_T138_pre (pre : List (S138)) (x : S138) (rest : List (S138)) : rd_T138 (pre ++ x :: rest) (pre.length : Int) = x := getD_pre pre x rest z138

/-! chain -/
def lastFrom (t : Int) : Nat → Int → List (S138) → Int
 | _, acc, [] => acc
 | n, acc, x :: r => lastFrom t (n + 1) (if x.f0 = t then (n : Int) else acc) r
/-- The place of the last hand of a thing, or -1. -/
def lastIx (l : List (S138)) (t : Int) : Int := lastFrom t 0 (-1) l
theorem lastFrom_snoc (t : Int) (y : S138) : ∀ (l : List (S138)) (n : Nat) (acc : Int), lastFrom t n acc (l ++ [y]) = if y.f0 = t then ((n + l.length : Nat) : Int) else lastFrom t n acc l
 | [], n, acc => by simp [lastFrom]
 | x :: l, n, acc => by
  simp only [List.cons_append, lastFrom, lastFrom_snoc t y l (n + 1), List.length_cons]
  rw [show n + 1 + l.length = n + (l.length + 1) by omega]
theorem lastIx_snoc (l : List (S138)) (y : S138) (t : Int) : lastIx (l ++ [y]) t = if y.f0 = t then (l.length : Int) else lastIx l t := by
 simp only [lastIx, lastFrom_snoc, Nat.zero_add]
theorem lastIx_nil (t : Int) : lastIx [] t = -1 := rfl
theorem lastFrom_bounds (t : Int) : ∀ (l : List (S138)) (n : Nat) (acc : Int), -1 ≤ acc → acc < (n : Int) → -1 ≤ lastFrom t n acc l ∧ lastFrom t n acc l < ((n + l.length : Nat) : Int)
 | [], n, acc, h0, h1 => by simp only [lastFrom, List.length_nil]; omega
 | x :: l, n, acc, h0, h1 => by
  simp only [lastFrom, List.length_cons]
  have := lastFrom_bounds t l (n + 1) (if x.f0 = t then (n : Int) else acc) (by split <;> omega) (by split <;> omega)
  omega
theorem lastIx_bounds (l : List (S138)) (t : Int) : -1 ≤ lastIx l t ∧ lastIx l t < (l.length : Int) := by
 have := lastFrom_bounds t l 0 (-1) (by omega) (by omega)
 unfold lastIx
 omega
def hdFits (x : S138) : Bool := inr x.f0 1 999 && (inr x.f1 1 5 && (inr x.f2 0 999 && inr x.f3 0 100000))
def hdEarly (pre : List (S138)) (x : S138) : Bool := match pre.getLast? with | none => false | some y => decide (x.f3 < y.f3)
def hdStep (pre : List (S138)) (x : S138) : Bool := if lastIx pre x.f0 < 0 then decide (x.f1 ≤ 2) else !decide (x.f1 = 1) && decide ((rd_T138 pre (lastIx pre x.f0)).f1 ≤ 2)
def hseal (s : Int) (x : S138) : Int := ghash [s, x.f0, x.f1, x.f2, x.f3]
def chainOk : Int → List (S138) → List (S138) → Bool
 | _, _, [] => true
 | s, pre, x :: rest => hdFits x && (decide (x.f4 = hseal s x) && (!hdEarly pre x && (hdStep pre x && chainOk x.f4 (pre ++ [x]) rest)))
def isChain (l : List (S138)) : Bool := decide (l.length ≤ 100) && chainOk 0 [] l
theorem rd_T_app {pre rest : List (S138)} {i : Int} (h0 : 0 ≤ i) (h1 : i < (pre.length : Int)) : rd_T138 (pre ++ rest) i = rd_T138 pre i := by
 unfold rd_T138
 exact getD_app _ _ _ (by omega) _

/-! spec_l16Last -/
theorem spec_l16Last_ev (p q : List (S138)) (t : Int) (h : (p ++ q).length ≤ 1099511627776) : Ev (fun k => spec_l16Last.f k (p ++ q) t (p.length : Int)) (lastIx p t) := by
 have hlen : (p ++ q).length = p.length + q.length := List.length_append
 refine ev_range p (fun k (s : Int × Nat) i => spec_l16Last.l0 k (p ++ q) t (p.length : Int) s.1 i) (fun s r => lastFrom t s.2 s.1 r) (fun pre s => s.2 = pre.length) (by omega) ?_ ?_ (-1, 0) rfl
 ·rintro ⟨a, n⟩ _
  simp only [spec_l16Last.l0, if_neg (Int.lt_irrefl _)]
  exact Ev.now _
 ·rintro pre x rest ⟨a, n⟩ e hlt hget rfl ih
  have hr : rd_T138 (p ++ q) (pre.length : Int) = x := by
   rw [rd_T_app (by omega) hlt]
   exact hget _
  simp only [spec_l16Last.l0, if_pos hlt, if_pos (ge0 pre.length), if_pos (show (pre.length : Int) < ((p ++ q).length : Int) by omega), hr]
  by_cases hx : x.f0 = t
  ·simp only [if_pos hx]
   exact ev_map (ih ((pre.length : Int), pre.length + 1) (by simp)) (by simp [lastFrom, hx])
  ·simp only [if_neg hx]
   exact ev_map (ih (a, pre.length + 1) (by simp)) (by simp [lastFrom, hx])

/-! spec_Mod -/
theorem spec_Mod_eq (a : Int) : spec_Mod.f a 2147483647 = some (a % 2147483647) := by
 simp only [spec_Mod.f, spec_l1In_eq, Option.bind_some]
 rw [if_pos (by decide), if_neg (by decide), mod_up]

/-! spec_Hash -/
theorem spec_Hash_loop (rest : List Int) : ∀ (pre : List Int) (acc : Int), (pre ++ rest).length < 9223372036854775807 → Ev (fun k => spec_Hash.l0 k (pre ++ rest) acc (pre.length : Int)) (rest.foldl hstep acc) := by
 induction rest with
 | nil =>
  intro pre acc h
  refine ev_succ ?_
  simp only [spec_Hash.l0, if_neg (nlt_pre pre)]
  exact Ev.now _
 | cons x rest ih =>
  intro pre acc h
  have hl := len_pre pre x rest
  refine ev_succ ?_
  simp only [spec_Hash.l0, if_pos (lt_pre pre x rest), if_pos (ge0 pre.length), rd_pre, spec_Mod_eq, Option.bind_some, wsucc (show pre.length < 9223372036854775807 by omega)]
  rw [snoc_len pre x]
  have := ih (pre ++ [x]) (hstep acc x) (by rw [← app_pre]; exact h)
  rw [← app_pre] at this
  exact this
theorem spec_Hash_ev (l : List Int) (h : l.length < 9223372036854775807) : Ev (fun k => spec_Hash.f k l) (ghash l) := spec_Hash_loop l [] 11 h

/-! spec_HandSeal -/
theorem spec_HandSeal_ev (a b c d e f : Int) : Ev (fun k => spec_HandSeal.f k a b c d e f) (ghash [a, b, c, d, e]) := by
 simp only [spec_HandSeal.f]
 exact Ev.bind (spec_Hash_ev _ (by simp)) (Ev.now _)

/-! spec_IsChain -/
theorem spec_IsChain_j2_true (l : List (S138)) (s i a b c d e : Int) : Ev (fun k => spec_IsChain.j2 k l s i true a b c d e) false := by
 refine ev_succ ?_
 simp only [spec_IsChain.j2, if_true]
 exact Ev.now _
theorem spec_IsChain_j2_false {l pre rest : List (S138)} {x : S138} {s : Int} (e : l = pre ++ x :: rest) (hl : l.length ≤ 1099511627776) (R : Bool) (ih : Ev (fun k => spec_IsChain.l0 k l s (wrap64 ((pre.length : Int) + 1))) R) :
  Ev (fun k => spec_IsChain.j2 k l s (pre.length : Int) false x.f0 x.f1 x.f2 x.f3 x.f4) (hdStep pre x && R) := by
 have hb := lastIx_bounds pre x.f0
 have hlen : l.length = pre.length + (rest.length + 1) := by rw [e, len_pre]
 refine ev_succ ?_
 simp only [spec_IsChain.j2, Bool.false_eq_true, if_false]
 have h1 := spec_l16Last_ev pre (x :: rest) x.f0 (by rw [← e]; exact hl)
 rw [← e] at h1
 refine Ev.bind h1 ?_
 by_cases h2 : lastIx pre x.f0 < 0
 ·by_cases h3 : x.f1 > 2
  ·simp only [if_pos h2, if_pos h3]
   exact ev_const (by simp [hdStep, h2, show ¬ x.f1 ≤ 2 by omega])
  ·simp only [if_pos h2, if_neg h3, if_neg (show ¬ lastIx pre x.f0 ≥ 0 by omega)]
   exact ev_map ih (by simp [hdStep, h2, show x.f1 ≤ 2 by omega])
 ·by_cases h3 : x.f1 = 1
  ·simp only [if_neg h2, if_pos (show lastIx pre x.f0 ≥ 0 by omega), if_pos h3]
   exact ev_const (by simp [hdStep, h2, h3])
  ·have hr : rd_T138 l (lastIx pre x.f0) = rd_T138 pre (lastIx pre x.f0) := by rw [e, rd_T_app (by omega) hb.2]
   simp only [if_neg h2, if_pos (show lastIx pre x.f0 ≥ 0 by omega), if_neg h3, if_pos (show 0 ≤ lastIx pre x.f0 by omega), if_pos (show lastIx pre x.f0 < (l.length : Int) by omega), hr]
   by_cases h4 : (rd_T138 pre (lastIx pre x.f0)).f1 ≥ 3
   ·simp only [if_pos h4]
    exact ev_const (by simp [hdStep, h2, show ¬ (rd_T138 pre (lastIx pre x.f0)).f1 ≤ 2 by omega])
   ·simp only [if_neg h4]
    exact ev_map ih (by simp [hdStep, h2, h3, show (rd_T138 pre (lastIx pre x.f0)).f1 ≤ 2 by omega])
theorem spec_IsChain_ev (l : List (S138)) (hl : l.length ≤ 1099511627776) : Ev (fun k => spec_IsChain.f k l) (isChain l) := by
 by_cases hb : (l.length : Int) ≤ 100
 ·refine ev_map (ev_range l (fun k (s : Int × List (S138)) i => spec_IsChain.l0 k l s.1 i) (fun s r => chainOk s.1 s.2 r) (fun p s => s.2 = p) (by omega) ?_ ?_ (0, []) rfl) (by simp [isChain, show l.length ≤ 100 by omega])
  ·rintro ⟨s, p⟩ _
   simp only [spec_IsChain.l0, if_neg (Int.lt_irrefl _)]
   refine ev_succ ?_
   simp only [spec_IsChain.j1, Bool.false_eq_true, if_false]
   exact ev_const (by simp [chainOk]; omega)
  ·rintro pre x rest ⟨s, p⟩ e hlt hget rfl ih
   have hr : rd_T138 l (p.length : Int) = x := hget _
   simp only [spec_IsChain.l0, if_pos hlt, decide_eq_true hb]
   refine ev_succ ?_
   simp only [spec_IsChain.j1, if_true, if_pos (ge0 p.length), if_pos hlt, hr]
   refine Ev.bind (spec_HandSeal_ev s x.f0 x.f1 x.f2 x.f3 x.f4) ?_
   have hs : ghash [s, x.f0, x.f1, x.f2, x.f3] = hseal s x := rfl
   simp only [spec_l1In_eq, Option.bind_some, chainOk, hdFits, hs]
   cases h1 : inr x.f0 1 999 with
   | false => exact spec_IsChain_j2_true _ _ _ _ _ _ _ _
   | true =>
    cases h2 : inr x.f1 1 5 with
    | false => exact spec_IsChain_j2_true _ _ _ _ _ _ _ _
    | true =>
     cases h3 : inr x.f2 0 999 with
     | false => exact spec_IsChain_j2_true _ _ _ _ _ _ _ _
     | true =>
      cases h4 : inr x.f3 0 100000 with
      | false => exact spec_IsChain_j2_true _ _ _ _ _ _ _ _
      | true =>
       by_cases h5 : x.f4 = hseal s x
       ·have ih' := ih (hseal s x, p ++ [x]) rfl
        simp only [if_true, Bool.true_and, if_pos h5, decide_eq_true h5]
        rcases prev_cases e (by omega) with ⟨hp, hn⟩ | ⟨y, hy, h6, h7, h8, h9⟩
        ·simp only [if_neg hn]
         exact ev_map (spec_IsChain_j2_false e hl _ ih') (by simp [hdEarly, show p = [] from hp, h5])
        ·have hr9 : rd_T138 l (wrap64 ((p.length : Int) - 1)) = y := h9 _
         simp only [if_pos h6, if_pos h7, if_pos h8, hr9]
         by_cases h10 : y.f3 > x.f3
         ·simp only [decide_eq_true h10]
          exact ev_map (spec_IsChain_j2_true _ _ _ _ _ _ _ _) (by simp [hdEarly, show p.getLast? = some y from hy, show x.f3 < y.f3 from h10])
         ·simp only [decide_eq_false h10]
          exact ev_map (spec_IsChain_j2_false e hl _ ih') (by simp [hdEarly, show p.getLast? = some y from hy, show ¬ x.f3 < y.f3 from h10, h5])
       ·simp only [if_true, if_neg h5]
        exact ev_map (spec_IsChain_j2_true _ _ _ _ _ _ _ _) (by simp [h5])
 ·unfold spec_IsChain.f
  refine ev_succ ?_
  simp only [spec_IsChain.l0, if_pos (show (0 : Int) < (l.length : Int) by omega), decide_eq_false hb]
  refine ev_succ ?_
  simp only [spec_IsChain.j1, Bool.false_eq_true, if_false, decide_eq_false hb]
  exact ev_const (by simp [isChain, show ¬ l.length ≤ 100 by omega])

/-! addHand -/
def lastSeal (l : List (S138)) : Int := match l.getLast? with | none => 0 | some y => y.f4
def withHand (s : Int) (l : List (S138)) (a b c d : Int) : List (S138) := l ++ [⟨a, b, c, d, ghash [s, a, b, c, d]⟩]
def addHand (l : List (S138)) (a b c d : Int) : List (S138) × Bool := if isChain (withHand (lastSeal l) l a b c d) = true then (withHand (lastSeal l) l a b c d, true) else (l, false)
theorem addHand_len (l : List (S138)) (a b c d : Int) : (addHand l a b c d).1.length ≤ l.length + 1 := by
 unfold addHand withHand
 split <;> simp
theorem last_cases (l : List (S138)) (hl : l.length < 9223372036854775807) : (l = [] ∧ ¬ (l.length : Int) > 0) ∨ ∃ y, l.getLast? = some y ∧ (l.length : Int) > 0 ∧ 0 ≤ wrap64 ((l.length : Int) - 1) ∧ wrap64 ((l.length : Int) - 1) < (l.length : Int) ∧ rd_T138 l (wrap64 ((l.length : Int) - 1)) = y := by
 by_cases h0 : l = []
 ·exact .inl ⟨h0, by simp [h0]⟩
 ·have hp : 0 < l.length := List.length_pos_iff.2 h0
  right
  refine ⟨l[l.length - 1], ?_, by omega, ?_⟩
  ·rw [List.getLast?_eq_getElem?, List.getElem?_eq_getElem]
  ·rw [w64 (by omega) (by omega)]
   refine ⟨by omega, by omega, ?_⟩
   unfold rd_T138
   rw [List.getD_eq_getElem?_getD, show ((l.length : Int) - 1).toNat = l.length - 1 by omega, List.getElem?_eq_getElem (by omega)]
   rfl

/-! spec_AddHand -/
theorem spec_AddHand_j0 (l : List (S138)) (s a b c d e : Int) (hl : l.length ≤ 1099511627775) : Ev (fun k => spec_AddHand.j0 k l s a b c d e) (if isChain (withHand s l a b c d) = true then (withHand s l a b c d, true) else (l, false)) := by
 refine ev_succ ?_
 simp only [spec_AddHand.j0]
 refine Ev.bind (spec_HandSeal_ev s a b c d e) ?_
 simp only [Option.bind_some, List.length_nil, List.nil_append, Nat.zero_add, if_pos (show l.length < 3518437208883 by omega), List.length_singleton, if_pos (show l.length + 1 < 3518437208883 by omega)]
 refine Ev.bind (spec_IsChain_ev (withHand s l a b c d) (by simp [withHand]; omega)) ?_
 cases h : isChain (withHand s l a b c d) <;> exact Ev.now _
theorem spec_AddHand_ev (l : List (S138)) (a b c d e : Int) (hl : l.length ≤ 1099511627775) : Ev (fun k => spec_AddHand.f k l a b c d e) (addHand l a b c d) := by
 unfold spec_AddHand.f addHand lastSeal
 rcases last_cases l (by omega) with ⟨rfl, h⟩ | ⟨y, hy, h1, h2, h3, h4⟩
 ·simp only [if_neg h]
  exact spec_AddHand_j0 [] 0 a b c d e hl
 ·simp only [if_pos h1, if_pos h2, if_pos h3, h4, hy]
  exact spec_AddHand_j0 l y.f4 a b c d e hl

/-! spec_l1Int -/
theorem l1Int_tot (b : List Int) (i h : Int) (l : List Int) (hl : 0 < l.length) (hc : Cur b i) : ∃ x i' h', spec_l1Int.f b i h l = some (x, i', h') ∧ x ∈ l ∧ Cur b i' := by
 obtain ⟨x, i1, h1, e1, hx0, hx1, c1⟩ := l1Below_tot b i h (l.length : Int) hc
 have hx := hx1 (by omega)
 unfold spec_l1Int.f
 simp only [e1, Option.bind_some, if_pos hx0, if_pos hx]
 refine ⟨_, _, _, rfl, ?_, c1⟩
 unfold rd
 rw [List.getD_eq_getElem?_getD, List.getElem?_eq_getElem (by omega)]
 exact List.getElem_mem _

/-! spec_l16Draw -/
theorem l16One_tot (b : List Int) (i h t : Int) (hc : Cur b i) : ∃ x y z i' h', spec_l16One.f b i h t = some (x, y, z, t, 0, i', h') ∧ Cur b i' := by
 obtain ⟨x, i1, h1, e1, _, _, c1⟩ := l1Below_tot b i h 4 hc
 obtain ⟨y, i2, h2, e2, _, c2⟩ := l1Int_tot b i1 h1 [1, 1, 2, 2, 2, 3, 4, 5] (by decide) c1
 obtain ⟨z, i3, h3, e3, _, _, c3⟩ := l1Below_tot b i2 h2 3 c2
 refine ⟨wrap64 (2 * wrap64 (1 + x)), y, wrap64 (1 + z), i3, h3, ?_, c3⟩
 unfold spec_l16One.f
 simp only [e1, e2, e3, Option.bind_some]
theorem l16Draw_tot (b : List Int) (i h : Int) (hc : Cur b i) : ∃ l i' h', Ev (fun k => spec_l16Draw.f k b i h) (l, i', h') ∧ l.length ≤ 12 ∧ Cur b i' := by
 have key : ∀ (m : Nat) (l : List (S138)) (t i h : Int), l.length + m ≤ 12 → Cur b i → ∃ l' i' h', Ev (fun k => spec_l16Draw.l0 k l t (m : Int) b i h) (l', i', h') ∧ l'.length ≤ 12 ∧ Cur b i' := by
  intro m
  induction m with
  | zero =>
   intro l t i h hl hc
   refine ⟨l, i, h, ev_succ ?_, by omega, hc⟩
   simp only [spec_l16Draw.l0, Int.natCast_zero, gt_iff_lt, Int.lt_irrefl, if_false]
   exact Ev.now _
  | succ m ih =>
   intro l t i h hl hc
   obtain ⟨x, y, z, i1, h1, e1, c1⟩ := l16One_tot b i h t hc
   obtain ⟨d, i2, h2, e2, _, _, c2⟩ := l1Below_tot b i1 h1 9 c1
   have hlen := addHand_len l x y z t
   obtain ⟨l', i', h', e, hl', c'⟩ := ih (addHand l x y z t).1 (wrap64 (t + d)) i2 h2 (by omega) c2
   refine ⟨l', i', h', ev_succ ?_, hl', c'⟩
   simp only [spec_l16Draw.l0, e1, Option.bind_some, if_pos (show ((m + 1 : Nat) : Int) > 0 by omega)]
   refine Ev.bind (spec_AddHand_ev l x y z t 0 (by omega)) ?_
   simp only [e2, Option.bind_some, w64 (x := ((m + 1 : Nat) : Int) - 1) (by omega) (by omega), show ((m + 1 : Nat) : Int) - 1 = (m : Int) by omega, w64 (x := (m : Int)) (by omega) (by omega)]
   exact e
 obtain ⟨n, i1, h1, e1, hn0, hn, c1⟩ := l1Below_tot b i h 12 hc
 have hn := hn (by omega)
 obtain ⟨l, i', h', e, hl, c'⟩ := key n.toNat [] 0 i1 h1 (by simp; omega) c1
 refine ⟨l, i', h', ?_, hl, c'⟩
 unfold spec_l16Draw.f
 simp only [e1, Option.bind_some]
 rw [show ((n.toNat : Nat) : Int) = n by omega] at e
 exact e

/-! spec_l4Raw -/
theorem l4Raw_tot (b : List Int) (i h : Int) (hc : Cur b i) : ∃ x i' h', spec_l4Raw.f b i h = some (x, i', h') ∧ Cur b i' := by
 obtain ⟨x, i1, h1, e1, _, c1⟩ := l1Int_tot b i h [(-1), 0, 8, 50, 51, 1000, 9223372036854775807, (-9223372036854775808)] (by decide) hc
 unfold spec_l4Raw.f
 simp only [e1, Option.bind_some]
 exact ⟨_, _, _, rfl, c1⟩

/-! spec_l16Any -/
theorem l16Any_tot (b : List Int) (i h : Int) (hc : Cur b i) : ∃ l i' h', Ev (fun k => spec_l16Any.f k b i h) (l, i', h') ∧ l.length ≤ 12 ∧ Cur b i' := by
 obtain ⟨l, i1, h1, e1, hl, c1⟩ := l16Draw_tot b i h hc
 unfold spec_l16Any.f
 by_cases h0 : (l.length : Int) = 0
 ·refine ⟨l, i1, h1, Ev.bind e1 ?_, hl, c1⟩
  simp only [if_pos h0]
  exact Ev.now _
 obtain ⟨p, i2, h2, e2, hp0, hp1, c2⟩ := l1Below_tot b i1 h1 (l.length : Int) c1
 have hp := hp1 (by omega)
 obtain ⟨a, i3, h3, e3, _, _, c3⟩ := l1Below_tot b i2 h2 12 c2
 by_cases q0 : a = 0
 ·refine ⟨l.set p.toNat ⟨wrap64 ((rd_T138 l p).f0 + 1), (rd_T138 l p).f1, (rd_T138 l p).f2, (rd_T138 l p).f3, (rd_T138 l p).f4⟩, i3, h3, Ev.bind e1 ?_, by rw [List.length_set]; exact hl, c3⟩
  simp only [if_neg h0, e2, e3, Option.bind_some, if_pos q0, if_pos hp0, if_pos hp]
  exact Ev.now _
 by_cases q1 : a = 1
 ·obtain ⟨z, i4, h4, e4, _, c4⟩ := l1Int_tot b i3 h3 [0, 5, 6] (by decide) c3
  refine ⟨l.set p.toNat ⟨(rd_T138 l p).f0, z, (rd_T138 l p).f2, (rd_T138 l p).f3, (rd_T138 l p).f4⟩, i4, h4, Ev.bind e1 ?_, by rw [List.length_set]; exact hl, c4⟩
  simp only [if_neg h0, e2, e3, e4, Option.bind_some, if_neg q0, if_pos q1, if_pos hp0, if_pos hp]
  exact Ev.now _
 by_cases q2 : a = 2
 ·obtain ⟨z, i4, h4, e4, c4⟩ := l4Raw_tot b i3 h3 c3
  refine ⟨l.set p.toNat ⟨(rd_T138 l p).f0, (rd_T138 l p).f1, z, (rd_T138 l p).f3, (rd_T138 l p).f4⟩, i4, h4, Ev.bind e1 ?_, by rw [List.length_set]; exact hl, c4⟩
  simp only [if_neg h0, e2, e3, e4, Option.bind_some, if_neg q0, if_neg q1, if_pos q2, if_pos hp0, if_pos hp]
  exact Ev.now _
 by_cases q3 : a = 3
 ·obtain ⟨z, i4, h4, e4, _, c4⟩ := l1Int_tot b i3 h3 [(-1), 100000, 100001] (by decide) c3
  refine ⟨l.set p.toNat ⟨(rd_T138 l p).f0, (rd_T138 l p).f1, (rd_T138 l p).f2, z, (rd_T138 l p).f4⟩, i4, h4, Ev.bind e1 ?_, by rw [List.length_set]; exact hl, c4⟩
  simp only [if_neg h0, e2, e3, e4, Option.bind_some, if_neg q0, if_neg q1, if_neg q2, if_pos q3, if_pos hp0, if_pos hp]
  exact Ev.now _
 by_cases q4 : a = 4
 ·refine ⟨l.set p.toNat ⟨(rd_T138 l p).f0, (rd_T138 l p).f1, (rd_T138 l p).f2, (rd_T138 l p).f3, wrap64 ((rd_T138 l p).f4 + 1)⟩, i3, h3, Ev.bind e1 ?_, by rw [List.length_set]; exact hl, c3⟩
  simp only [if_neg h0, e2, e3, Option.bind_some, if_neg q0, if_neg q1, if_neg q2, if_neg q3, if_pos q4, if_pos hp0, if_pos hp]
  exact Ev.now _
 ·refine ⟨l, i3, h3, Ev.bind e1 ?_, hl, c3⟩
  simp only [if_neg h0, e2, e3, Option.bind_some, if_neg q0, if_neg q1, if_neg q2, if_neg q3, if_neg q4]
  exact Ev.now _

/-! put -/
/-- x goes into an ascending list, once. -/
def put (n : Int) : List Int → List Int
 | [] => [n]
 | x :: l => if x < n then x :: put n l else if x = n then x :: l else n :: x :: l
def asc (l : List Int) : Prop := l.Pairwise (fun a b => a < b)
theorem put_len (n : Int) : ∀ l : List Int, (put n l).length ≤ l.length + 1
 | [] => by simp [put]
 | x :: l => by
  have := put_len n l
  unfold put
  split
  ·simp only [List.length_cons]; omega
  split
  ·simp
  ·simp
theorem mem_put (n z : Int) : ∀ l : List Int, z ∈ put n l ↔ z = n ∨ z ∈ l
 | [] => by simp [put]
 | x :: l => by
  have ih := mem_put n z l
  unfold put
  split
  ·simp only [List.mem_cons, ih]
   constructor
   ·rintro (h | h | h)
    ·exact .inr (.inl h)
    ·exact .inl h
    ·exact .inr (.inr h)
   ·rintro (h | h | h)
    ·exact .inr (.inl h)
    ·exact .inl h
    ·exact .inr (.inr h)
  split
  ·rename_i h
   subst h
   simp only [List.mem_cons]
   constructor
   ·exact .inr
   ·rintro (h | h | h)
    ·exact .inl h
    ·exact .inl h
    ·exact .inr h
  ·simp only [List.mem_cons]
theorem put_asc (n : Int) : ∀ l : List Int, asc l → asc (put n l)
 | [], _ => by simp [put, asc]
 | x :: l, h => by
  obtain ⟨h1, h2⟩ := List.pairwise_cons.1 h
  have ih := put_asc n l h2
  unfold put
  split
  ·rename_i hx
   refine List.pairwise_cons.2 ⟨fun z hz => ?_, ih⟩
   rcases (mem_put n z l).1 hz with rfl | hz
   ·exact hx
   ·exact h1 z hz
  split
  ·exact h
  ·rename_i hx hn
   refine List.pairwise_cons.2 ⟨fun z hz => ?_, h⟩
   rcases List.mem_cons.1 hz with rfl | hz
   ·omega
   ·have := h1 z hz
    omega
theorem asc_ext : ∀ (l l' : List Int), asc l → asc l' → (∀ z, z ∈ l ↔ z ∈ l') → l = l'
 | [], [], _, _, _ => rfl
 | [], y :: l', _, _, h => by
  have := (h y).2 (by simp)
  simp at this
 | x :: l, [], _, _, h => by
  have := (h x).1 (by simp)
  simp at this
 | x :: l, y :: l', h1, h2, h => by
  obtain ⟨a1, a2⟩ := List.pairwise_cons.1 h1
  obtain ⟨b1, b2⟩ := List.pairwise_cons.1 h2
  have e : x = y := by
   rcases List.mem_cons.1 ((h x).1 (by simp)) with e | e
   ·exact e
   rcases List.mem_cons.1 ((h y).2 (by simp)) with e' | e'
   ·exact e'.symm
   have := a1 y e'
   have := b1 x e
   omega
  subst e
  rw [asc_ext l l' a2 b2 (fun z => ?_)]
  constructor
  ·intro hz
   rcases List.mem_cons.1 ((h z).1 (List.mem_cons_of_mem _ hz)) with e | e
   ·have := a1 z hz
    omega
   ·exact e
  ·intro hz
   rcases List.mem_cons.1 ((h z).2 (List.mem_cons_of_mem _ hz)) with e | e
   ·have := b1 z hz
    omega
   ·exact e
def puts (s l : List Int) : List Int := l.foldl (fun s x => put x s) s
theorem puts_asc : ∀ (l s : List Int), asc s → asc (puts s l)
 | [], s, h => h
 | x :: l, s, h => puts_asc l (put x s) (put_asc x s h)
theorem mem_puts (z : Int) : ∀ (l s : List Int), z ∈ puts s l ↔ z ∈ s ∨ z ∈ l
 | [], s => by simp [puts]
 | x :: l, s => by
  have ih := mem_puts z l (put x s)
  have e : puts s (x :: l) = puts (put x s) l := rfl
  rw [e, ih, mem_put, List.mem_cons]
  constructor
  ·rintro ((h | h) | h)
   ·exact .inr (.inl h)
   ·exact .inl h
   ·exact .inr (.inr h)
  ·rintro (h | h | h)
   ·exact .inl (.inr h)
   ·exact .inl (.inl h)
   ·exact .inr h
theorem puts_len : ∀ (l s : List Int), (puts s l).length ≤ s.length + l.length
 | [], s => by simp [puts]
 | x :: l, s => by
  have := puts_len l (put x s)
  have h := put_len x s
  have e : puts s (x :: l) = puts (put x s) l := rfl
  rw [e, List.length_cons]
  omega
theorem asc_nil : asc [] := List.Pairwise.nil
def msort (l : List Int) : List Int := l.mergeSort fun x y => decide (x ≤ y)
theorem msort_len (l : List Int) : (msort l).length = l.length := List.length_mergeSort l
theorem mem_msort (z : Int) (l : List Int) : z ∈ msort l ↔ z ∈ l := List.mem_mergeSort
theorem msort_le (l : List Int) : (msort l).Pairwise (fun a b => a ≤ b) := by
 have := List.pairwise_mergeSort (le := fun x y : Int => decide (x ≤ y)) (fun a b c h1 h2 => by simp at h1 h2 ⊢; omega) (fun a b => by simp; omega) l
 exact this.imp (fun h => by simpa using h)
theorem msort_asc (l : List Int) (h : l.Nodup) : asc (msort l) := by
 have h1 := msort_le l
 have h2 : (msort l).Nodup := (List.mergeSort_perm l _).nodup_iff.2 h
 exact (h1.and h2).imp (fun ⟨a, b⟩ => by omega)

/-! spec_l9Put -/
theorem spec_l9Put_ev (l : List Int) (n : Int) (h : l.length ≤ 1099511627776) : Ev (fun k => spec_l9Put.f k l n) (put n l) := by
 refine ev_map (ev_range l (fun k (_ : List Int) i => spec_l9Put.l0 k l n i) (fun s r => s ++ put n r) (fun p s => s = p) (by omega) ?_ ?_ [] rfl) (by simp)
 ·rintro s rfl
  simp only [spec_l9Put.l0, if_neg (Int.lt_irrefl _), Option.bind_some, if_pos (ge0 s.length), if_pos (Int.le_refl _), List.length_nil, Int.toNat_natCast, List.take_length, List.drop_length, List.nil_append, List.length_append, List.length_singleton]
  exact ev_const (by simp only [put, List.append_nil]; repeat rw [if_pos (by omega)])
 ·rintro pre x rest s e hlt hget rfl ih
  have hr : rd l (s.length : Int) = x := hget 0
  have hl : l.length = s.length + (rest.length + 1) := by rw [e, len_pre]
  have ht : l.take s.length = s := by rw [e]; simp
  have hd : l.drop s.length = x :: rest := by rw [e]; simp
  simp only [spec_l9Put.l0, if_pos hlt, if_pos (ge0 s.length), hr, put]
  by_cases h1 : x < n
  ·simp only [if_pos h1]
   exact ev_map (ih (s ++ [x]) rfl) (by simp)
  by_cases h2 : x = n
  ·simp only [if_neg h1, if_pos h2, Option.bind_some, List.length_nil, List.nil_append]
   rw [if_pos (by omega)]
   exact ev_const (by rw [e])
  ·simp only [if_neg h1, if_neg h2, Option.bind_some, if_pos (show (s.length : Int) ≤ (l.length : Int) by omega), List.length_nil, Int.toNat_natCast, ht, hd, List.nil_append, List.length_append, List.length_singleton, List.length_cons]
   exact ev_const (by rw [if_pos (by omega), if_pos (by omega), if_pos (by omega)]; simp)

/-! inHouse -/
/-- The things whose last hand is in the house. -/
def hereFrom (l : List (S138)) (h : Int) : Nat → List (S138) → List Int
 | _, [] => []
 | n, x :: r => if x.f1 = 2 ∧ x.f2 = h ∧ lastIx l x.f0 = (n : Int) then x.f0 :: hereFrom l h (n + 1) r else hereFrom l h (n + 1) r
def hereStep (l : List (S138)) (h : Int) (s : List Int) (x : S138) : List Int := if (rd_T138 l (lastIx l x.f0)).f1 = 2 ∧ (rd_T138 l (lastIx l x.f0)).f2 = h then put x.f0 s else s
def inHouse (l : List (S138)) (h : Int) : List Int := if isChain l = true then msort (hereFrom l h 0 l) else []
theorem hereFrom_len (l : List (S138)) (h : Int) : ∀ (r : List (S138)) (n : Nat), (hereFrom l h n r).length ≤ r.length
 | [], n => by simp [hereFrom]
 | x :: r, n => by
  have := hereFrom_len l h r (n + 1)
  unfold hereFrom
  split
  ·simp only [List.length_cons]; omega
  ·simp only [List.length_cons]; omega
theorem inHouse_len (l : List (S138)) (h : Int) : (inHouse l h).length ≤ l.length := by
 unfold inHouse
 split
 ·rw [msort_len]; exact hereFrom_len l h l 0
 ·simp
theorem hereFrom_mem (l : List (S138)) (h z : Int) : ∀ (r : List (S138)) (n : Nat), z ∈ hereFrom l h n r ↔ ∃ i x, r[i]? = some x ∧ x.f0 = z ∧ x.f1 = 2 ∧ x.f2 = h ∧ lastIx l z = ((n + i : Nat) : Int)
 | [], n => by simp [hereFrom]
 | y :: r, n => by
  have ih := hereFrom_mem l h z r (n + 1)
  have key : (∃ i x, (y :: r)[i]? = some x ∧ x.f0 = z ∧ x.f1 = 2 ∧ x.f2 = h ∧ lastIx l z = ((n + i : Nat) : Int)) ↔ (y.f0 = z ∧ y.f1 = 2 ∧ y.f2 = h ∧ lastIx l z = (n : Int)) ∨ ∃ i x, r[i]? = some x ∧ x.f0 = z ∧ x.f1 = 2 ∧ x.f2 = h ∧ lastIx l z = ((n + 1 + i : Nat) : Int) := by
   constructor
   ·rintro ⟨i, x, h1, h2⟩
    cases i with
    | zero =>
     have : y = x := by simpa using h1
     subst this
     exact .inl (by simpa using h2)
    | succ i => exact .inr ⟨i, x, by simpa using h1, by rw [show n + 1 + i = n + (i + 1) by omega]; exact h2⟩
   ·rintro (h1 | ⟨i, x, h1, h2⟩)
    ·exact ⟨0, y, rfl, by simpa using h1⟩
    ·exact ⟨i + 1, x, by simpa using h1, by rw [show n + (i + 1) = n + 1 + i by omega]; exact h2⟩
  rw [key]
  unfold hereFrom
  split
  ·rename_i hc
   rw [List.mem_cons, ih]
   constructor
   ·rintro (rfl | h2)
    ·exact .inl ⟨rfl, hc⟩
    ·exact .inr h2
   ·rintro (⟨rfl, _⟩ | h2)
    ·exact .inl rfl
    ·exact .inr h2
  ·rename_i hc
   rw [ih]
   constructor
   ·exact .inr
   ·rintro (⟨rfl, h2⟩ | h2)
    ·exact absurd h2 hc
    ·exact h2
theorem hereFrom_nodup (l : List (S138)) (h : Int) : ∀ (r : List (S138)) (n : Nat), (hereFrom l h n r).Nodup
 | [], n => by simp [hereFrom]
 | y :: r, n => by
  have ih := hereFrom_nodup l h r (n + 1)
  unfold hereFrom
  split
  ·rename_i hc
   refine List.nodup_cons.2 ⟨fun hm => ?_, ih⟩
   obtain ⟨i, x, _, _, _, _, h3⟩ := (hereFrom_mem l h y.f0 r (n + 1)).1 hm
   have := hc.2.2
   omega
  ·exact ih
theorem lastIx_of : ∀ (n : Nat) (l : List (S138)), l.length = n → ∀ x ∈ l, 0 ≤ lastIx l x.f0 ∧ lastIx l x.f0 < (l.length : Int) ∧ (rd_T138 l (lastIx l x.f0)).f0 = x.f0
 | 0, l, hl, x, hx => by
  rw [List.length_eq_zero_iff.1 hl] at hx
  simp at hx
 | n + 1, l, hl, x, hx => by
  rcases List.eq_nil_or_concat l with rfl | ⟨p, y, hp⟩
  ·simp at hx
  rw [List.concat_eq_append] at hp
  subst hp
  have hpl : p.length = n := by simpa using hl
  rw [lastIx_snoc]
  by_cases hy : y.f0 = x.f0
  ·rw [if_pos hy]
   refine ⟨by omega, by rw [List.length_append, List.length_singleton]; omega, ?_⟩
   have : rd_T138 (p ++ [y]) (p.length : Int) = y := getD_pre p y [] _
   rw [this]
   exact hy
  ·rw [if_neg hy]
   have hxp : x ∈ p := by
    rcases List.mem_append.1 hx with h | h
    ·exact h
    ·rw [List.mem_singleton.1 h] at hy
     exact absurd rfl hy
   obtain ⟨h1, h2, h3⟩ := lastIx_of n p hpl x hxp
   refine ⟨h1, by simp; omega, ?_⟩
   rw [rd_T_app h1 h2]
   exact h3
theorem getElem_rd (l : List (S138)) (i : Int) (h0 : 0 ≤ i) (h1 : i < (l.length : Int)) : l[i.toNat]? = some (rd_T138 l i) := by
 unfold rd_T138
 rw [List.getD_eq_getElem?_getD, List.getElem?_eq_getElem (by omega)]
 rfl
theorem rd_of_getElem (l : List (S138)) (i : Nat) (x : S138) (h : l[i]? = some x) : rd_T138 l (i : Int) = x := by
 unfold rd_T138
 rw [List.getD_eq_getElem?_getD, show ((i : Int)).toNat = i by omega, h]
 rfl
theorem here_mem (l : List (S138)) (h z : Int) : z ∈ hereFrom l h 0 l ↔ ∃ x ∈ l, x.f0 = z ∧ (rd_T138 l (lastIx l z)).f1 = 2 ∧ (rd_T138 l (lastIx l z)).f2 = h := by
 rw [hereFrom_mem]
 constructor
 ·rintro ⟨i, x, h1, rfl, h2, h3, h4⟩
  rw [Nat.zero_add] at h4
  exact ⟨x, List.mem_of_getElem? h1, rfl, by rw [h4, rd_of_getElem l i x h1]; exact ⟨h2, h3⟩⟩
 ·rintro ⟨x, hx, rfl, h2, h3⟩
  obtain ⟨h4, h5, h6⟩ := lastIx_of _ l rfl x hx
  exact ⟨(lastIx l x.f0).toNat, _, getElem_rd l _ h4 h5, h6, h2, h3, by omega⟩
theorem step_asc (l : List (S138)) (h : Int) : ∀ (r : List (S138)) (s : List Int), asc s → asc (r.foldl (hereStep l h) s)
 | [], s, hs => hs
 | x :: r, s, hs => by
  rw [List.foldl_cons]
  refine step_asc l h r _ ?_
  unfold hereStep
  split
  ·exact put_asc _ _ hs
  ·exact hs
theorem step_mem (l : List (S138)) (h z : Int) : ∀ (r : List (S138)) (s : List Int), z ∈ r.foldl (hereStep l h) s ↔ z ∈ s ∨ ∃ x ∈ r, x.f0 = z ∧ (rd_T138 l (lastIx l z)).f1 = 2 ∧ (rd_T138 l (lastIx l z)).f2 = h
 | [], s => by simp
 | x :: r, s => by
  rw [List.foldl_cons, step_mem l h z r]
  simp only [List.mem_cons, exists_eq_or_imp]
  rw [← or_assoc]
  refine or_congr ?_ Iff.rfl
  unfold hereStep
  split
  ·rename_i hc
   rw [mem_put]
   constructor
   ·rintro (rfl | h1)
    ·exact .inr ⟨rfl, hc⟩
    ·exact .inl h1
   ·rintro (h1 | ⟨rfl, _⟩)
    ·exact .inr h1
    ·exact .inl rfl
  ·rename_i hc
   constructor
   ·exact .inl
   ·rintro (h1 | ⟨rfl, h2⟩)
    ·exact h1
    ·exact absurd h2 hc
theorem step_len (l : List (S138)) (h : Int) (s : List Int) (x : S138) : (hereStep l h s x).length ≤ s.length + 1 := by
 unfold hereStep
 split
 ·exact put_len _ _
 ·omega
theorem here_eq (l : List (S138)) (h : Int) : l.foldl (hereStep l h) [] = msort (hereFrom l h 0 l) := by
 refine asc_ext _ _ (step_asc l h l [] asc_nil) (msort_asc _ (hereFrom_nodup l h l 0)) (fun z => ?_)
 rw [mem_msort, step_mem, here_mem]
 simp

/-! spec_InHouse -/
theorem spec_InHouse_ev (l : List (S138)) (h : Int) (hl : l.length ≤ 1099511627776) : Ev (fun k => spec_InHouse.f k l h) (inHouse l h) := by
 have jf : ∀ (s : List Int) (i : Int), Ev (fun k => spec_InHouse.j1 k l h s i false) s := by
  intro n i
  refine ev_succ ?_
  simp only [spec_InHouse.j1, Bool.false_eq_true, if_false]
  exact Ev.now _
 unfold inHouse
 cases hc : isChain l with
 | false =>
  simp only [Bool.false_eq_true, if_false]
  unfold spec_InHouse.f
  refine ev_succ ?_
  by_cases h0 : (0 : Int) < (l.length : Int)
  ·simp only [spec_InHouse.l0, if_pos h0]
   refine Ev.bind (spec_IsChain_ev l hl) ?_
   rw [hc]
   exact jf _ _
  ·simp only [spec_InHouse.l0, if_neg h0]
   exact jf _ _
 | true =>
  simp only [if_true]
  rw [← here_eq]
  refine ev_range l (fun k (s : List Int) i => spec_InHouse.l0 k l h s i) (fun s r => r.foldl (hereStep l h) s) (fun p s => s.length ≤ p.length) (by omega) ?_ ?_ [] (by simp)
  ·rintro a _
   simp only [spec_InHouse.l0, if_neg (Int.lt_irrefl _)]
   exact jf _ _
  ·rintro pre x rest a e hlt hget ha ih
   have hr : rd_T138 l (pre.length : Int) = x := hget _
   have ha' : a.length ≤ pre.length := ha
   have hls := spec_l16Last_ev l [] x.f0 (by simpa using hl)
   rw [List.append_nil] at hls
   obtain ⟨h4, h5, _⟩ := lastIx_of _ l rfl x (by rw [e]; simp)
   simp only [spec_InHouse.l0, if_pos hlt]
   refine Ev.bind (spec_IsChain_ev l hl) ?_
   rw [hc]
   refine ev_succ ?_
   simp only [spec_InHouse.j1, if_true, if_pos (ge0 pre.length), if_pos hlt, hr]
   refine Ev.bind hls ?_
   simp only [if_pos h4, if_pos h5]
   have hq := step_len l h a x
   by_cases h1 : (rd_T138 l (lastIx l x.f0)).f1 = 2
   ·by_cases h2 : (rd_T138 l (lastIx l x.f0)).f2 = h
    ·simp only [if_pos h1, if_pos h2]
     refine Ev.bind (spec_l9Put_ev a x.f0 (by omega)) ?_
     have e1 : hereStep l h a x = put x.f0 a := by unfold hereStep; rw [if_pos ⟨h1, h2⟩]
     have := ih (hereStep l h a x) (by simp; omega)
     rw [e1] at this
     exact ev_map this (by rw [List.foldl_cons, e1])
    ·simp only [if_pos h1, if_neg h2]
     have e1 : hereStep l h a x = a := by unfold hereStep; rw [if_neg (fun q => h2 q.2)]
     exact ev_map (ih a (by simp; omega)) (by rw [List.foldl_cons, e1])
   ·simp only [if_neg h1]
    have e1 : hereStep l h a x = a := by unfold hereStep; rw [if_neg (fun q => h1 q.1)]
    exact ev_map (ih a (by simp; omega)) (by rw [List.foldl_cons, e1])

/-! spec_l1Once -/
theorem l1Once_tot (b : List Int) (i h n : Int) (hc : Cur b i) : ∃ x i' h', spec_l1Once.f b i h n = some (x, i', h') ∧ Cur b i' := by
 obtain ⟨x, i1, h1, e1, _, _, c1⟩ := l1Below_tot b i h n hc
 unfold spec_l1Once.f
 simp only [e1, Option.bind_some]
 exact ⟨_, _, _, rfl, c1⟩

/-! spec_l22One -/
theorem l22One_tot (b : List Int) (i h : Int) (l : List (S138)) (hl : l.length ≤ 12) (hc : Cur b i) : ∃ f t ts a i' h', Ev (fun k => spec_l22One.f k b i h l) (f, t, ts, a, i', h') ∧ ts.length ≤ 12 ∧ Cur b i' := by
 have j2 : ∀ (i h f t : Int) (ts : List Int) (a : Int), Cur b i → ∃ a' i' h', Ev (fun k => spec_l22One.j2 k b i h f t ts a) (f, t, ts, a', i', h') ∧ Cur b i' := by
  intro i h f t ts a hc
  obtain ⟨q, i1, h1, e1, c1⟩ := l1Once_tot b i h 12 hc
  cases q with
  | true =>
   obtain ⟨x, i2, h2, e2, c2⟩ := l4Raw_tot b i1 h1 c1
   refine ⟨x, i2, h2, ev_succ ?_, c2⟩
   simp only [spec_l22One.j2, e1, e2, Option.bind_some, if_true]
   exact Ev.now _
  | false =>
   refine ⟨a, i1, h1, ev_succ ?_, c1⟩
   simp only [spec_l22One.j2, e1, Option.bind_some, Bool.false_eq_true, if_false]
   exact Ev.now _
 have j1 : ∀ (q : Bool) (i h f t : Int) (ts : List Int) (a : Int), ts.length ≤ 12 → Cur b i → ∃ ts' a' i' h', Ev (fun k => spec_l22One.j1 k q b i h f t ts a) (f, t, ts', a', i', h') ∧ ts'.length ≤ 12 ∧ Cur b i' := by
  intro q i h f t ts a ht hc
  cases q with
  | true =>
   obtain ⟨x, i1, h1, e1, _, c1⟩ := l1Int_tot b i h [0, 2, 4, 999] (by decide) hc
   obtain ⟨a', i', h', e, c'⟩ := j2 i1 h1 f t [x] a c1
   refine ⟨[x], a', i', h', ev_succ ?_, by simp, c'⟩
   simp only [spec_l22One.j1, e1, Option.bind_some, if_true]
   exact e
  | false =>
   obtain ⟨a', i', h', e, c'⟩ := j2 i h f t ts a hc
   refine ⟨ts, a', i', h', ev_succ ?_, ht, c'⟩
   simp only [spec_l22One.j1, Bool.false_eq_true, if_false]
   exact e
 have key : ∀ (hs : List Int) (f t a : Int), hs.length ≤ 12 → ∀ (rest pre : List Int) (i h : Int) (ts : List Int), hs = pre ++ rest → ts.length ≤ pre.length → Cur b i → ∃ ts' a' i' h', Ev (fun k => spec_l22One.l0 k hs (pre.length : Int) b i h f t ts a) (f, t, ts', a', i', h') ∧ ts'.length ≤ 12 ∧ Cur b i' := by
  intro hs f t a hh rest
  induction rest with
  | nil =>
   intro pre i h ts e hts hc
   rw [List.append_nil] at e
   subst e
   by_cases h0 : (ts.length : Int) = 0
   ·obtain ⟨ts', a', i', h', e, h1, c'⟩ := j1 true i h f t ts a (by omega) hc
    refine ⟨ts', a', i', h', ev_succ ?_, h1, c'⟩
    simp only [spec_l22One.l0, if_neg (Int.lt_irrefl _), if_pos h0]
    exact e
   ·obtain ⟨q, i1, h1, e1, c1⟩ := l1Once_tot b i h 8 hc
    obtain ⟨ts', a', i', h', e, h1', c'⟩ := j1 q i1 h1 f t ts a (by omega) c1
    refine ⟨ts', a', i', h', ev_succ ?_, h1', c'⟩
    simp only [spec_l22One.l0, if_neg (Int.lt_irrefl _), if_neg h0, e1, Option.bind_some]
    exact e
  | cons x rest ih =>
   intro pre i h ts e hts hc
   have hlen : hs.length = pre.length + (rest.length + 1) := by rw [e]; simp
   have hlt : (pre.length : Int) < (hs.length : Int) := by omega
   obtain ⟨q, i1, h1, e1, c1⟩ := l1Once_tot b i h 3 hc
   have e' : hs = (pre ++ [x]) ++ rest := by rw [e]; simp
   have hn : ((pre ++ [x]).length : Int) = ((pre.length + 1 : Nat) : Int) := by simp
   cases q with
   | true =>
    obtain ⟨ts', a', i', h', ee, h1', c'⟩ := ih (pre ++ [x]) i1 h1 ts e' (by simp; omega) c1
    refine ⟨ts', a', i', h', ev_succ ?_, h1', c'⟩
    simp only [spec_l22One.l0, if_pos hlt, e1, Option.bind_some, if_true, wsucc (show pre.length < 9223372036854775807 by omega)]
    rw [hn] at ee
    exact ee
   | false =>
    obtain ⟨ts', a', i', h', ee, h1', c'⟩ := ih (pre ++ [x]) i1 h1 (ts ++ [rd hs (pre.length : Int)]) e' (by simp; omega) c1
    refine ⟨ts', a', i', h', ev_succ ?_, h1', c'⟩
    simp only [spec_l22One.l0, if_pos hlt, e1, Option.bind_some, Bool.false_eq_true, if_false, if_pos (ge0 pre.length), if_pos (show ts.length < 17592186044416 by omega), wsucc (show pre.length < 9223372036854775807 by omega)]
    rw [hn] at ee
    exact ee
 obtain ⟨x, i1, h1, e1, _, _, c1⟩ := l1Below_tot b i h 3 hc
 obtain ⟨y, i2, h2, e2, _, _, c2⟩ := l1Below_tot b i1 h1 3 c1
 obtain ⟨z, i3, h3, e3, _, _, c3⟩ := l1Below_tot b i2 h2 20 c2
 have hin := inHouse_len l (wrap64 (1 + x))
 obtain ⟨ts, a, i', h', e, ht, c'⟩ := key (inHouse l (wrap64 (1 + x))) (wrap64 (1 + x)) (wrap64 (1 + y)) (wrap64 (60 + z)) (by omega) _ [] i3 h3 [] rfl (by simp) c3
 refine ⟨wrap64 (1 + x), wrap64 (1 + y), ts, a, i', h', ?_, ht, c'⟩
 unfold spec_l22One.f
 simp only [e1, e2, e3, Option.bind_some]
 refine Ev.bind (spec_InHouse_ev l (wrap64 (1 + x)) (by omega)) ?_
 exact e

/-! impl_lastHand -/
theorem impl_lastHand_ev (l : List (S138)) (t : Int) (h : l.length ≤ 1099511627776) : Ev (fun k => impl_lastHand.f k l t) (lastIx l t) := by
 have key : ∀ n : Nat, n ≤ l.length → Ev (fun k => impl_lastHand.l0 k l t ((n : Int) - 1)) (lastIx (l.take n) t) := by
  intro n
  induction n with
  | zero =>
   intro _
   refine ev_succ ?_
   simp only [impl_lastHand.l0, if_neg (show ¬ ((0 : Nat) : Int) - 1 ≥ 0 by omega)]
   exact ev_const (by simp [lastIx, lastFrom])
  | succ n ih =>
   intro hn
   have e1 : ((n + 1 : Nat) : Int) - 1 = (n : Int) := by omega
   rw [e1]
   have e2 : l.take (n + 1) = l.take n ++ [l[n]] := by rw [List.take_succ_eq_append_getElem (by omega)]
   have hr : rd_T138 l (n : Int) = l[n] := by
    unfold rd_T138
    rw [List.getD_eq_getElem?_getD, show ((n : Int)).toNat = n by omega, List.getElem?_eq_getElem (by omega)]
    rfl
   rw [e2, lastIx_snoc, List.length_take, Nat.min_eq_left (by omega)]
   refine ev_succ ?_
   simp only [impl_lastHand.l0, if_pos (show (n : Int) ≥ 0 by omega), if_pos (show 0 ≤ (n : Int) by omega), if_pos (show (n : Int) < (l.length : Int) by omega), hr]
   by_cases hx : l[n].f0 = t
   ·simp only [if_pos hx]
    exact Ev.now _
   ·simp only [if_neg hx, w64 (x := (n : Int) - 1) (by omega) (by omega)]
    exact ih (by omega)
 have := key l.length (Nat.le_refl _)
 rw [List.take_length] at this
 unfold impl_lastHand.f
 rw [w64 (by omega) (by omega)]
 exact this

/-! impl_InRange -/
theorem impl_InRange_eq (a b c : Int) : impl_InRange.f a b c = some (inr a b c) := by
 unfold impl_InRange.f inr
 by_cases h : b ≤ a <;> simp [h]

/-! impl_Mod -/
theorem impl_Mod_eq (a : Int) : impl_Mod.f a 2147483647 = some (a % 2147483647) := by
 simp only [impl_Mod.f, impl_InRange_eq, Option.bind_some]
 rw [if_pos (by decide), if_neg (by decide)]
 by_cases h : Int.tmod a 2147483647 < 0
 ·rw [if_pos h, mod_lo a h]
 ·rw [if_neg h, mod_hi a h]

/-! impl_fold -/
theorem impl_fold_eq (a v : Int) : impl_fold.f a v = some (hstep a v) := by
 simp only [impl_fold.f, impl_Mod_eq, Option.bind_some, hstep]

/-! impl_Hash -/
theorem impl_Hash_loop (rest : List Int) : ∀ (pre : List Int) (acc : Int), (pre ++ rest).length < 9223372036854775807 → Ev (fun k => impl_Hash.l0 k acc (pre ++ rest) ((pre ++ rest).length : Int) (pre.length : Int)) (rest.foldl hstep acc) := by
 induction rest with
 | nil =>
  intro pre acc h
  refine ev_succ ?_
  simp only [impl_Hash.l0, if_neg (nlt_pre pre)]
  exact Ev.now _
 | cons x rest ih =>
  intro pre acc h
  have hl := len_pre pre x rest
  refine ev_succ ?_
  simp only [impl_Hash.l0, if_pos (lt_pre pre x rest), if_pos (ge0 pre.length), rd_pre, impl_fold_eq, Option.bind_some, wsucc (show pre.length < 9223372036854775807 by omega)]
  rw [snoc_len pre x]
  have := ih (pre ++ [x]) (hstep acc x) (by rw [← app_pre]; exact h)
  rw [← app_pre] at this
  exact this
theorem impl_Hash_ev (l : List Int) (h : l.length < 9223372036854775807) : Ev (fun k => impl_Hash.f k l) (ghash l) := impl_Hash_loop l [] 11 h

/-! impl_HandSeal -/
theorem impl_HandSeal_ev (a b c d e f : Int) : Ev (fun k => impl_HandSeal.f k a b c d e f) (ghash [a, b, c, d, e]) := by
 simp only [impl_HandSeal.f]
 exact Ev.bind (impl_Hash_ev _ (by simp)) (Ev.now _)

/-! impl_IsChain -/
theorem impl_IsChain_j1_true (l : List (S138)) (n i j a b c d e : Int) : Ev (fun k => impl_IsChain.j1 k l i l n j true a b c d e) false := by
 refine ev_succ ?_
 simp only [impl_IsChain.j1, if_true]
 exact Ev.now _
theorem impl_IsChain_j1_false {l pre rest : List (S138)} {x : S138} (e : l = pre ++ x :: rest) (hl : l.length ≤ 1099511627776) (R : Bool) (ih : Ev (fun k => impl_IsChain.l0 k l x.f4 l (l.length : Int) (wrap64 ((pre.length : Int) + 1))) R) :
  Ev (fun k => impl_IsChain.j1 k l (pre.length : Int) l (l.length : Int) (pre.length : Int) false x.f0 x.f1 x.f2 x.f3 x.f4) (hdStep pre x && R) := by
 have hb := lastIx_bounds pre x.f0
 have hlen : l.length = pre.length + (rest.length + 1) := by rw [e, len_pre]
 have ht : l.take ((pre.length : Int)).toNat = pre := by rw [e]; simp
 refine ev_succ ?_
 simp only [impl_IsChain.j1, Bool.false_eq_true, if_false, if_pos (ge0 pre.length), if_pos (show (pre.length : Int) ≤ (l.length : Int) by omega), ht]
 refine Ev.bind (impl_lastHand_ev pre x.f0 (by omega)) ?_
 by_cases h2 : lastIx pre x.f0 < 0
 ·by_cases h3 : x.f1 > 2
  ·simp only [if_pos h2, if_pos h3]
   exact ev_const (by simp [hdStep, h2, show ¬ x.f1 ≤ 2 by omega])
  ·simp only [if_pos h2, if_neg h3]
   exact ev_map ih (by simp [hdStep, h2, show x.f1 ≤ 2 by omega])
 ·by_cases h3 : x.f1 = 1
  ·simp only [if_neg h2, if_pos h3]
   exact ev_const (by simp [hdStep, h2, h3])
  ·have hr : rd_T138 l (lastIx pre x.f0) = rd_T138 pre (lastIx pre x.f0) := by rw [e, rd_T_app (by omega) hb.2]
   simp only [if_neg h2, if_neg h3, if_pos (show 0 ≤ lastIx pre x.f0 by omega), if_pos (show lastIx pre x.f0 < (l.length : Int) by omega), hr]
   by_cases h4 : (rd_T138 pre (lastIx pre x.f0)).f1 > 2
   ·simp only [if_pos h4]
    exact ev_const (by simp [hdStep, h2, show ¬ (rd_T138 pre (lastIx pre x.f0)).f1 ≤ 2 by omega])
   ·simp only [if_neg h4]
    exact ev_map ih (by simp [hdStep, h2, h3, show (rd_T138 pre (lastIx pre x.f0)).f1 ≤ 2 by omega])
theorem impl_IsChain_ev (l : List (S138)) (hl : l.length ≤ 1099511627776) : Ev (fun k => impl_IsChain.f k l) (isChain l) := by
 unfold impl_IsChain.f isChain
 by_cases hb : (l.length : Int) > 100
 ·simp only [if_pos hb]
  exact ev_const (by simp; omega)
 ·simp only [if_neg hb, show decide (l.length ≤ 100) = true from decide_eq_true (by omega), Bool.true_and]
  refine ev_range l (fun k (s : Int × List (S138)) i => impl_IsChain.l0 k l s.1 l (l.length : Int) i) (fun s r => chainOk s.1 s.2 r) (fun p s => s.2 = p) (by omega) ?_ ?_ (0, []) rfl
  ·rintro ⟨s, p⟩ _
   simp only [impl_IsChain.l0, if_neg (Int.lt_irrefl _)]
   exact ev_const (by simp [chainOk])
  ·rintro pre x rest ⟨s, p⟩ e hlt hget rfl ih
   have hr : rd_T138 l (p.length : Int) = x := hget _
   have ih' := ih (x.f4, p ++ [x]) rfl
   have hs : ghash [s, x.f0, x.f1, x.f2, x.f3] = hseal s x := rfl
   have hsl : ∀ E : Bool, E = false → Ev (fun k => (impl_HandSeal.f k s x.f0 x.f1 x.f2 x.f3 x.f4).bind fun t => (impl_IsChain.j1 k l (p.length : Int) l (l.length : Int) (p.length : Int) (x.f4 != t) x.f0 x.f1 x.f2 x.f3 x.f4)) (decide (x.f4 = hseal s x) && (!E && (hdStep p x && chainOk x.f4 (p ++ [x]) rest))) := by
    rintro E rfl
    refine Ev.bind (impl_HandSeal_ev s x.f0 x.f1 x.f2 x.f3 x.f4) ?_
    rw [hs]
    by_cases h5 : x.f4 = hseal s x
    ·rw [show (x.f4 != hseal s x) = false from bne_eq_false_iff_eq.2 h5]
     exact ev_map (impl_IsChain_j1_false e hl _ ih') (by simp [h5])
    ·rw [show (x.f4 != hseal s x) = true from bne_iff_ne.2 h5]
     exact ev_map (impl_IsChain_j1_true _ _ _ _ _ _ _ _ _) (by simp [h5])
   simp only [impl_IsChain.l0, if_pos hlt, if_pos (ge0 p.length), hr, impl_InRange_eq, Option.bind_some, chainOk, hdFits]
   cases h1 : inr x.f0 1 999 with
   | false => exact impl_IsChain_j1_true _ _ _ _ _ _ _ _ _
   | true =>
    cases h2 : inr x.f1 1 5 with
    | false => exact impl_IsChain_j1_true _ _ _ _ _ _ _ _ _
    | true =>
     cases h3 : inr x.f2 0 999 with
     | false => exact impl_IsChain_j1_true _ _ _ _ _ _ _ _ _
     | true =>
      cases h4 : inr x.f3 0 100000 with
      | false => exact impl_IsChain_j1_true _ _ _ _ _ _ _ _ _
      | true =>
       simp only [if_true, Bool.true_and]
       rcases prev_cases e (by omega) with ⟨hp, hn⟩ | ⟨y, hy, h6, h7, h8, h9⟩
       ·simp only [if_neg hn]
        exact hsl _ (by simp [hdEarly, show p = [] from hp])
       ·have hr9 : rd_T138 l (wrap64 ((p.length : Int) - 1)) = y := h9 _
        simp only [if_pos h6, if_pos h7, if_pos h8, hr9]
        by_cases h10 : x.f3 < y.f3
        ·simp only [if_pos h10]
         exact ev_map (impl_IsChain_j1_true _ _ _ _ _ _ _ _ _) (by simp [hdEarly, show p.getLast? = some y from hy, h10])
        ·simp only [if_neg h10]
         exact hsl _ (by simp [hdEarly, show p.getLast? = some y from hy, h10])

/-! impl_InHouse -/
theorem impl_InHouse_ev (l : List (S138)) (h : Int) (hl : l.length ≤ 1099511627776) : Ev (fun k => impl_InHouse.f k l h) (inHouse l h) := by
 unfold inHouse impl_InHouse.f
 simp only [Option.bind_some]
 refine Ev.bind (impl_IsChain_ev l hl) ?_
 cases hc : isChain l with
 | false => exact Ev.now _
 | true =>
  simp only [if_true]
  refine ev_map (ev_range l (fun k (s : List Int × Nat) i => impl_InHouse.l0 k l h s.1 l (l.length : Int) i) (fun s r => msort (s.1 ++ hereFrom l h s.2 r)) (fun p s => s.2 = p.length ∧ s.1.length ≤ p.length) (by omega) ?_ ?_ ([], 0) ⟨rfl, by simp⟩) (by simp)
  ·rintro ⟨a, n⟩ ⟨_, ha⟩
   have ha' : a.length ≤ l.length := ha
   simp only [impl_InHouse.l0, if_neg (Int.lt_irrefl _), slices_Sort.f, if_pos (show a.length < 4611686018427387904 by omega), Option.bind_some]
   exact ev_const (by simp [hereFrom, msort])
  ·rintro pre x rest ⟨a, n⟩ e hlt hget ⟨hn, ha⟩ ih
   have hn' : n = pre.length := hn
   have ha' : a.length ≤ pre.length := ha
   subst hn'
   have hr : rd_T138 l (pre.length : Int) = x := hget _
   simp only [impl_InHouse.l0, if_pos hlt, if_pos (ge0 pre.length), hr]
   by_cases h1 : x.f1 = 2
   ·by_cases h2 : x.f2 = h
    ·simp only [if_pos h1, if_pos h2]
     refine Ev.bind (impl_lastHand_ev l x.f0 hl) ?_
     by_cases h3 : lastIx l x.f0 = (pre.length : Int)
     ·simp only [if_pos h3, if_pos (show a.length < 17592186044416 by omega)]
      exact ev_map (ih (a ++ [x.f0], pre.length + 1) ⟨by simp, by simp; omega⟩) (by simp [hereFrom, h1, h2, h3])
     ·simp only [if_neg h3]
      exact ev_map (ih (a, pre.length + 1) ⟨by simp, by simp; omega⟩) (by simp [hereFrom, h3])
    ·simp only [if_pos h1, if_neg h2]
     exact ev_map (ih (a, pre.length + 1) ⟨by simp, by simp; omega⟩) (by simp [hereFrom, h2])
   ·simp only [if_neg h1]
    exact ev_map (ih (a, pre.length + 1) ⟨by simp, by simp; omega⟩) (by simp [hereFrom, h1])

/-! ascends -/
def ascOk (lo hi : Int) : Option Int → List Int → Bool
 | _, [] => true
 | p, x :: rest => inr x lo hi && ((match p with | none => true | some y => decide (y < x)) && ascOk lo hi (some x) rest)

/-! impl_isAscending -/
theorem impl_isAscending_ev (l : List Int) (lo hi : Int) (h : l.length ≤ 1099511627776) : Ev (fun k => impl_isAscending.f k l lo hi) (ascOk lo hi none l) := by
 refine ev_range l (fun k (_ : Option Int) i => impl_isAscending.l0 k l lo hi l (l.length : Int) i) (fun s r => ascOk lo hi s r) (fun p s => s = p.getLast?) (by omega) ?_ ?_ none rfl
 ·intro s _
  simp only [impl_isAscending.l0, if_neg (Int.lt_irrefl _)]
  exact Ev.now _
 ·rintro pre x rest s e hlt hget rfl ih
  have hr : rd l (pre.length : Int) = x := hget 0
  have ih' := ih (some x) (by simp)
  simp only [impl_isAscending.l0, if_pos hlt, if_pos (ge0 pre.length), hr, impl_InRange_eq, Option.bind_some, ascOk]
  cases h1 : inr x lo hi with
  | false => exact Ev.now _
  | true =>
   simp only [if_true, Bool.true_and]
   rcases prev_cases e (by omega) with ⟨hp, hn⟩ | ⟨y, hy, h4, h5, h6, h7⟩
   ·simp only [if_neg hn]
    exact ev_map ih' (by simp [hp])
   ·have hr7 : rd l (wrap64 ((pre.length : Int) - 1)) = y := h7 0
    simp only [if_pos h4, if_pos h5, if_pos h6, hr7, hy]
    by_cases h8 : x ≤ y
    ·simp only [if_pos h8]
     exact ev_const (by simp [show ¬ y < x by omega])
    ·simp only [if_neg h8]
     exact ev_map ih' (by simp [show y < x by omega])

/-! isParcel -/
def isParcel (f t : Int) (l : List Int) (h : Int) : Bool := inr f 1 9 && (inr t 1 9 && (!decide (f = t) && (inr (l.length : Int) 1 10 && (ascOk 1 999 none l && inr h 0 100000))))

/-! impl_IsParcel -/
theorem impl_IsParcel_ev (f t : Int) (l : List Int) (h : Int) (hl : l.length ≤ 1099511627776) : Ev (fun k => impl_IsParcel.f k f t l h) (isParcel f t l h) := by
 simp only [impl_IsParcel.f, impl_InRange_eq, Option.bind_some, isParcel]
 cases h1 : inr f 1 9 with
 | false => exact Ev.now _
 | true =>
  cases h2 : inr t 1 9 with
  | false => exact Ev.now _
  | true =>
   by_cases h3 : f = t
   ·simp only [if_true, if_pos h3]
    exact ev_const (by simp [h3])
   ·cases h4 : inr (l.length : Int) 1 10 with
    | false =>
     simp only [if_true, if_neg h3]
     exact ev_const (by simp)
    | true =>
     simp only [if_true, if_neg h3]
     refine Ev.bind (impl_isAscending_ev l 1 999 hl) ?_
     refine ev_const ?_
     rw [ite_and]
     simp [h3]

/-! clone:impl.Hand -/
theorem clone_Hand_eq (l : List (S138)) (h : l.length < 3518437208883) : impl_Hand.f l = some l := by
 unfold impl_Hand.f
 simp only [Option.bind_some, List.length_nil, List.nil_append, Nat.zero_add, if_pos h]

/-! impl_AddHand -/
theorem impl_AddHand_j0 (l : List (S138)) (s a b c d e : Int) (hl : l.length ≤ 1099511627775) : Ev (fun k => impl_AddHand.j0 k l s a b c d e) (if isChain (withHand s l a b c d) = true then (withHand s l a b c d, true) else (l, false)) := by
 refine ev_succ ?_
 simp only [impl_AddHand.j0]
 refine Ev.bind (impl_HandSeal_ev s a b c d e) ?_
 simp only [clone_Hand_eq l (by omega), Option.bind_some, List.length_nil, List.nil_append, Nat.zero_add, if_pos (show l.length < 3518437208883 by omega), List.length_singleton, if_pos (show l.length + 1 < 3518437208883 by omega)]
 refine Ev.bind (impl_IsChain_ev (withHand s l a b c d) (by simp [withHand]; omega)) ?_
 cases h : isChain (withHand s l a b c d) <;> exact Ev.now _
theorem impl_AddHand_ev (l : List (S138)) (a b c d e : Int) (hl : l.length ≤ 1099511627775) : Ev (fun k => impl_AddHand.f k l a b c d e) (addHand l a b c d) := by
 unfold impl_AddHand.f addHand lastSeal
 rcases last_cases l (by omega) with ⟨rfl, h⟩ | ⟨y, hy, h1, h2, h3, h4⟩
 ·simp only [if_neg h]
  exact impl_AddHand_j0 [] 0 a b c d e hl
 ·simp only [if_pos h1, if_pos h2, if_pos h3, h4, hy]
  exact impl_AddHand_j0 l y.f4 a b c d e hl

/-! has -/
def has (l : List Int) (n : Int) : Bool := l.any (fun y => decide (y = n))
theorem has_iff (l : List Int) (n : Int) : has l n = true ↔ n ∈ l := by
 unfold has
 rw [List.any_eq_true]
 constructor
 ·rintro ⟨x, hx, h⟩
  rw [← of_decide_eq_true h]
  exact hx
 ·intro h
  exact ⟨n, h, decide_eq_true rfl⟩

/-! slices_Index_int_int -/
theorem slices_Index_ev (l : List Int) (n : Int) (h : l.length ≤ 1099511627776) : ∃ r, Ev (fun k => slices_Index_int_int.f k l n) r ∧ decide (r ≥ 0) = has l n := by
 have key : ∀ (rest pre : List Int), l = pre ++ rest → ∃ r, Ev (fun k => slices_Index_int_int.l0 k l n (l.length : Int) (pre.length : Int)) r ∧ decide (r ≥ 0) = has rest n := by
  intro rest
  induction rest with
  | nil =>
   intro pre e
   rw [List.append_nil] at e
   subst e
   refine ⟨-1, ev_succ ?_, by simp [has]⟩
   simp only [slices_Index_int_int.l0, if_neg (Int.lt_irrefl _)]
   exact Ev.now _
  | cons x rest ih =>
   intro pre e
   have hl : l.length = pre.length + (rest.length + 1) := by rw [e, len_pre]
   have hr : rd l (pre.length : Int) = x := by rw [e]; exact rd_pre pre x rest
   by_cases h2 : n = x
   ·refine ⟨(pre.length : Int), ev_succ ?_, ?_⟩
    ·simp only [slices_Index_int_int.l0, if_pos (show (pre.length : Int) < (l.length : Int) by omega), if_pos (ge0 pre.length), hr, if_pos h2]
     exact Ev.now _
    ·rw [decide_eq_true (show (pre.length : Int) ≥ 0 by omega)]
     simp [has, h2]
   ·obtain ⟨r, h3, h4⟩ := ih (pre ++ [x]) (by rw [← app_pre]; exact e)
    refine ⟨r, ev_succ ?_, ?_⟩
    ·simp only [slices_Index_int_int.l0, if_pos (show (pre.length : Int) < (l.length : Int) by omega), if_pos (ge0 pre.length), hr, if_neg h2, wsucc (show pre.length < 9223372036854775807 by omega)]
     rw [snoc_len pre x]
     exact h3
    ·rw [h4]
     simp [has, Ne.symm h2]
 exact key l [] rfl

/-! slices_Contains_int_int -/
theorem slices_Contains_ev (l : List Int) (n : Int) (h : l.length ≤ 1099511627776) : Ev (fun k => slices_Contains_int_int.f k l n) (has l n) := by
 obtain ⟨r, h1, h2⟩ := slices_Index_ev l n h
 unfold slices_Contains_int_int.f
 refine Ev.bind h1 ?_
 exact ev_const (by rw [← h2])

/-! sendParcel -/
def sendGo (t h : Int) (hs : List Int) : List (S138) → List Int → Option (List (S138))
 | o, [] => some o
 | o, x :: r => if (addHand o x 2 t h).2 = true ∧ has hs x = true then sendGo t h hs (addHand o x 2 t h).1 r else none
def sendEnd (l : List (S138)) : Option (List (S138)) → List (S138) × Bool
 | some o => (o, true)
 | none => (l, false)
def sendParcel (l : List (S138)) (f t : Int) (ts : List Int) (h : Int) : List (S138) × Bool :=
 if isParcel f t ts h = true then sendEnd l (sendGo t h (inHouse l f) l ts) else (l, false)
theorem sendGo_len (t h : Int) (hs : List Int) : ∀ (r : List Int) (o o' : List (S138)), sendGo t h hs o r = some o' → o'.length ≤ o.length + r.length
 | [], o, o', e => by
  unfold sendGo at e
  cases e
  simp
 | x :: r, o, o', e => by
  unfold sendGo at e
  split at e
  ·have h1 := sendGo_len t h hs r _ _ e
   have h2 := addHand_len o x 2 t h
   simp only [List.length_cons]
   omega
  ·cases e
theorem sendParcel_len (l : List (S138)) (f t : Int) (ts : List Int) (h : Int) : (sendParcel l f t ts h).1.length ≤ l.length + ts.length := by
 unfold sendParcel
 split
 ·cases e : sendGo t h (inHouse l f) l ts with
  | none => simp [sendEnd]
  | some o => exact sendGo_len t h _ ts l o e
 ·simp

/-! impl_SendParcel -/
theorem impl_SendParcel_ev (l : List (S138)) (f t : Int) (ts : List Int) (h : Int) (hl : l.length ≤ 1048576) (ht : ts.length ≤ 1048576) : Ev (fun k => impl_SendParcel.f k l f t ts h) (sendParcel l f t ts h) := by
 have hin := inHouse_len l f
 have hcl := clone_Hand_eq l (by omega)
 unfold impl_SendParcel.f sendParcel
 refine Ev.bind (impl_IsParcel_ev f t ts h (by omega)) ?_
 cases hp : isParcel f t ts h with
 | false =>
  simp only [Bool.false_eq_true, if_false, hcl, Option.bind_some]
  exact Ev.now _
 | true =>
  simp only [if_true]
  refine Ev.bind (impl_InHouse_ev l f (by omega)) ?_
  simp only [hcl, Option.bind_some]
  refine ev_range ts (fun k (s : List (S138)) i => impl_SendParcel.l0 k l (inHouse l f) s ts (ts.length : Int) i f t ts h) (fun s r => sendEnd l (sendGo t h (inHouse l f) s r)) (fun p s => s.length ≤ l.length + p.length) (by omega) ?_ ?_ l (by simp)
  ·intro s _
   simp only [impl_SendParcel.l0, if_neg (Int.lt_irrefl _)]
   exact Ev.now _
  ·rintro pre x rest s e hlt hget hs ih
   have hr : rd ts (pre.length : Int) = x := hget _
   have hs' : s.length ≤ l.length + pre.length := hs
   have hlen := addHand_len s x 2 t h
   simp only [impl_SendParcel.l0, if_pos hlt, if_pos (ge0 pre.length), hr]
   refine Ev.bind (impl_AddHand_ev s x 2 t h 0 (by omega)) ?_
   by_cases h1 : (addHand s x 2 t h).2 = true
   ·simp only [if_pos h1]
    refine Ev.bind (slices_Contains_ev (inHouse l f) x (by omega)) ?_
    by_cases h2 : has (inHouse l f) x = true
    ·simp only [if_pos h2]
     exact ev_map (ih (addHand s x 2 t h).1 (by simp only [List.length_append, List.length_singleton]; omega)) (by rw [show sendGo t h (inHouse l f) s (x :: rest) = sendGo t h (inHouse l f) (addHand s x 2 t h).1 rest from if_pos ⟨h1, h2⟩])
    ·simp only [if_neg h2, hcl, Option.bind_some]
     exact ev_const (by rw [show sendGo t h (inHouse l f) s (x :: rest) = none from if_neg (fun q => h2 q.2)]; rfl)
   ·simp only [if_neg h1, hcl, Option.bind_some]
    exact ev_const (by rw [show sendGo t h (inHouse l f) s (x :: rest) = none from if_neg (fun q => h1 q.1)]; rfl)

/-! laws_contains -/
theorem laws_contains_ev (l : List Int) (n : Int) (h : l.length ≤ 1099511627776) : Ev (fun k => laws_contains.f k l n) (l.any (fun x => decide (x = n))) := by
 refine ev_range l (fun k (_ : Unit) i => laws_contains.l0 k l n i) (fun _ r => r.any (fun x => decide (x = n))) (fun _ _ => True) (by omega) ?_ ?_ () trivial
 ·intro _ _
  simp only [laws_contains.l0, if_neg (Int.lt_irrefl _)]
  exact Ev.now _
 ·intro pre x rest _ _ hlt hget _ ih
  have hr : rd l (pre.length : Int) = x := hget 0
  simp only [laws_contains.l0, if_pos hlt, if_pos (ge0 pre.length), hr]
  by_cases hx : x = n
  ·simp only [if_pos hx]
   exact ev_const (by simp [hx])
  ·simp only [if_neg hx]
   exact ev_map (ih () trivial) (by simp [hx])

/-! laws_within -/
theorem laws_within_true (l m : List Int) (hl : l.length ≤ 1099511627776) (hm : m.length ≤ 1099511627776) (h : ∀ x ∈ l, x ∈ m) : Ev (fun k => laws_within.f k l m) true := by
 refine ev_range l (fun k (_ : Unit) i => laws_within.l0 k l m i) (fun _ _ => true) (fun _ _ => True) (by omega) ?_ ?_ () trivial
 ·intro _ _
  simp only [laws_within.l0, if_neg (Int.lt_irrefl _)]
  exact Ev.now _
 ·rintro pre x rest _ e hlt hget _ ih
  have hr : rd l (pre.length : Int) = x := hget _
  have hx : m.any (fun y => decide (y = x)) = true := (has_iff m x).2 (h x (by rw [e]; simp))
  simp only [laws_within.l0, if_pos hlt, if_pos (ge0 pre.length), hr]
  refine Ev.bind (laws_contains_ev m x hm) ?_
  simp only [hx, if_true]
  exact ih () trivial

/-! countIn -/
def cntFrom (l : List (S138)) : Nat → Int → List (S138) → Int
 | _, acc, [] => acc
 | n, acc, x :: r => cntFrom l (n + 1) (if x.f1 = 2 ∧ lastIx l x.f0 = (n : Int) then wrap64 (acc + 1) else acc) r
def countIn (l : List (S138)) : Int := if isChain l = true then cntFrom l 0 0 l else 0

/-! impl_CountIn -/
theorem impl_CountIn_ev (l : List (S138)) (hl : l.length ≤ 1099511627776) : Ev (fun k => impl_CountIn.f k l) (countIn l) := by
 unfold countIn impl_CountIn.f
 refine Ev.bind (impl_IsChain_ev l hl) ?_
 cases hc : isChain l with
 | false => exact Ev.now _
 | true =>
  simp only [if_true]
  refine ev_range l (fun k (s : Int × Nat) i => impl_CountIn.l0 k l s.1 l (l.length : Int) i) (fun s r => cntFrom l s.2 s.1 r) (fun p s => s.2 = p.length) (by omega) ?_ ?_ (0, 0) rfl
  ·rintro ⟨a, n⟩ _
   simp only [impl_CountIn.l0, if_neg (Int.lt_irrefl _)]
   exact Ev.now _
  ·rintro pre x rest ⟨a, n⟩ e hlt hget rfl ih
   have hr : rd_T138 l (pre.length : Int) = x := hget _
   simp only [impl_CountIn.l0, if_pos hlt, if_pos (ge0 pre.length), hr]
   by_cases h2 : x.f1 = 2
   ·simp only [if_pos h2]
    refine Ev.bind (impl_lastHand_ev l x.f0 hl) ?_
    by_cases h1 : lastIx l x.f0 = (pre.length : Int)
    ·simp only [if_pos h1]
     exact ev_map (ih (_, pre.length + 1) (by simp)) (by simp [cntFrom, h1, h2])
    ·simp only [if_neg h1]
     exact ev_map (ih (_, pre.length + 1) (by simp)) (by simp [cntFrom, h1])
   ·simp only [if_neg h2]
    exact ev_map (ih (_, pre.length + 1) (by simp)) (by simp [cntFrom, h2])

/-! housesOf -/
def housesOf (l : List (S138)) (a : Int) : List Int := (l.filter (fun x => decide (x.f0 = a) && decide (x.f1 = 2))).map (fun x => x.f2)
theorem housesOf_len (l : List (S138)) (a : Int) : (housesOf l a).length ≤ l.length := by
 unfold housesOf
 rw [List.length_map]
 exact List.length_filter_le _ _

/-! impl_HousesOf -/
theorem impl_HousesOf_ev (l : List (S138)) (a : Int) (h : l.length ≤ 1099511627776) : Ev (fun k => impl_HousesOf.f k l a) (housesOf l a) := by
 refine ev_map (ev_range l (fun k (s : List Int) i => impl_HousesOf.l0 k a s l (l.length : Int) i) (fun s r => s ++ housesOf r a) (fun p s => s.length ≤ p.length) (by omega) ?_ ?_ [] (Nat.le_refl _)) (by simp)
 ·intro s _
  simp only [impl_HousesOf.l0, if_neg (Int.lt_irrefl _)]
  exact ev_const (by simp [housesOf])
 ·intro pre x rest s _ hlt hget hs ih
  have hr : rd_T138 l (pre.length : Int) = x := hget _
  have hs' : s.length ≤ pre.length := hs
  simp only [impl_HousesOf.l0, if_pos hlt, if_pos (ge0 pre.length), hr, if_pos (show s.length < 17592186044416 by omega)]
  by_cases h0 : x.f0 = a
  ·by_cases h1 : x.f1 = 2
   ·simp only [if_pos h0, if_pos h1]
    exact ev_map (ih _ (by simp; omega)) (by simp [housesOf, h0, h1])
   ·simp only [if_pos h0, if_neg h1]
    exact ev_map (ih s (by simp; omega)) (by simp [housesOf, h0, h1])
  ·simp only [if_neg h0]
   exact ev_map (ih s (by simp; omega)) (by simp [housesOf, h0])

/-! parcels -/
theorem rd_mem (l : List (S138)) (i : Int) (h0 : 0 ≤ i) (h1 : i < (l.length : Int)) : rd_T138 l i ∈ l := List.mem_of_getElem? (getElem_rd l i h0 h1)
theorem last_in (o : List (S138)) (x : Int) : ∀ (n : Nat) (z : List (S138)), z.length = n → (∃ w ∈ z, w.f0 = x) → rd_T138 (o ++ z) (lastIx (o ++ z) x) ∈ z
 | 0, z, hz, ⟨w, hw, _⟩ => by
  rw [List.length_eq_zero_iff.1 hz] at hw
  simp at hw
 | n + 1, z, hz, ⟨w, hw, hx⟩ => by
  rcases List.eq_nil_or_concat z with rfl | ⟨p, y, hp⟩
  ·simp at hw
  rw [List.concat_eq_append] at hp
  subst hp
  rw [← List.append_assoc, lastIx_snoc]
  by_cases hy : y.f0 = x
  ·rw [if_pos hy, show rd_T138 ((o ++ p) ++ [y]) ((o ++ p).length : Int) = y from getD_pre (o ++ p) y [] _]
   simp
  ·rw [if_neg hy]
   have hwp : w ∈ p := by
    rcases List.mem_append.1 hw with h | h
    ·exact h
    ·rw [List.mem_singleton.1 h] at hx
     exact absurd hx hy
   obtain ⟨b0, b1, _⟩ := lastIx_of _ (o ++ p) rfl w (List.mem_append.2 (.inr hwp))
   rw [hx] at b0 b1
   rw [rd_T_app b0 b1]
   exact List.mem_append.2 (.inl (last_in o x n p (by simpa using hz) ⟨w, hwp, hx⟩))
theorem last_out (o : List (S138)) (x : Int) : ∀ (n : Nat) (z : List (S138)), z.length = n → (∀ w ∈ z, w.f0 ≠ x) → lastIx (o ++ z) x = lastIx o x
 | 0, z, hz, _ => by rw [List.length_eq_zero_iff.1 hz, List.append_nil]
 | n + 1, z, hz, hw => by
  rcases List.eq_nil_or_concat z with rfl | ⟨p, y, hp⟩
  ·simp at hz
  rw [List.concat_eq_append] at hp
  subst hp
  rw [← List.append_assoc, lastIx_snoc, if_neg (hw y (by simp))]
  exact last_out o x n p (by simpa using hz) (fun w h => hw w (by simp [h]))
theorem sendGo_facts (t h : Int) (hs : List Int) : ∀ (r : List Int) (o y : List (S138)), sendGo t h hs o r = some y → ∃ z, y = o ++ z ∧ z.map (fun w => w.f0) = r ∧ (∀ w ∈ z, w.f1 = 2 ∧ w.f2 = t) ∧ (∀ x ∈ r, x ∈ hs) ∧ (r ≠ [] → isChain y = true)
 | [], o, y, e => by
  unfold sendGo at e
  cases e
  exact ⟨[], by simp, rfl, by simp, by simp, by simp⟩
 | x :: r, o, y, e => by
  unfold sendGo at e
  split at e
  ·rename_i hc
   obtain ⟨h1, h2⟩ := hc
   obtain ⟨z, e1, e2, e3, e4, e5⟩ := sendGo_facts t h hs r _ _ e
   have hch : isChain (withHand (lastSeal o) o x 2 t h) = true := by
    unfold addHand at h1
    split at h1
    ·assumption
    ·cases h1
   have hA : (addHand o x 2 t h).1 = o ++ [⟨x, 2, t, h, ghash [lastSeal o, x, 2, t, h]⟩] := by
    unfold addHand
    rw [if_pos hch]
    rfl
   refine ⟨⟨x, 2, t, h, ghash [lastSeal o, x, 2, t, h]⟩ :: z, by rw [e1, hA]; simp, by simp [e2], ?_, ?_, ?_⟩
   ·intro w hw
    rcases List.mem_cons.1 hw with q | hw
    ·rw [q]; exact ⟨rfl, rfl⟩
    ·exact e3 w hw
   ·intro w hw
    rcases List.mem_cons.1 hw with q | hw
    ·rw [q]; exact (has_iff hs x).1 h2
    ·exact e4 w hw
   ·intro _
    by_cases hr : r = []
    ·subst hr
     unfold sendGo at e
     cases e
     rw [hA]
     exact hch
    ·exact e5 hr
  ·cases e
theorem inHouse_in (l : List (S138)) (h x : Int) : x ∈ inHouse l h ↔ isChain l = true ∧ (∃ w ∈ l, w.f0 = x) ∧ (rd_T138 l (lastIx l x)).f1 = 2 ∧ (rd_T138 l (lastIx l x)).f2 = h := by
 unfold inHouse
 split
 ·rename_i hc
  rw [mem_msort, here_mem]
  constructor
  ·rintro ⟨w, h1, h2, h3, h4⟩
   exact ⟨hc, ⟨w, h1, h2⟩, h3, h4⟩
  ·rintro ⟨_, ⟨w, h1, h2⟩, h3, h4⟩
   exact ⟨w, h1, h2, h3, h4⟩
 ·rename_i hc
  constructor
  ·intro q; simp at q
  ·rintro ⟨q, _⟩; exact absurd q hc
def hereAll (l : List (S138)) : Nat → List (S138) → List Int
 | _, [] => []
 | n, x :: r => if x.f1 = 2 ∧ lastIx l x.f0 = (n : Int) then x.f0 :: hereAll l (n + 1) r else hereAll l (n + 1) r
theorem hereAll_mem (l : List (S138)) (z : Int) : ∀ (r : List (S138)) (n : Nat), z ∈ hereAll l n r ↔ ∃ i x, r[i]? = some x ∧ x.f0 = z ∧ x.f1 = 2 ∧ lastIx l z = ((n + i : Nat) : Int)
 | [], n => by simp [hereAll]
 | y :: r, n => by
  have ih := hereAll_mem l z r (n + 1)
  have key : (∃ i x, (y :: r)[i]? = some x ∧ x.f0 = z ∧ x.f1 = 2 ∧ lastIx l z = ((n + i : Nat) : Int)) ↔ (y.f0 = z ∧ y.f1 = 2 ∧ lastIx l z = (n : Int)) ∨ ∃ i x, r[i]? = some x ∧ x.f0 = z ∧ x.f1 = 2 ∧ lastIx l z = ((n + 1 + i : Nat) : Int) := by
   constructor
   ·rintro ⟨i, x, h1, h2⟩
    cases i with
    | zero =>
     have : y = x := by simpa using h1
     subst this
     exact .inl (by simpa using h2)
    | succ i => exact .inr ⟨i, x, by simpa using h1, by rw [show n + 1 + i = n + (i + 1) by omega]; exact h2⟩
   ·rintro (h1 | ⟨i, x, h1, h2⟩)
    ·exact ⟨0, y, rfl, by simpa using h1⟩
    ·exact ⟨i + 1, x, by simpa using h1, by rw [show n + (i + 1) = n + 1 + i by omega]; exact h2⟩
  rw [key]
  unfold hereAll
  split
  ·rename_i hc
   rw [List.mem_cons, ih]
   constructor
   ·rintro (rfl | h2)
    ·exact .inl ⟨rfl, hc⟩
    ·exact .inr h2
   ·rintro (⟨rfl, _⟩ | h2)
    ·exact .inl rfl
    ·exact .inr h2
  ·rename_i hc
   rw [ih]
   constructor
   ·exact .inr
   ·rintro (⟨rfl, h2⟩ | h2)
    ·exact absurd h2 hc
    ·exact h2
theorem hereAll_nodup (l : List (S138)) : ∀ (r : List (S138)) (n : Nat), (hereAll l n r).Nodup
 | [], n => by simp [hereAll]
 | y :: r, n => by
  have ih := hereAll_nodup l r (n + 1)
  unfold hereAll
  split
  ·rename_i hc
   refine List.nodup_cons.2 ⟨fun hm => ?_, ih⟩
   obtain ⟨i, x, _, _, _, h3⟩ := (hereAll_mem l y.f0 r (n + 1)).1 hm
   have := hc.2
   omega
  ·exact ih
theorem hereAll_len (l : List (S138)) : ∀ (r : List (S138)) (n : Nat), (hereAll l n r).length ≤ r.length
 | [], n => by simp [hereAll]
 | x :: r, n => by
  have := hereAll_len l r (n + 1)
  unfold hereAll
  split <;> simp only [List.length_cons] <;> omega
theorem cnt_len (l : List (S138)) : ∀ (r : List (S138)) (n : Nat) (acc : Int), 0 ≤ acc → acc + (r.length : Int) ≤ 1099511627776 → cntFrom l n acc r = acc + ((hereAll l n r).length : Int)
 | [], n, acc, _, _ => by simp [cntFrom, hereAll]
 | x :: r, n, acc, h0, h1 => by
  simp only [List.length_cons] at h1
  unfold cntFrom hereAll
  split
  ·rw [w64 (by omega) (by omega), cnt_len l r (n + 1) (acc + 1) (by omega) (by omega)]
   simp only [List.length_cons]
   omega
  ·exact cnt_len l r (n + 1) acc h0 (by omega)
theorem all_mem (l : List (S138)) (z : Int) : z ∈ hereAll l 0 l ↔ (∃ x ∈ l, x.f0 = z) ∧ (rd_T138 l (lastIx l z)).f1 = 2 := by
 rw [hereAll_mem]
 constructor
 ·rintro ⟨i, x, h1, rfl, h2, h4⟩
  rw [Nat.zero_add] at h4
  exact ⟨⟨x, List.mem_of_getElem? h1, rfl⟩, by rw [h4, rd_of_getElem l i x h1]; exact h2⟩
 ·rintro ⟨⟨x, hx, rfl⟩, h2⟩
  obtain ⟨h4, h5, h6⟩ := lastIx_of _ l rfl x hx
  exact ⟨(lastIx l x.f0).toNat, _, getElem_rd l _ h4 h5, h6, h2, by omega⟩
/-- What a parcel that went through has done. -/
theorem parcel_facts (l y : List (S138)) (f t : Int) (ts : List Int) (h : Int) (hl : l.length ≤ 1048576) (ht : ts.length ≤ 1048576) (e : sendParcel l f t ts h = (y, true)) :
  isChain l = true ∧ isChain y = true ∧ y.length = l.length + ts.length ∧ (∀ x ∈ ts, x ∈ inHouse y t) ∧ (∀ x ∈ ts, x ∉ inHouse y f) ∧ (∀ x ∈ ts, f ∈ housesOf y x) ∧ countIn y = countIn l := by
 unfold sendParcel at e
 split at e
 rotate_left
 ·cases e
 rename_i hp
 have hp' := hp
 simp only [isParcel, Bool.and_eq_true, inr_iff, Bool.not_eq_true', decide_eq_false_iff_not] at hp'
 obtain ⟨_, _, hft, hlen, _, _⟩ := hp'
 cases hg : sendGo t h (inHouse l f) l ts with
 | none => rw [hg] at e; cases e
 | some y' =>
  rw [hg] at e
  have hy : y' = y := (Prod.mk.inj e).1
  subst hy
  obtain ⟨z, e1, e2, e3, e4, e5⟩ := sendGo_facts t h _ ts l y' hg
  have hne : ts ≠ [] := fun q => by rw [q] at hlen; simp at hlen
  have hcy := e5 hne
  have hcl : isChain l = true := by
   obtain ⟨x, hx⟩ := List.exists_mem_of_ne_nil ts hne
   exact ((inHouse_in l f x).1 (e4 x hx)).1
  have hzl : z.length = ts.length := by rw [← e2, List.length_map]
  have hw : ∀ x ∈ ts, ∃ w ∈ z, w.f0 = x := fun x hx => by
   rw [← e2] at hx
   obtain ⟨w, h1, h2⟩ := List.mem_map.1 hx
   exact ⟨w, h1, h2⟩
  have hrd : ∀ x ∈ ts, (rd_T138 y' (lastIx y' x)).f1 = 2 ∧ (rd_T138 y' (lastIx y' x)).f2 = t := fun x hx => by
   rw [e1]
   exact e3 _ (last_in l x _ z rfl (hw x hx))
  have hin : ∀ x ∈ ts, ∃ w ∈ y', w.f0 = x := fun x hx => by
   obtain ⟨w, h1, h2⟩ := hw x hx
   exact ⟨w, by rw [e1]; exact List.mem_append.2 (.inr h1), h2⟩
  refine ⟨hcl, hcy, by rw [e1, List.length_append, hzl], ?_, ?_, ?_, ?_⟩
  ·intro x hx
   exact (inHouse_in y' t x).2 ⟨hcy, hin x hx, hrd x hx⟩
  ·intro x hx q
   have h1 := ((inHouse_in y' f x).1 q).2.2.2
   rw [(hrd x hx).2] at h1
   exact hft h1.symm
  ·intro x hx
   obtain ⟨_, ⟨w, hw1, hw2⟩, h3, h4⟩ := (inHouse_in l f x).1 (e4 x hx)
   obtain ⟨b0, b1, b2⟩ := lastIx_of _ l rfl w hw1
   rw [hw2] at b0 b1 b2
   unfold housesOf
   refine List.mem_map.2 ⟨rd_T138 l (lastIx l x), List.mem_filter.2 ⟨?_, ?_⟩, h4⟩
   ·rw [e1]
    exact List.mem_append.2 (.inl (rd_mem l _ b0 b1))
   ·rw [b2, h3]
    simp
  ·unfold countIn
   rw [if_pos hcl, if_pos hcy, cnt_len y' y' 0 0 (by omega) (by rw [e1, List.length_append, hzl]; omega), cnt_len l l 0 0 (by omega) (by omega)]
   have hperm : (hereAll y' 0 y').Perm (hereAll l 0 l) := by
    refine (List.perm_ext_iff_of_nodup (hereAll_nodup _ _ _) (hereAll_nodup _ _ _)).2 (fun x => ?_)
    rw [all_mem, all_mem]
    by_cases hx : x ∈ ts
    ·have h1 := (inHouse_in l f x).1 (e4 x hx)
     exact ⟨fun _ => ⟨h1.2.1, h1.2.2.1⟩, fun _ => ⟨hin x hx, (hrd x hx).1⟩⟩
    ·have hz : ∀ w ∈ z, w.f0 ≠ x := fun w hw q => hx (by rw [← e2]; exact List.mem_map.2 ⟨w, hw, q⟩)
     have hlast := last_out l x _ z rfl hz
     rw [← e1] at hlast
     constructor
     ·rintro ⟨⟨w, hw1, hw2⟩, h2⟩
      have hwl : w ∈ l := by
       rw [e1] at hw1
       rcases List.mem_append.1 hw1 with q | q
       ·exact q
       ·exact absurd hw2 (hz w q)
      obtain ⟨b0, b1, _⟩ := lastIx_of _ l rfl w hwl
      rw [hw2] at b0 b1
      rw [hlast, e1, rd_T_app b0 b1] at h2
      exact ⟨⟨w, hwl, hw2⟩, h2⟩
     ·rintro ⟨⟨w, hwl, hw2⟩, h2⟩
      obtain ⟨b0, b1, _⟩ := lastIx_of _ l rfl w hwl
      rw [hw2] at b0 b1
      refine ⟨⟨w, by rw [e1]; exact List.mem_append.2 (.inl hwl), hw2⟩, ?_⟩
      rw [hlast, e1, rd_T_app b0 b1]
      exact h2
   rw [hperm.length_eq]
theorem parcel_else (l : List (S138)) (f t : Int) (ts : List Int) (h : Int) (e : (sendParcel l f t ts h).2 = false) : sendParcel l f t ts h = (l, false) := by
 unfold sendParcel at e ⊢
 split
 ·rename_i hp
  rw [if_pos hp] at e
  cases hg : sendGo t h (inHouse l f) l ts with
  | none => rfl
  | some o => rw [hg] at e; cases e
 ·rfl
theorem parcel_chain (l : List (S138)) (f t : Int) (ts : List Int) (h : Int) (hl : l.length ≤ 1048576) (ht : ts.length ≤ 1048576) : isChain (sendParcel l f t ts h).1 = isChain l ∧ l.length ≤ (sendParcel l f t ts h).1.length := by
 cases hq : (sendParcel l f t ts h).2 with
 | false =>
  rw [parcel_else l f t ts h hq]
  exact ⟨rfl, Nat.le_refl _⟩
 | true =>
  have := parcel_facts l (sendParcel l f t ts h).1 f t ts h hl ht (Prod.ext rfl hq)
  exact ⟨by rw [this.1, this.2.1], by rw [this.2.2.1]; omega⟩

/-! impl_SendAll -/
def sendStep (s : List (S138) × Int) (p : S53) : List (S138) × Int :=
 if (sendParcel s.1 p.f0 p.f1 p.f2 p.f3).2 = true then ((sendParcel s.1 p.f0 p.f1 p.f2 p.f3).1, wrap64 (s.2 + 1)) else ((sendParcel s.1 p.f0 p.f1 p.f2 p.f3).1, s.2)
theorem sendStep_len (s : List (S138) × Int) (p : S53) : (sendStep s p).1.length ≤ s.1.length + p.f2.length := by
 have := sendParcel_len s.1 p.f0 p.f1 p.f2 p.f3
 unfold sendStep
 split <;> exact this
theorem impl_SendAll_ev (l : List (S138)) (ps : List (S53)) (hl : l.length ≤ 12) (hp : ps.length ≤ 12) (h12 : ∀ p ∈ ps, p.f2.length ≤ 12) : Ev (fun k => impl_SendAll.f k l ps) (ps.foldl sendStep (l, 0)) := by
 unfold impl_SendAll.f
 simp only [clone_Hand_eq l (by omega), Option.bind_some]
 refine ev_range ps (fun k (s : List (S138) × Int) i => impl_SendAll.l0 k s.1 s.2 ps (ps.length : Int) i) (fun s r => r.foldl sendStep s) (fun p s => s.1.length ≤ 12 + 12 * p.length) (by omega) ?_ ?_ (l, 0) (by simpa using hl)
 ·rintro ⟨s, n⟩ _
  simp only [impl_SendAll.l0, if_neg (Int.lt_irrefl _)]
  exact Ev.now _
 ·rintro pre x rest ⟨s, n⟩ e hlt hget hs ih
  have hr : rd_T53 ps (pre.length : Int) = x := hget _
  have hs' : s.length ≤ 12 + 12 * pre.length := hs
  have hx := h12 x (by rw [e]; simp)
  have hpre : pre.length < 12 := by omega
  have hstep := sendStep_len (s, n) x
  simp only [impl_SendAll.l0, if_pos hlt, if_pos (ge0 pre.length), hr]
  refine Ev.bind (impl_SendParcel_ev s x.f0 x.f1 x.f2 x.f3 (by omega) (by omega)) ?_
  have hI := ih (sendStep (s, n) x) (by simp only [List.length_append, List.length_singleton]; have h2 : (sendStep (s, n) x).1.length ≤ s.length + x.f2.length := hstep; omega)
  rw [List.foldl_cons]
  by_cases h1 : (sendParcel s x.f0 x.f1 x.f2 x.f3).2 = true
  ·simp only [if_pos h1]
   rw [show sendStep (s, n) x = ((sendParcel s x.f0 x.f1 x.f2 x.f3).1, wrap64 (n + 1)) from if_pos h1] at hI ⊢
   exact hI
  ·simp only [if_neg h1]
   rw [show sendStep (s, n) x = ((sendParcel s x.f0 x.f1 x.f2 x.f3).1, n) from if_neg h1] at hI ⊢
   exact hI
theorem sendAll_facts (a : List (S138)) : ∀ (ps : List (S53)) (s : List (S138) × Int) (m : Nat), (∀ p ∈ ps, p.f2.length ≤ 12) → ps.length + m ≤ 12 → s.1.length ≤ 12 + 12 * m → 0 ≤ s.2 → s.2 ≤ (m : Int) → a.length ≤ s.1.length → isChain s.1 = isChain a →
  0 ≤ (ps.foldl sendStep s).2 ∧ (ps.foldl sendStep s).2 ≤ ((m + ps.length : Nat) : Int) ∧ a.length ≤ (ps.foldl sendStep s).1.length ∧ isChain (ps.foldl sendStep s).1 = isChain a ∧ (ps.foldl sendStep s).1.length ≤ 12 + 12 * (m + ps.length)
 | [], s, m, _, _, h1, h2, h3, h4, h5 => ⟨h2, by simpa using h3, h4, h5, by simpa using h1⟩
 | p :: ps, s, m, h12, hm, h1, h2, h3, h4, h5 => by
  simp only [List.length_cons] at hm
  have hx := h12 p (by simp)
  have hlen := sendStep_len s p
  have hc := parcel_chain s.1 p.f0 p.f1 p.f2 p.f3 (by omega) (by omega)
  have hw : wrap64 (s.2 + 1) = s.2 + 1 := w64 (by omega) (by omega)
  have e1 : (sendStep s p).1 = (sendParcel s.1 p.f0 p.f1 p.f2 p.f3).1 := by unfold sendStep; split <;> rfl
  have e2 : (sendStep s p).2 = s.2 + 1 ∨ (sendStep s p).2 = s.2 := by
   unfold sendStep
   split
   ·exact .inl hw
   ·exact .inr rfl
  rw [List.foldl_cons]
  have := sendAll_facts a ps (sendStep s p) (m + 1) (fun q hq => h12 q (by simp [hq])) (by omega) (by omega) (by omega) (by omega) (by rw [e1]; omega) (by rw [e1, hc.1]; exact h5)
  simp only [List.length_cons]
  rw [show m + (ps.length + 1) = m + 1 + ps.length by omega]
  exact this

/-! spec_DrawParcels -/
theorem DrawSendParcel_tot (b : List Int) (hl : b.length ≤ 1048576) : ∃ l f t ts a, Ev (fun k => spec_DrawSendParcel.f k b) (l, f, t, ts, a) ∧ l.length ≤ 12 ∧ ts.length ≤ 12 := by
 obtain ⟨h0, e0⟩ := l1New_tot b hl
 obtain ⟨l, i1, h1, e1, hl1, c1⟩ := l16Any_tot b 0 h0 (cur0 b hl)
 obtain ⟨f, t, ts, a, i2, h2, e2, ht, _⟩ := l22One_tot b i1 h1 l hl1 c1
 refine ⟨l, f, t, ts, a, ?_, hl1, ht⟩
 unfold spec_DrawSendParcel.f
 refine Ev.bind e0 ?_
 refine Ev.bind e1 ?_
 refine Ev.bind e2 ?_
 exact Ev.now _
theorem DrawSendAll_tot (b : List Int) (hl : b.length ≤ 1048576) : ∃ (l : List (S138)) (ps : List (S53)), Ev (fun k => spec_DrawSendAll.f k b) (l, ps) ∧ l.length ≤ 12 ∧ ps.length ≤ 4 ∧ ∀ p ∈ ps, p.f2.length ≤ 12 := by
 obtain ⟨h0, e0⟩ := l1New_tot b hl
 obtain ⟨l, i1, h1, e1, hl1, c1⟩ := l16Any_tot b 0 h0 (cur0 b hl)
 obtain ⟨n, i2, h2, e2, hn0, hn, c2⟩ := l1Below_tot b i1 h1 4 c1
 have hn := hn (by omega)
 have key : ∀ (m : Nat) (ps : List (S53)) (i h : Int), ps.length + m ≤ 4 → (∀ p ∈ ps, p.f2.length ≤ 12) → Cur b i → ∃ ps', Ev (fun k => spec_DrawSendAll.l0 k l ps (m : Int) b i h) (l, ps') ∧ ps'.length ≤ 4 ∧ ∀ p ∈ ps', p.f2.length ≤ 12 := by
  intro m
  induction m with
  | zero =>
   intro ps i h hm hp hc
   refine ⟨ps, ev_succ ?_, by omega, hp⟩
   simp only [spec_DrawSendAll.l0, Int.natCast_zero, gt_iff_lt, Int.lt_irrefl, if_false]
   exact Ev.now _
  | succ m ih =>
   intro ps i h hm hp hc
   obtain ⟨f, t, ts, a, i3, h3, e3, ht, c3⟩ := l22One_tot b i h l hl1 hc
   obtain ⟨ps', e, h4, h5⟩ := ih (ps ++ [⟨f, t, ts, a⟩]) i3 h3 (by simp; omega) (by
    intro p q
    rcases List.mem_append.1 q with q | q
    ·exact hp p q
    ·rw [List.mem_singleton.1 q]; exact ht) c3
   refine ⟨ps', ev_succ ?_, h4, h5⟩
   simp only [spec_DrawSendAll.l0, if_pos (show ((m + 1 : Nat) : Int) > 0 by omega)]
   refine Ev.bind e3 ?_
   simp only [if_pos (show ps.length < 2932031007402 by omega), w64 (x := ((m + 1 : Nat) : Int) - 1) (by omega) (by omega), show ((m + 1 : Nat) : Int) - 1 = (m : Int) by omega, w64 (x := (m : Int)) (by omega) (by omega)]
   exact e
 obtain ⟨ps, e, h4, h5⟩ := key n.toNat [] i2 h2 (by simp; omega) (by simp) c2
 refine ⟨l, ps, ?_, hl1, h4, h5⟩
 unfold spec_DrawSendAll.f
 refine Ev.bind e0 ?_
 refine Ev.bind e1 ?_
 simp only [e2, Option.bind_some]
 rw [show ((n.toNat : Nat) : Int) = n by omega] at e
 exact e

/-! the law -/
theorem pa_j2 (code : List Int) (hl : code.length ≤ 1048576) : Ev (fun k => laws_FnParcels.j2 k code) true := by
 obtain ⟨a, ps, e1, ha, hp, h12⟩ := DrawSendAll_tot code hl
 obtain ⟨f1, f2, f3, f4, f5⟩ := sendAll_facts a ps (a, 0) 0 h12 (by omega) (by simpa using ha) (Int.le_refl _) (Int.le_refl _) (Nat.le_refl _) rfl
 rw [Nat.zero_add] at f2 f5
 refine ev_succ ?_
 simp only [laws_FnParcels.j2]
 refine Ev.bind e1 ?_
 refine Ev.bind (impl_SendAll_ev a ps ha (by omega) h12) ?_
 simp only [if_pos f1, if_pos f2, ge_iff_le, if_pos (show (a.length : Int) ≤ ((ps.foldl sendStep (a, 0)).1.length : Int) by omega)]
 refine Ev.bind (impl_IsChain_ev _ (by omega)) ?_
 refine Ev.bind (impl_IsChain_ev a (by omega)) ?_
 exact ev_const (by rw [f4]; simp)
theorem pa_l0 (code : List Int) (hl : code.length ≤ 1048576) (y : List (S138)) (b : List Int) (f t : Int) (ts : List Int) (h : Int) (hy : y.length ≤ 1048576) (hb : b.length ≤ 1048576) (ht : ts.length ≤ 1048576) (h1 : ∀ x ∈ ts, x ∉ b) (h2 : ∀ x ∈ ts, f ∈ housesOf y x) :
  Ev (fun k => laws_FnParcels.l0 k code y b 0 f t ts h) true := by
 have hj := pa_j2 code hl
 refine ev_range ts (fun k (_ : Unit) i => laws_FnParcels.l0 k code y b i f t ts h) (fun _ _ => true) (fun _ _ => True) (by omega) ?_ ?_ () trivial
 ·intro _ _
  simp only [laws_FnParcels.l0, if_neg (Int.lt_irrefl _)]
  exact hj
 ·rintro pre x rest _ e hlt hget _ ih
  have hr : rd ts (pre.length : Int) = x := hget _
  have hx : x ∈ ts := by rw [e]; simp
  have hb' : b.any (fun z => decide (z = x)) = false := by
   cases q : b.any (fun z => decide (z = x)) with
   | false => rfl
   | true => exact absurd ((has_iff b x).1 q) (h1 x hx)
  have hh : (housesOf y x).any (fun z => decide (z = f)) = true := (has_iff _ f).2 (h2 x hx)
  have hlen := housesOf_len y x
  simp only [laws_FnParcels.l0, if_pos hlt, if_pos (ge0 pre.length), hr]
  refine Ev.bind (laws_contains_ev b x (by omega)) ?_
  simp only [hb', Bool.false_eq_true, if_false]
  refine Ev.bind (impl_HousesOf_ev y x (by omega)) ?_
  refine Ev.bind (laws_contains_ev (housesOf y x) f (by omega)) ?_
  simp only [hh, if_true]
  exact ih () trivial
theorem Pf.FnParcels : FnParcelsLaw := by
 intro code hm _
 refine Ev.rounds ?_
 unfold laws_FnParcels.f
 simp only [laws_big.f, Option.bind_some]
 by_cases hl' : (code.length : Int) > 1048576
 ·simp only [decide_eq_true hl', if_true]
  exact Ev.now _
 have hl : code.length ≤ 1048576 := by omega
 simp only [decide_eq_false hl', Bool.false_eq_true, if_false]
 obtain ⟨l, f, t, ts, h, e1, hl12, ht12⟩ := DrawSendParcel_tot code hl
 refine Ev.bind e1 ?_
 refine Ev.bind (impl_SendParcel_ev l f t ts h (by omega) (by omega)) ?_
 cases hok : (sendParcel l f t ts h).2 with
 | false =>
  have e := parcel_else l f t ts h hok
  simp only [e, Bool.false_eq_true, if_false, if_true]
  exact pa_j2 code hl
 | true =>
  obtain ⟨y, hy⟩ : ∃ y, y = (sendParcel l f t ts h).1 := ⟨_, rfl⟩
  have e : sendParcel l f t ts h = (y, true) := Prod.ext hy.symm hok
  obtain ⟨c1, c2, c3, c4, c5, c6, c7⟩ := parcel_facts l y f t ts h (by omega) (by omega) e
  have hi1 := inHouse_len y t
  have hi2 := inHouse_len y f
  simp only [e, if_true]
  refine Ev.bind (impl_InHouse_ev y t (by omega)) ?_
  refine Ev.bind (impl_InHouse_ev y f (by omega)) ?_
  refine Ev.bind (impl_IsChain_ev y (by omega)) ?_
  simp only [c2, if_true, w64 (x := (l.length : Int) + (ts.length : Int)) (by omega) (by omega), if_pos (show (y.length : Int) = (l.length : Int) + (ts.length : Int) by omega)]
  refine Ev.bind (laws_within_true ts _ (by omega) (by omega) c4) ?_
  simp only [if_true]
  refine Ev.bind (impl_CountIn_ev y (by omega)) ?_
  refine Ev.bind (impl_CountIn_ev l (by omega)) ?_
  simp only [c7, bne_self_eq_false]
  refine ev_succ ?_
  simp only [laws_FnParcels.j0, Bool.false_eq_true, if_false]
  exact pa_l0 code hl y _ f t ts h (by omega) (by omega) (by omega) c5 c6

end Go.Proofs.Ytejhjenlodclpaa.PFnParcels
