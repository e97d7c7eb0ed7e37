/- The plain part of FnFates: what the printed functions come to, and that the law's answer is true. No conditions beyond those of the statement. -/
import Derived.Test.YtfoallhhdilgjaaPFnFatesx
import Derived.Test.YtfoallhhdilgjaaBaseFnFates
import Derived.Test.YtfoallhhdilgjaaDefFnFates
/- narrow -/
namespace Go.Proofs.Ytfoallhhdilgjaa.PFnFates
open Go.RowKit Go.Proofs.YtfoallhhdilgjaaW.PrintWords Go.Proofs.YtfoallhhdilgjaaW.PrintMore Go.Proofs.Ytfoallhhdilgjaa.Base
set_option linter.unusedVariables false
set_option linter.unusedSimpArgs false

/-! fateName -/
def fateText (a : Int) : ByteArray := if a < 0 then ⟨#[]⟩ else if a ≥ 6 then ⟨#[]⟩ else rdOf ByteArray.empty fateNames a

/-! impl_FateName -/
theorem impl_FateName_eq (a : Int) : impl_FateName.f a = some (fateText a) := rfl

/-! cursor -/
theorem i64_and255 (n : Int) : bits .and .i64 n 255 = n % 256 := by
 have h255 : (BitVec.ofInt 64 255).toNat = 2 ^ 8 - 1 := by decide
 have key : (BitVec.ofInt 64 n &&& BitVec.ofInt 64 255).toNat = (n % ((2 ^ 64 : Nat) : Int)).toNat % 2 ^ 8 := by
  rw [BitVec.toNat_and, BitVec.toNat_ofInt, h255, Nat.and_two_pow_sub_one_eq_mod]
 show IntKind.i64.wrap ((BitVec.ofInt 64 n &&& BitVec.ofInt 64 255).toNat : Nat) = n % 256
 rw [key, IntKind.wrap_i64]
 omega
/-- A cursor over the bytes b stands at place i. -/
def Cur (b : List Int) (i : Int) : Prop := b.length ≤ 1048576 ∧ 0 ≤ i ∧ i ≤ (b.length : Int)

/-! spec_l1New -/
theorem l1New_tot (b : List Int) (hl : b.length ≤ 1048576) : ∃ h, Ev (fun k => spec_l1New.f k b) (b, 0, h) := by
 have key : ∀ (d i : Nat) (h : Int), i + d = b.length → ∃ h', Ev (fun k => spec_l1New.l0 k b h (i : Int)) (b, 0, h') := by
  intro d
  induction d with
  | zero =>
   intro i h hi
   refine ⟨h, ev_succ ?_⟩
   simp only [spec_l1New.l0, if_neg (show ¬ (i : Int) < (b.length : Int) by omega)]
   exact Ev.now _
  | succ d ih =>
   intro i h hi
   by_cases h4 : (i : Int) < 4000
   ·obtain ⟨h', e⟩ := ih (i + 1) (bits .and .i64 (wrap64 (wrap64 (wrap64 (h * 137) + wrap64 (rd b i)) + 11)) 1073741823) (by omega)
    refine ⟨h', ev_succ ?_⟩
    simp only [spec_l1New.l0, if_pos (show (i : Int) < (b.length : Int) by omega), if_pos h4, if_pos (ge0 i), wsucc (show i < 9223372036854775807 by omega)]
    exact e
   ·refine ⟨h, ev_succ ?_⟩
    simp only [spec_l1New.l0, if_pos (show (i : Int) < (b.length : Int) by omega), if_neg h4]
    exact Ev.now _
 exact key b.length 0 _ (by omega)
theorem cur0 (b : List Int) (hl : b.length ≤ 1048576) : Cur b 0 := ⟨hl, by omega, by omega⟩

/-! spec_l1Byte -/
theorem l1Byte_tot (b : List Int) (i h : Int) (hc : Cur b i) : ∃ x i' h', spec_l1Byte.f b i h = some (x, i', h') ∧ 0 ≤ x ∧ x < 256 ∧ Cur b i' := by
 obtain ⟨h1, h2, h3⟩ := hc
 unfold spec_l1Byte.f
 by_cases hi : i < (b.length : Int)
 ·rw [if_pos hi, if_pos h2]
  refine ⟨_, _, _, rfl, ?_, ?_, h1, ?_⟩
  ·rw [i64_and255 (wrap64 _)]
   omega
  ·rw [i64_and255 (wrap64 _)]
   omega
  ·rw [w64 (by omega) (by omega)]
   omega
 ·rw [if_neg hi]
  refine ⟨_, _, _, rfl, ?_, ?_, h1, h2, h3⟩
  ·rw [i64_and255]
   omega
  ·rw [i64_and255]
   omega

/-! spec_l1Below -/
theorem l1Below_tot (b : List Int) (i h n : Int) (hc : Cur b i) : ∃ x i' h', spec_l1Below.f b i h n = some (x, i', h') ∧ 0 ≤ x ∧ (0 < n → x < n) ∧ Cur b i' := by
 unfold spec_l1Below.f
 by_cases hn : n ≤ 0
 ·rw [if_pos hn]
  exact ⟨_, _, _, rfl, by omega, fun h => by omega, hc⟩
 ·rw [if_neg hn]
  by_cases h256 : n ≤ 256
  ·rw [if_pos h256]
   obtain ⟨x, i1, h1, e1, hx0, hx1, c1⟩ := l1Byte_tot b i h hc
   simp only [e1, Option.bind_some, if_neg (show ¬ n = 0 by omega)]
   exact ⟨_, _, _, rfl, Int.tmod_nonneg _ hx0, fun h => Int.tmod_lt_of_pos _ h, c1⟩
  ·rw [if_neg h256]
   obtain ⟨x, i1, h1, e1, hx0, hx1, c1⟩ := l1Byte_tot b i h hc
   obtain ⟨y, i2, h2, e2, hy0, hy1, c2⟩ := l1Byte_tot b i1 h1 c1
   obtain ⟨z, i3, h3, e3, hz0, hz1, c3⟩ := l1Byte_tot b i2 h2 c2
   simp only [e1, e2, e3, Option.bind_some, if_neg (show ¬ n = 0 by omega)]
   refine ⟨_, _, _, rfl, Int.tmod_nonneg _ ?_, fun h => Int.tmod_lt_of_pos _ h, c3⟩
   rw [w64 (x := x * 65536) (by omega) (by omega), w64 (x := y * 256) (by omega) (by omega), w64 (x := x * 65536 + y * 256) (by omega) (by omega), w64 (by omega) (by omega)]
   omega

/-! spec_l1Int -/
theorem l1Int_tot (b : List Int) (i h : Int) (l : List Int) (hl : 0 < l.length) (hc : Cur b i) : ∃ x i' h', spec_l1Int.f b i h l = some (x, i', h') ∧ x ∈ l ∧ Cur b i' := by
 obtain ⟨x, i1, h1, e1, hx0, hx1, c1⟩ := l1Below_tot b i h (l.length : Int) hc
 have hx := hx1 (by omega)
 unfold spec_l1Int.f
 simp only [e1, Option.bind_some, if_pos hx0, if_pos hx]
 refine ⟨_, _, _, rfl, ?_, c1⟩
 unfold rd
 rw [List.getD_eq_getElem?_getD, List.getElem?_eq_getElem (by omega)]
 exact List.getElem_mem _

/-! spec_l4Raw -/
theorem l4Raw_tot (b : List Int) (i h : Int) (hc : Cur b i) : ∃ x i' h', spec_l4Raw.f b i h = some (x, i', h') ∧ Cur b i' := by
 obtain ⟨x, i1, h1, e1, _, c1⟩ := l1Int_tot b i h [(-1), 0, 8, 50, 51, 1000, 9223372036854775807, (-9223372036854775808)] (by decide) hc
 unfold spec_l4Raw.f
 simp only [e1, Option.bind_some]
 exact ⟨_, _, _, rfl, c1⟩

/-! spec_l4Draw -/
theorem l4Draw_tot (b : List Int) (i h id : Int) (hc : Cur b i) : ∃ x0 x1 x2 x3 x4 i' h', spec_l4Draw.f b i h id = some (x0, x1, x2, x3, x4, i', h') ∧ Cur b i' := by
 obtain ⟨a1, i1, h1, e1, _, _, c1⟩ := l1Below_tot b i h 8 hc
 obtain ⟨a2, i2, h2, e2, _, _, c2⟩ := l1Below_tot b i1 h1 8 c1
 obtain ⟨a3, i3, h3, e3, _, _, c3⟩ := l1Below_tot b i2 h2 20 c2
 obtain ⟨a4, i4, h4, e4, _, _, c4⟩ := l1Below_tot b i3 h3 500 c3
 unfold spec_l4Draw.f
 simp only [e1, e2, e3, e4, Option.bind_some]
 exact ⟨_, _, _, _, _, _, _, rfl, c4⟩

/-! spec_l6Draw -/
theorem l6Draw_tot (b : List Int) (i h id : Int) (hc : Cur b i) : ∃ x0 x1 x2 x3 x4 x5 x6 x7 i' h', spec_l6Draw.f b i h id = some (x0, x1, x2, x3, x4, x5, x6, x7, i', h') ∧ Cur b i' := by
 obtain ⟨x0, x1, x2, x3, x4, i1, h1, e1, c1⟩ := l4Draw_tot b i h id hc
 obtain ⟨a2, i2, h2, e2, _, _, c2⟩ := l1Below_tot b i1 h1 6 c1
 obtain ⟨a3, i3, h3, e3, _, _, c3⟩ := l1Below_tot b i2 h2 80 c2
 obtain ⟨a4, i4, h4, e4, _, _, c4⟩ := l1Below_tot b i3 h3 5 c3
 unfold spec_l6Draw.f
 simp only [e1, e2, e3, e4, Option.bind_some]
 exact ⟨_, _, _, _, _, _, _, _, _, _, rfl, c4⟩

/-! spec_l6List -/
theorem l6List_tot (b : List Int) (i h : Int) (hc : Cur b i) : ∃ l i' h', Ev (fun k => spec_l6List.f k b i h) (l, i', h') ∧ l.length ≤ 8 ∧ Cur b i' := by
 have key : ∀ (m : Nat) (l : List (S29)) (x : Nat) (i h : Int), x + m = 8 → l.length + 1 ≤ x → Cur b i → ∃ l' i' h', Ev (fun k => spec_l6List.l0 k l (x : Int) b i h) (l', i', h') ∧ l'.length ≤ 8 ∧ Cur b i' := by
  intro m
  induction m with
  | zero =>
   intro l x i h hx hl hc
   obtain ⟨y, i1, h1, e1, _, hy, c1⟩ := l1Below_tot b i h 8 hc
   have := hy (by omega)
   refine ⟨l, i1, h1, ev_succ ?_, by omega, c1⟩
   simp only [spec_l6List.l0, e1, Option.bind_some, if_neg (show ¬ (x : Int) ≤ y by omega)]
   exact Ev.now _
  | succ m ih =>
   intro l x i h hx hl hc
   obtain ⟨y, i1, h1, e1, _, hy, c1⟩ := l1Below_tot b i h 8 hc
   by_cases hxy : (x : Int) ≤ y
   ·obtain ⟨x0, x1, x2, x3, x4, x5, x6, x7, i2, h2, e2, c2⟩ := l6Draw_tot b i1 h1 (wrap64 (2 * (x : Int))) c1
    obtain ⟨l', i', h', e, hl', c'⟩ := ih (l ++ [⟨⟨x0, x1, x2, x3, x4⟩, x5, x6, x7⟩]) (x + 1) i2 h2 (by omega) (by simp; omega) c2
    refine ⟨l', i', h', ev_succ ?_, hl', c'⟩
    simp only [spec_l6List.l0, e1, e2, Option.bind_some, if_pos hxy, if_pos (show l.length < 2199023255552 by omega), wsucc (show x < 9223372036854775807 by omega)]
    exact e
   ·refine ⟨l, i1, h1, ev_succ ?_, by omega, c1⟩
    simp only [spec_l6List.l0, e1, Option.bind_some, if_neg hxy]
    exact Ev.now _
 exact key 7 [] 1 i h (by omega) (by simp) hc

/-! spec_l4Any -/
theorem l4Any_tot (b : List Int) (i h : Int) (hc : Cur b i) : ∃ x0 x1 x2 x3 x4 i' h', spec_l4Any.f b i h = some (x0, x1, x2, x3, x4, i', h') ∧ Cur b i' := by
 obtain ⟨a1, i1, h1, e1, _, _, c1⟩ := l1Below_tot b i h 40 hc
 obtain ⟨x0, x1, x2, x3, x4, i2, h2, e2, c2⟩ := l4Draw_tot b i1 h1 (wrap64 (1 + a1)) c1
 obtain ⟨a3, i3, h3, e3, _, _, c3⟩ := l1Below_tot b i2 h2 14 c2
 unfold spec_l4Any.f
 simp only [e1, e2, e3, Option.bind_some]
 split
 ·obtain ⟨y, i4, h4, e4, _, c4⟩ := l1Int_tot b i3 h3 [0, 999, 1000] (by decide) c3
  simp only [e4, Option.bind_some]
  exact ⟨_, _, _, _, _, _, _, rfl, c4⟩
 split
 ·obtain ⟨y, i4, h4, e4, _, c4⟩ := l1Int_tot b i3 h3 [0, 8, 9] (by decide) c3
  simp only [e4, Option.bind_some]
  exact ⟨_, _, _, _, _, _, _, rfl, c4⟩
 split
 ·obtain ⟨y, i4, h4, e4, _, c4⟩ := l1Int_tot b i3 h3 [(-1), 7, 8] (by decide) c3
  simp only [e4, Option.bind_some]
  exact ⟨_, _, _, _, _, _, _, rfl, c4⟩
 split
 ·obtain ⟨y, i4, h4, e4, c4⟩ := l4Raw_tot b i3 h3 c3
  simp only [e4, Option.bind_some]
  exact ⟨_, _, _, _, _, _, _, rfl, c4⟩
 split
 ·obtain ⟨y, i4, h4, e4, _, c4⟩ := l1Int_tot b i3 h3 [(-1), 10000000, 10000001] (by decide) c3
  simp only [e4, Option.bind_some]
  exact ⟨_, _, _, _, _, _, _, rfl, c4⟩
 ·exact ⟨_, _, _, _, _, _, _, rfl, c3⟩

/-! spec_l6Any -/
theorem l6Any_tot (b : List Int) (i h : Int) (hc : Cur b i) : ∃ l i' h', Ev (fun k => spec_l6Any.f k b i h) (l, i', h') ∧ l.length ≤ 8 ∧ Cur b i' := by
 obtain ⟨l, i1, h1, e1, hl, c1⟩ := l6List_tot b i h hc
 unfold spec_l6Any.f
 by_cases h0 : (l.length : Int) = 0
 ·refine ⟨l, i1, h1, Ev.bind e1 ?_, hl, c1⟩
  simp only [if_pos h0]
  exact Ev.now _
 ·obtain ⟨p, i2, h2, e2, hp0, hp1, c2⟩ := l1Below_tot b i1 h1 (l.length : Int) c1
  have hp := hp1 (by omega)
  obtain ⟨a, i3, h3, e3, _, _, c3⟩ := l1Below_tot b i2 h2 12 c2
  by_cases q0 : a = 0
  ·obtain ⟨x0, x1, x2, x3, x4, i4, h4, e4, c4⟩ := l4Any_tot b i3 h3 c3
   refine ⟨l.set p.toNat ⟨⟨x0, x1, x2, x3, x4⟩, (rd_T29 l p).f1, (rd_T29 l p).f2, (rd_T29 l p).f3⟩, i4, h4, Ev.bind e1 ?_, by rw [List.length_set]; exact hl, c4⟩
   simp only [if_neg h0, e2, e3, e4, Option.bind_some, if_pos q0, if_pos hp0, if_pos hp]
   exact Ev.now _
  by_cases q1 : a = 1
  ·obtain ⟨y, i4, h4, e4, _, c4⟩ := l1Int_tot b i3 h3 [0, 30, 31] (by decide) c3
   refine ⟨l.set p.toNat ⟨⟨(rd_T29 l p).f0.f0, (rd_T29 l p).f0.f1, (rd_T29 l p).f0.f2, (rd_T29 l p).f0.f3, (rd_T29 l p).f0.f4⟩, y, (rd_T29 l p).f2, (rd_T29 l p).f3⟩, i4, h4, Ev.bind e1 ?_, by rw [List.length_set]; exact hl, c4⟩
   simp only [if_neg h0, e2, e3, e4, Option.bind_some, if_neg q0, if_pos q1, if_pos hp0, if_pos hp]
   exact Ev.now _
  by_cases q2 : a = 2
  ·obtain ⟨y, i4, h4, e4, c4⟩ := l4Raw_tot b i3 h3 c3
   refine ⟨l.set p.toNat ⟨⟨(rd_T29 l p).f0.f0, (rd_T29 l p).f0.f1, (rd_T29 l p).f0.f2, (rd_T29 l p).f0.f3, (rd_T29 l p).f0.f4⟩, (rd_T29 l p).f1, y, (rd_T29 l p).f3⟩, i4, h4, Ev.bind e1 ?_, by rw [List.length_set]; exact hl, c4⟩
   simp only [if_neg h0, e2, e3, e4, Option.bind_some, if_neg q0, if_neg q1, if_pos q2, if_pos hp0, if_pos hp]
   exact Ev.now _
  by_cases q3 : a = 3
  ·obtain ⟨y, i4, h4, e4, _, c4⟩ := l1Int_tot b i3 h3 [(-1), 999, 1000] (by decide) c3
   refine ⟨l.set p.toNat ⟨⟨(rd_T29 l p).f0.f0, (rd_T29 l p).f0.f1, (rd_T29 l p).f0.f2, (rd_T29 l p).f0.f3, (rd_T29 l p).f0.f4⟩, (rd_T29 l p).f1, (rd_T29 l p).f2, y⟩, i4, h4, Ev.bind e1 ?_, by rw [List.length_set]; exact hl, c4⟩
   simp only [if_neg h0, e2, e3, e4, Option.bind_some, if_neg q0, if_neg q1, if_neg q2, if_pos q3, if_pos hp0, if_pos hp]
   exact Ev.now _
  ·refine ⟨l, i3, h3, Ev.bind e1 ?_, hl, c3⟩
   simp only [if_neg h0, e2, e3, Option.bind_some, if_neg q0, if_neg q1, if_neg q2, if_neg q3]
   exact Ev.now _

/-! spec_l6One -/
theorem l6One_tot (b : List Int) (i h : Int) (hc : Cur b i) : ∃ x0 x1 x2 x3 x4 x5 x6 x7 i' h', Ev (fun k => spec_l6One.f k b i h) (x0, x1, x2, x3, x4, x5, x6, x7, i', h') ∧ Cur b i' := by
 obtain ⟨l, i1, h1, e1, hl, c1⟩ := l6Any_tot b i h hc
 unfold spec_l6One.f
 by_cases h0 : (l.length : Int) = 0
 ·refine ⟨0, 0, 0, 0, 0, 0, 0, 0, i1, h1, Ev.bind e1 ?_, c1⟩
  simp only [if_pos h0]
  exact Ev.now _
 ·refine ⟨(rd_T29 l 0).f0.f0, (rd_T29 l 0).f0.f1, (rd_T29 l 0).f0.f2, (rd_T29 l 0).f0.f3, (rd_T29 l 0).f0.f4, (rd_T29 l 0).f1, (rd_T29 l 0).f2, (rd_T29 l 0).f3, i1, h1, Ev.bind e1 ?_, c1⟩
  ·simp only [if_neg h0, if_pos (show (0 : Int) < (l.length : Int) by omega)]
   exact Ev.now _

/-! spec_l1In -/
theorem spec_l1In_eq (a b c : Int) : spec_l1In.f a b c = some (inr a b c) := by
 unfold spec_l1In.f inr
 by_cases h : b ≤ a <;> simp [h]

/-! type_38 -/
theorem rd_T38_pre (pre : List (S38)) (x : S38) (rest : List (S38)) : rd_T38 (pre ++ x :: rest) (pre.length : Int) = x := getD_pre pre x rest z38

/-! spec_AreClaims -/
theorem AreClaims_tot (l : List (S38)) (hl : l.length ≤ 1048576) : ∃ r, Ev (fun k => spec_AreClaims.f k l) r := by
 have inner : ∀ (i : Nat) (a b c d e : Int), i < l.length → (∃ r, Ev (fun k => spec_AreClaims.l0 k l ((i + 1 : Nat) : Int)) r) → ∀ m j : Nat, j + m = i → ∃ r, Ev (fun k => spec_AreClaims.l1 k l (i : Int) (j : Int) a b c d e) r := by
  intro i a b c d e hi ⟨r, hr⟩ m
  induction m with
  | zero =>
   intro j hj
   refine ⟨r, ev_succ ?_⟩
   simp only [spec_AreClaims.l1, if_neg (show ¬ (j : Int) < (i : Int) by omega), wsucc (show i < 9223372036854775807 by omega)]
   exact hr
  | succ m ih =>
   intro j hj
   obtain ⟨r', hr'⟩ := ih (j + 1) (by omega)
   have h1 : (j : Int) < (i : Int) := by omega
   have h2 : (j : Int) < (l.length : Int) := by omega
   have hw := wsucc (show j < 9223372036854775807 by omega)
   by_cases q1 : e = 3
   ·by_cases q2 : (rd_T38 l (j : Int)).f4 = 3
    ·by_cases q3 : (rd_T38 l (j : Int)).f2 = c
     ·refine ⟨false, ev_succ ?_⟩
      simp only [spec_AreClaims.l1, if_pos h1, if_pos q1, if_pos (ge0 j), if_pos h2, if_pos q2, if_pos q3]
      exact Ev.now _
     ·refine ⟨r', ev_succ ?_⟩
      simp only [spec_AreClaims.l1, if_pos h1, if_pos q1, if_pos (ge0 j), if_pos h2, if_pos q2, if_neg q3, hw]
      exact hr'
    ·refine ⟨r', ev_succ ?_⟩
     simp only [spec_AreClaims.l1, if_pos h1, if_pos q1, if_pos (ge0 j), if_pos h2, if_neg q2, hw]
     exact hr'
   ·refine ⟨r', ev_succ ?_⟩
    simp only [spec_AreClaims.l1, if_pos h1, if_neg q1, hw]
    exact hr'
 have key : ∀ (m i : Nat), i + m = l.length → ∃ r, Ev (fun k => spec_AreClaims.l0 k l (i : Int)) r := by
  intro m
  induction m with
  | zero =>
   intro i hi
   refine ⟨_, ev_succ (r := decide ((l.length : Int) ≤ 20)) ?_⟩
   simp only [spec_AreClaims.l0, if_neg (show ¬ (i : Int) < (l.length : Int) by omega)]
   exact Ev.now _
  | succ m ih =>
   intro i hi
   have h1 : (i : Int) < (l.length : Int) := by omega
   obtain ⟨x, hx⟩ : ∃ x, x = rd_T38 l (i : Int) := ⟨_, rfl⟩
   have jj : ∀ q : Bool, ∃ r, Ev (fun k => spec_AreClaims.j1 k l (i : Int) q x.f0 x.f1 x.f2 x.f3 x.f4) r := by
    intro q
    cases q with
    | true =>
     refine ⟨false, ev_succ ?_⟩
     simp only [spec_AreClaims.j1, if_true]
     exact Ev.now _
    | false =>
     obtain ⟨r, hr⟩ := inner i x.f0 x.f1 x.f2 x.f3 x.f4 (by omega) (ih (i + 1) (by omega)) i 0 (by omega)
     refine ⟨r, ev_succ ?_⟩
     simp only [spec_AreClaims.j1, Bool.false_eq_true, if_false]
     exact hr
   obtain ⟨rt, ht⟩ := jj true
   by_cases c0 : inr x.f0 1 999 = true
   rotate_left
   ·exact ⟨rt, ev_succ (by simp only [spec_AreClaims.l0, if_pos h1, if_pos (ge0 i), ← hx, spec_l1In_eq, Option.bind_some, if_neg c0]; exact ht)⟩
   by_cases c1 : inr x.f1 1 999 = true
   rotate_left
   ·exact ⟨rt, ev_succ (by simp only [spec_AreClaims.l0, if_pos h1, if_pos (ge0 i), ← hx, spec_l1In_eq, Option.bind_some, if_pos c0, if_neg c1]; exact ht)⟩
   by_cases c2 : inr x.f2 1 999 = true
   rotate_left
   ·exact ⟨rt, ev_succ (by simp only [spec_AreClaims.l0, if_pos h1, if_pos (ge0 i), ← hx, spec_l1In_eq, Option.bind_some, if_pos c0, if_pos c1, if_neg c2]; exact ht)⟩
   by_cases c3 : inr x.f3 0 100000 = true
   rotate_left
   ·exact ⟨rt, ev_succ (by simp only [spec_AreClaims.l0, if_pos h1, if_pos (ge0 i), ← hx, spec_l1In_eq, Option.bind_some, if_pos c0, if_pos c1, if_pos c2, if_neg c3]; exact ht)⟩
   by_cases c4 : inr x.f4 0 3 = true
   rotate_left
   ·exact ⟨rt, ev_succ (by simp only [spec_AreClaims.l0, if_pos h1, if_pos (ge0 i), ← hx, spec_l1In_eq, Option.bind_some, if_pos c0, if_pos c1, if_pos c2, if_pos c3, if_neg c4]; exact ht)⟩
   by_cases c5 : (i : Int) > 0
   rotate_left
   ·obtain ⟨rf, hf⟩ := jj false
    exact ⟨rf, ev_succ (by simp only [spec_AreClaims.l0, if_pos h1, if_pos (ge0 i), ← hx, spec_l1In_eq, Option.bind_some, if_pos c0, if_pos c1, if_pos c2, if_pos c3, if_pos c4, if_neg c5]; exact hf)⟩
   obtain ⟨rq, hq⟩ := jj (decide ((rd_T38 l (wrap64 ((i : Int) - 1))).f0 ≥ x.f0))
   have w1 : wrap64 ((i : Int) - 1) = (i : Int) - 1 := w64 (by omega) (by omega)
   have w2 : (0 : Int) ≤ wrap64 ((i : Int) - 1) := by omega
   have w3 : wrap64 ((i : Int) - 1) < (l.length : Int) := by omega
   exact ⟨rq, ev_succ (by simp only [spec_AreClaims.l0, if_pos h1, if_pos (ge0 i), ← hx, spec_l1In_eq, Option.bind_some, if_pos c0, if_pos c1, if_pos c2, if_pos c3, if_pos c4, if_pos c5, if_pos w2, if_pos w3]; exact hq)⟩
 exact key l.length 0 (by omega)

/-! spec_AddClaim -/
theorem AddClaim_tot (l : List (S38)) (a b c d e : Int) (hl : l.length ≤ 1048575) : ∃ r ok, Ev (fun k => spec_AddClaim.f k l a b c d e) (r, ok) ∧ r.length ≤ l.length + 1 := by
 have fin : ∀ (p : Nat) (q : Bool), p ≤ l.length → ∃ r ok, Ev (fun k => spec_AddClaim.l0 k l (p : Int) q (l.length : Int) a b c d e) (r, ok) ∧ r.length ≤ l.length + 1 := by
  intro p q hp
  obtain ⟨o, ho⟩ : ∃ o, o = l.take p ++ [(⟨a, b, c, d, e⟩ : S38)] ++ l.drop p := ⟨_, rfl⟩
  have hol : o.length = l.length + 1 := by
   rw [ho]
   simp only [List.length_append, List.length_take, List.length_drop, List.length_singleton]
   omega
  obtain ⟨v, hv⟩ := AreClaims_tot o (by omega)
  have n1 : (l.take p).length < 3518437208883 := by rw [List.length_take]; omega
  have n2 : (l.take p ++ [(⟨a, b, c, d, e⟩ : S38)]).length + (l.drop p).length < 3518437208883 := by
   have := hol
   rw [ho, List.length_append] at this
   omega
  have n3 : (l.take p).length + [(⟨a, b, c, d, e⟩ : S38)].length < 3518437208883 := by
   rw [List.length_append] at n2
   omega
  have n4 : l.length < 3518437208883 := by omega
  have base : ∀ k, spec_AddClaim.l0 (k + 1) l (p : Int) q (l.length : Int) a b c d e = if q = true then some (l, false) else ((spec_AreClaims.f k o).bind fun t => (if t = true then some (o, true) else some (l, false))) := fun k => by
   simp only [spec_AddClaim.l0, if_neg (Int.lt_irrefl _), Option.bind_some, List.nil_append, List.length_nil, Nat.zero_add, Int.toNat_natCast, if_pos (ge0 p), if_pos (show (p : Int) ≤ (l.length : Int) by omega), if_pos n1, if_pos n2, if_pos n3, if_pos n4, ← ho]
  cases q with
  | true =>
   refine ⟨l, false, ev_succ ?_, by omega⟩
   simp only [base, if_true]
   exact Ev.now _
  | false =>
   cases v with
   | true =>
    refine ⟨o, true, ev_succ ?_, by omega⟩
    simp only [base, Bool.false_eq_true, if_false]
    refine Ev.bind hv ?_
    simp only [if_true]
    exact Ev.now _
   | false =>
    refine ⟨l, false, ev_succ ?_, by omega⟩
    simp only [base, Bool.false_eq_true, if_false]
    refine Ev.bind hv ?_
    simp only [Bool.false_eq_true, if_false]
    exact Ev.now _
 have key : ∀ (m i p : Nat) (q : Bool), i + m = l.length → p ≤ i → ∃ r ok, Ev (fun k => spec_AddClaim.l0 k l (p : Int) q (i : Int) a b c d e) (r, ok) ∧ r.length ≤ l.length + 1 := by
  intro m
  induction m with
  | zero =>
   intro i p q hi hp
   rw [show i = l.length by omega]
   exact fin p q (by omega)
  | succ m ih =>
   intro i p q hi hp
   have h1 : (i : Int) < (l.length : Int) := by omega
   have hw := wsucc (show i < 9223372036854775807 by omega)
   have go : ∀ q' : Bool, ∃ r ok, Ev (fun k => if (rd_T38 l (i : Int)).f0 < a then spec_AddClaim.l0 k l ((i + 1 : Nat) : Int) q' ((i + 1 : Nat) : Int) a b c d e else spec_AddClaim.l0 k l (p : Int) q' ((i + 1 : Nat) : Int) a b c d e) (r, ok) ∧ r.length ≤ l.length + 1 := by
    intro q'
    by_cases h2 : (rd_T38 l (i : Int)).f0 < a
    ·simp only [if_pos h2]
     exact ih (i + 1) (i + 1) q' (by omega) (Nat.le_refl _)
    ·simp only [if_neg h2]
     exact ih (i + 1) p q' (by omega) (by omega)
   cases q with
   | true =>
    obtain ⟨r, ok, hr, hn⟩ := go true
    refine ⟨r, ok, ev_succ ?_, hn⟩
    simp only [spec_AddClaim.l0, if_pos h1, if_true, if_pos (ge0 i), hw]
    exact hr
   | false =>
    by_cases h3 : (rd_T38 l (i : Int)).f1 = b
    ·obtain ⟨r, ok, hr, hn⟩ := go ((rd_T38 l (i : Int)).f2 == c)
     refine ⟨r, ok, ev_succ ?_, hn⟩
     simp only [spec_AddClaim.l0, if_pos h1, Bool.false_eq_true, if_false, if_pos (ge0 i), if_pos h3, hw]
     exact hr
    ·obtain ⟨r, ok, hr, hn⟩ := go false
     refine ⟨r, ok, ev_succ ?_, hn⟩
     simp only [spec_AddClaim.l0, if_pos h1, Bool.false_eq_true, if_false, if_pos (ge0 i), if_neg h3, hw]
     exact hr
 exact key l.length 0 0 _ (by omega) (Nat.le_refl _)

/-! spec_FindClaim -/
theorem FindClaim_tot (l : List (S38)) (t : Int) (hl : l.length ≤ 1048576) : ∃ r, Ev (fun k => spec_FindClaim.f k l t) r ∧ -1 ≤ r ∧ r < (l.length : Int) := by
 have key : ∀ (m i : Nat), i + m = l.length → ∃ r, Ev (fun k => spec_FindClaim.l0 k l t (i : Int)) r ∧ -1 ≤ r ∧ r < (l.length : Int) := by
  intro m
  induction m with
  | zero =>
   intro i hi
   refine ⟨-1, ev_succ ?_, by omega, by omega⟩
   simp only [spec_FindClaim.l0, if_neg (show ¬ (i : Int) < (l.length : Int) by omega)]
   exact Ev.now _
  | succ m ih =>
   intro i hi
   have h1 : (i : Int) < (l.length : Int) := by omega
   by_cases h2 : (rd_T38 l (i : Int)).f0 = t
   ·refine ⟨(i : Int), ev_succ ?_, by omega, h1⟩
    simp only [spec_FindClaim.l0, if_pos h1, if_pos (ge0 i), if_pos h2]
    exact Ev.now _
   ·obtain ⟨r, hr, hb⟩ := ih (i + 1) (by omega)
    refine ⟨r, ev_succ ?_, hb⟩
    simp only [spec_FindClaim.l0, if_pos h1, if_pos (ge0 i), if_neg h2, wsucc (show i < 9223372036854775807 by omega)]
    exact hr
 exact key l.length 0 (by omega)

/-! spec_SetState -/
theorem SetState_tot (l : List (S38)) (id s : Int) (hl : l.length ≤ 1048576) : ∃ r ok, Ev (fun k => spec_SetState.f k l id s) (r, ok) ∧ r.length ≤ l.length := by
 have n4 : l.length < 3518437208883 := by omega
 have jt : ∀ p : Int, ∃ r ok, Ev (fun k => spec_SetState.j0 k l s l p true) (r, ok) ∧ r.length ≤ l.length := fun p => by
  refine ⟨l, false, ev_succ ?_, Nat.le_refl _⟩
  simp only [spec_SetState.j0, if_true]
  exact Ev.now _
 have jf : ∀ p : Int, 0 ≤ p → p < (l.length : Int) → ∃ r ok, Ev (fun k => spec_SetState.j0 k l s l p false) (r, ok) ∧ r.length ≤ l.length := by
  intro p h0 h1
  obtain ⟨x, hx⟩ : ∃ x, x = rd_T38 l p := ⟨_, rfl⟩
  obtain ⟨o, ho⟩ : ∃ o, o = l.set p.toNat (⟨x.f0, x.f1, x.f2, x.f3, s⟩ : S38) := ⟨_, rfl⟩
  have hol : o.length = l.length := by rw [ho, List.length_set]
  have r1 : ∃ r ok, Ev (fun k => (spec_AreClaims.f k o).bind fun t => if t = true then some (o, true) else some (l, false)) (r, ok) ∧ r.length ≤ l.length := by
   obtain ⟨v, hv⟩ := AreClaims_tot o (by omega)
   cases v with
   | true => exact ⟨o, true, Ev.bind hv (by simp only [if_true]; exact Ev.now _), by omega⟩
   | false => exact ⟨l, false, Ev.bind hv (by simp only [Bool.false_eq_true, if_false]; exact Ev.now _), Nat.le_refl _⟩
  obtain ⟨r, ok, hr, hn⟩ := r1
  by_cases a0 : x.f4 = 0
  ·by_cases a1 : s = 1
   ·exact ⟨r, ok, ev_succ (by simp only [spec_SetState.j0, Bool.false_eq_true, if_false, if_pos h0, if_pos h1, Option.bind_some, List.nil_append, List.length_nil, Nat.zero_add, if_pos n4, ← hx, if_pos a0, if_pos a1, ← ho]; exact hr), hn⟩
   by_cases a2 : s = 2
   ·exact ⟨r, ok, ev_succ (by simp only [spec_SetState.j0, Bool.false_eq_true, if_false, if_pos h0, if_pos h1, Option.bind_some, List.nil_append, List.length_nil, Nat.zero_add, if_pos n4, ← hx, if_pos a0, if_neg a1, if_pos a2, ← ho]; exact hr), hn⟩
   have a3 : ¬ x.f4 = 1 := by omega
   exact ⟨l, false, ev_succ (by simp only [spec_SetState.j0, Bool.false_eq_true, if_false, if_pos h0, if_pos h1, Option.bind_some, List.nil_append, List.length_nil, Nat.zero_add, if_pos n4, ← hx, if_pos a0, if_neg a1, if_neg a2, if_neg a3]; exact Ev.now _), Nat.le_refl _⟩
  ·by_cases a3 : x.f4 = 1
   ·by_cases a4 : s = 3
    ·exact ⟨r, ok, ev_succ (by simp only [spec_SetState.j0, Bool.false_eq_true, if_false, if_pos h0, if_pos h1, Option.bind_some, List.nil_append, List.length_nil, Nat.zero_add, if_pos n4, ← hx, if_neg a0, if_pos a3, if_pos a4, ← ho]; exact hr), hn⟩
    ·exact ⟨l, false, ev_succ (by simp only [spec_SetState.j0, Bool.false_eq_true, if_false, if_pos h0, if_pos h1, Option.bind_some, List.nil_append, List.length_nil, Nat.zero_add, if_pos n4, ← hx, if_neg a0, if_pos a3, if_neg a4]; exact Ev.now _), Nat.le_refl _⟩
   ·exact ⟨l, false, ev_succ (by simp only [spec_SetState.j0, Bool.false_eq_true, if_false, if_pos h0, if_pos h1, Option.bind_some, List.nil_append, List.length_nil, Nat.zero_add, if_pos n4, ← hx, if_neg a0, if_neg a3]; exact Ev.now _), Nat.le_refl _⟩
 obtain ⟨p, hp, hp0, hp1⟩ := FindClaim_tot l id hl
 unfold spec_SetState.f
 simp only [Option.bind_some, List.nil_append, List.length_nil, Nat.zero_add, if_pos n4]
 by_cases hneg : p < 0
 ·obtain ⟨r, ok, hr, hn⟩ := jt p
  refine ⟨r, ok, Ev.bind hp ?_, hn⟩
  simp only [if_pos hneg]
  exact hr
 ·obtain ⟨v, hv⟩ := AreClaims_tot l hl
  cases v with
  | true =>
   obtain ⟨r, ok, hr, hn⟩ := jf p (by omega) hp1
   refine ⟨r, ok, Ev.bind hp ?_, hn⟩
   simp only [if_neg hneg]
   refine Ev.bind hv ?_
   exact hr
  | false =>
   obtain ⟨r, ok, hr, hn⟩ := jt p
   refine ⟨r, ok, Ev.bind hp ?_, hn⟩
   simp only [if_neg hneg]
   refine Ev.bind hv ?_
   exact hr

/-! spec_l13Draw -/
theorem l13Draw_tot (b : List Int) (i h : Int) (hc : Cur b i) : ∃ l i' h', Ev (fun k => spec_l13Draw.f k b i h) (l, i', h') ∧ l.length ≤ 8 ∧ Cur b i' := by
 have key : ∀ (m : Nat) (l : List (S38)) (x : Nat) (i h : Int), x + m = 8 → l.length + 1 ≤ x → Cur b i → ∃ l' i' h', Ev (fun k => spec_l13Draw.l0 k l (x : Int) b i h) (l', i', h') ∧ l'.length ≤ 8 ∧ Cur b i' := by
  intro m
  induction m with
  | zero =>
   intro l x i h hx hl hc
   obtain ⟨y, i1, h1, e1, _, hy, c1⟩ := l1Below_tot b i h 8 hc
   have := hy (by omega)
   refine ⟨l, i1, h1, ev_succ ?_, by omega, c1⟩
   simp only [spec_l13Draw.l0, e1, Option.bind_some, if_neg (show ¬ (x : Int) ≤ y by omega)]
   exact Ev.now _
  | succ m ih =>
   intro l x i h hx hl hc
   obtain ⟨y, i1, h1, e1, _, hy, c1⟩ := l1Below_tot b i h 8 hc
   by_cases hxy : (x : Int) ≤ y
   ·obtain ⟨u, i2, h2, e2, _, _, c2⟩ := l1Below_tot b i1 h1 5 c1
    obtain ⟨v, i3, h3, e3, _, _, c3⟩ := l1Below_tot b i2 h2 3 c2
    obtain ⟨w, i4, h4, e4, _, _, c4⟩ := l1Below_tot b i3 h3 60 c3
    obtain ⟨l1, ok1, e5, hl1⟩ := AddClaim_tot l (wrap64 (2 * (x : Int))) (wrap64 (1 + u)) (wrap64 (2 * wrap64 (1 + v))) w 0 (by omega)
    obtain ⟨z, i5, h5, e6, _, _, c5⟩ := l1Below_tot b i4 h4 4 c4
    obtain ⟨l2, ok2, e7, hl2⟩ := SetState_tot l1 (wrap64 (2 * (x : Int))) z (by omega)
    obtain ⟨l', i', h', e8, hl', c'⟩ := ih l2 (x + 1) i5 h5 (by omega) (by omega) c5
    refine ⟨l', i', h', ev_succ ?_, hl', c'⟩
    simp only [spec_l13Draw.l0, e1, e2, e3, e4, Option.bind_some, if_pos hxy]
    refine Ev.bind e5 ?_
    simp only [e6, Option.bind_some]
    refine Ev.bind e7 ?_
    rw [wsucc (show x < 9223372036854775807 by omega)]
    exact e8
   ·refine ⟨l, i1, h1, ev_succ ?_, by omega, c1⟩
    simp only [spec_l13Draw.l0, e1, Option.bind_some, if_neg hxy]
    exact Ev.now _
 exact key 7 [] 1 i h (by omega) (by simp) hc

/-! spec_l13Any -/
theorem l13Any_tot (b : List Int) (i h : Int) (hc : Cur b i) : ∃ l i' h', Ev (fun k => spec_l13Any.f k b i h) (l, i', h') ∧ l.length ≤ 8 ∧ Cur b i' := by
 obtain ⟨l, i1, h1, e1, hl, c1⟩ := l13Draw_tot b i h hc
 unfold spec_l13Any.f
 by_cases h0 : (l.length : Int) = 0
 ·refine ⟨l, i1, h1, Ev.bind e1 ?_, hl, c1⟩
  simp only [if_pos h0]
  exact Ev.now _
 obtain ⟨p, i2, h2, e2, hp0, hp1, c2⟩ := l1Below_tot b i1 h1 (l.length : Int) c1
 have hp := hp1 (by omega)
 obtain ⟨a, i3, h3, e3, _, _, c3⟩ := l1Below_tot b i2 h2 10 c2
 by_cases q0 : a = 0
 ·obtain ⟨z, i4, h4, e4, _, c4⟩ := l1Int_tot b i3 h3 [0, 2, 999, 1000] (by decide) c3
  refine ⟨l.set p.toNat ⟨z, (rd_T38 l p).f1, (rd_T38 l p).f2, (rd_T38 l p).f3, (rd_T38 l p).f4⟩, i4, h4, Ev.bind e1 ?_, by rw [List.length_set]; exact hl, c4⟩
  simp only [if_neg h0, e2, e3, e4, Option.bind_some, if_pos q0, if_pos hp0, if_pos hp]
  exact Ev.now _
 by_cases q1 : a = 1
 ·obtain ⟨z, i4, h4, e4, c4⟩ := l4Raw_tot b i3 h3 c3
  refine ⟨l.set p.toNat ⟨(rd_T38 l p).f0, z, (rd_T38 l p).f2, (rd_T38 l p).f3, (rd_T38 l p).f4⟩, i4, h4, Ev.bind e1 ?_, by rw [List.length_set]; exact hl, c4⟩
  simp only [if_neg h0, e2, e3, e4, Option.bind_some, if_neg q0, if_pos q1, if_pos hp0, if_pos hp]
  exact Ev.now _
 by_cases q2 : a = 2
 ·obtain ⟨z, i4, h4, e4, _, c4⟩ := l1Int_tot b i3 h3 [(-1), 100000, 100001] (by decide) c3
  refine ⟨l.set p.toNat ⟨(rd_T38 l p).f0, (rd_T38 l p).f1, (rd_T38 l p).f2, z, (rd_T38 l p).f4⟩, i4, h4, Ev.bind e1 ?_, by rw [List.length_set]; exact hl, c4⟩
  simp only [if_neg h0, e2, e3, e4, Option.bind_some, if_neg q0, if_neg q1, if_pos q2, if_pos hp0, if_pos hp]
  exact Ev.now _
 by_cases q3 : a = 3
 ·obtain ⟨z, i4, h4, e4, _, c4⟩ := l1Int_tot b i3 h3 [(-1), 3, 4] (by decide) c3
  refine ⟨l.set p.toNat ⟨(rd_T38 l p).f0, (rd_T38 l p).f1, (rd_T38 l p).f2, (rd_T38 l p).f3, z⟩, i4, h4, Ev.bind e1 ?_, by rw [List.length_set]; exact hl, c4⟩
  simp only [if_neg h0, e2, e3, e4, Option.bind_some, if_neg q0, if_neg q1, if_neg q2, if_pos q3, if_pos hp0, if_pos hp]
  exact Ev.now _
 ·refine ⟨l, i3, h3, Ev.bind e1 ?_, hl, c3⟩
  simp only [if_neg h0, e2, e3, Option.bind_some, if_neg q0, if_neg q1, if_neg q2, if_neg q3]
  exact Ev.now _

/-! spec_l1Once -/
theorem l1Once_tot (b : List Int) (i h n : Int) (hc : Cur b i) : ∃ x i' h', spec_l1Once.f b i h n = some (x, i', h') ∧ Cur b i' := by
 obtain ⟨x, i1, h1, e1, _, _, c1⟩ := l1Below_tot b i h n hc
 unfold spec_l1Once.f
 simp only [e1, Option.bind_some]
 exact ⟨_, _, _, rfl, c1⟩

/-! spec_l17Now -/
theorem l17Now_tot (b : List Int) (i h : Int) (hc : Cur b i) : ∃ x i' h', spec_l17Now.f b i h = some (x, i', h') ∧ Cur b i' ∧ -9223372036854775808 ≤ x ∧ x ≤ 9223372036854775807 := by
 obtain ⟨x, i1, h1, e1, hx, c1⟩ := l1Int_tot b i h [0, 20, 60, 100, 2160, 2200, 2240, 4320, 4400, 200000, 200001, (-1)] (by decide) hc
 unfold spec_l17Now.f
 simp only [e1, Option.bind_some]
 refine ⟨_, _, _, rfl, c1, ?_, ?_⟩
 ·simp at hx; omega
 ·simp at hx; omega

/-! fateOf -/
def fpStep (t : Int) (o : Option (S38)) (x : S38) : Option (S38) :=
 if x.f2 = t ∧ x.f4 = 1 then (match o with | none => some x | some b => if x.f3 < b.f3 then some x else some b) else o
def fpId (o : Option (S38)) : Int := match o with | none => 0 | some b => b.f0
def firstProved (l : List (S38)) (t : Int) : Int := fpId (l.foldl (fpStep t) none)
def opens (t : Int) (x : S38) : Bool := decide (x.f2 = t) && decide (x.f4 = 0)
def fateOf (id kind colour size worth place hour finder : Int) (l : List (S38)) (now : Int) : Int :=
 if firstProved l id = 0 then
  (if l.any (opens id) then 0
  else if isDue id kind colour size worth place hour finder now then (if kind = 7 ∨ worth = 0 then 5 else if worth > 5000 then 3 else if finder = 0 then 4 else 2) else 0)
 else 1

/-! impl_FirstProved -/
theorem impl_FirstProved_ev (l : List (S38)) (t : Int) (h : l.length ≤ 1099511627776) : Ev (fun k => impl_FirstProved.f k l t) (firstProved l t) := by
 refine ev_range l (fun k (o : Option (S38)) i => impl_FirstProved.l0 k t o.isSome l (l.length : Int) i (o.getD ⟨0, 0, 0, 0, 0⟩).f0 (o.getD ⟨0, 0, 0, 0, 0⟩).f1 (o.getD ⟨0, 0, 0, 0, 0⟩).f2 (o.getD ⟨0, 0, 0, 0, 0⟩).f3 (o.getD ⟨0, 0, 0, 0, 0⟩).f4) (fun o r => fpId (r.foldl (fpStep t) o)) (fun _ _ => True) (by omega) ?_ ?_ none trivial
 ·intro o _
  simp only [impl_FirstProved.l0, if_neg (Int.lt_irrefl _)]
  cases o <;> exact Ev.now _
 ·intro pre x rest o _ hlt hget _ ih
  have hr : rd_T38 l (pre.length : Int) = x := hget _
  simp only [impl_FirstProved.l0, if_pos hlt, if_pos (ge0 pre.length), hr, List.foldl_cons]
  by_cases h1 : x.f2 = t
  ·by_cases h2 : x.f4 = 1
   ·cases o with
    | none =>
     simp only [if_pos h1, if_pos h2, Option.isSome_none, Bool.false_eq_true, if_false, show fpStep t none x = some x by simp [fpStep, h1, h2]]
     exact ih (some x) trivial
    | some b =>
     by_cases h3 : x.f3 < b.f3
     ·simp only [if_pos h1, if_pos h2, Option.isSome_some, if_true, Option.getD_some, if_pos h3, show fpStep t (some b) x = some x by simp [fpStep, h1, h2, h3]]
      exact ih (some x) trivial
     ·simp only [if_pos h1, if_pos h2, Option.isSome_some, if_true, Option.getD_some, if_neg h3, show fpStep t (some b) x = some b by simp [fpStep, h3]]
      exact ih (some b) trivial
   ·simp only [if_pos h1, if_neg h2, show fpStep t o x = o by simp [fpStep, h2]]
    exact ih o trivial
  ·simp only [if_neg h1, show fpStep t o x = o by simp [fpStep, h1]]
   exact ih o trivial

/-! impl_InRange -/
theorem impl_InRange_eq (a b c : Int) : impl_InRange.f a b c = some (inr a b c) := by
 unfold impl_InRange.f inr
 by_cases h : b ≤ a <;> simp [h]

/-! impl_IsThing -/
theorem impl_IsThing_eq (a b c d e : Int) : impl_IsThing.f a b c d e = some (isThing a b c d e) := by
 simp only [impl_IsThing.f, impl_InRange_eq, Option.bind_some, ite_and, isThing]

/-! impl_IsFind -/
theorem impl_IsFind_eq (a b c d e f g h : Int) : impl_IsFind.f a b c d e f g h = some (isFind a b c d e f g h) := by
 simp only [impl_IsFind.f, impl_IsThing_eq, impl_InRange_eq, Option.bind_some, ite_and, isFind]

/-! impl_KeepDays -/
theorem impl_KeepDays_ev (a : Int) : Ev (fun k => impl_KeepDays.f k a) (keepDays a) := by
 refine ev_succ ?_
 simp only [impl_KeepDays.f, impl_KeepDays.j0]
 refine ev_const ?_
 unfold keepDays
 by_cases h7 : a = 7
 ·simp [h7]
 by_cases h4 : a = 4
 ·simp [h4]
 by_cases h5 : a = 5
 ·simp [h5]
 simp only [h7, h4, h5, if_false, beq_iff_eq]
 by_cases hr : inr a 1 8 = true
 ·have := (inr_iff a 1 8).1 hr
  rw [if_pos hr]
  have : a = 1 ∨ a = 2 ∨ a = 3 ∨ a = 6 ∨ a = 8 := by omega
  rcases this with rfl | rfl | rfl | rfl | rfl <;> rfl
 ·rw [if_neg hr]
  have hn : ¬ (1 ≤ a ∧ a ≤ 8) := fun h => hr ((inr_iff a 1 8).2 h)
  rw [if_neg (by omega), if_neg (by omega), if_neg (by omega), if_neg (by omega), if_neg (by omega)]

/-! impl_DueHour -/
theorem impl_DueHour_ev (a b c d e f g h : Int) : Ev (fun k => impl_DueHour.f k a b c d e f g h) (dueHour a b c d e f g h) := by
 simp only [impl_DueHour.f, impl_IsFind_eq, Option.bind_some, dueHour]
 by_cases h1 : isFind a b c d e f g h = true
 ·simp only [h1, if_true]
  exact Ev.bind (impl_KeepDays_ev b) (Ev.now _)
 ·simp only [h1]
  exact Ev.now _

/-! impl_IsDue -/
theorem impl_IsDue_ev (a b c d e f g h n : Int) : Ev (fun k => impl_IsDue.f k a b c d e f g h n) (isDue a b c d e f g h n) := by
 simp only [impl_IsDue.f, impl_IsFind_eq, Option.bind_some, isDue]
 cases h1 : isFind a b c d e f g h with
 | false => exact Ev.now _
 | true => exact Ev.bind (impl_DueHour_ev _ _ _ _ _ _ _ _) (Ev.now _)

/-! impl_FateOf -/
theorem impl_FateOf_j2_ev (b : Bool) (a0 a1 a2 a3 w : Int) : Ev (fun k => impl_FateOf.j2 k b a0 a1 a2 a3 w) (if b then 2 else if w > 5000 then 3 else 4) := by
 refine ev_succ ?_
 simp only [impl_FateOf.j2]
 cases b <;> by_cases h : w > 5000 <;> simp only [h, if_true, if_false, Bool.false_eq_true] <;> exact Ev.now _
theorem impl_FateOf_j1_ev (b : Bool) (x0 x1 x2 x3 x4 x5 x6 f a0 a1 a2 a3 w : Int) : Ev (fun k => impl_FateOf.j1 k b x0 x1 x2 x3 x4 x5 x6 f a0 a1 a2 a3 w) (if b then 5 else if w > 5000 then 3 else if f = 0 then 4 else 2) := by
 refine ev_succ ?_
 simp only [impl_FateOf.j1]
 cases b with
 | true =>
  simp only [if_true]
  exact Ev.now _
 | false =>
  simp only [Bool.false_eq_true, if_false]
  by_cases h1 : f = 0
  ·simp only [if_pos h1]
   exact ev_map (impl_FateOf_j2_ev _ _ _ _ _ _) (by simp)
  ·simp only [if_neg h1]
   refine ev_map (impl_FateOf_j2_ev _ _ _ _ _ _) ?_
   by_cases h2 : w > 5000
   ·simp [h2]
   ·simp [h2]
theorem impl_FateOf_j0_ev (b : Bool) (x0 x1 x2 x3 x4 x5 x6 f a0 kind a2 a3 w : Int) : Ev (fun k => impl_FateOf.j0 k b x0 x1 x2 x3 x4 x5 x6 f a0 kind a2 a3 w) (if b then 0 else if kind = 7 ∨ w = 0 then 5 else if w > 5000 then 3 else if f = 0 then 4 else 2) := by
 refine ev_succ ?_
 simp only [impl_FateOf.j0]
 cases b with
 | true =>
  simp only [if_true]
  exact Ev.now _
 | false =>
  simp only [Bool.false_eq_true, if_false]
  by_cases h1 : kind = 7
  ·simp only [if_pos h1]
   exact ev_map (impl_FateOf_j1_ev _ _ _ _ _ _ _ _ _ _ _ _ _ _) (by simp [h1])
  ·simp only [if_neg h1]
   exact ev_map (impl_FateOf_j1_ev _ _ _ _ _ _ _ _ _ _ _ _ _ _) (by simp [h1])
theorem impl_FateOf_ev (id kind colour size worth place hour finder : Int) (l : List (S38)) (now : Int) (h : l.length ≤ 1099511627776) :
  Ev (fun k => impl_FateOf.f k id kind colour size worth place hour finder l now) (fateOf id kind colour size worth place hour finder l now) := by
 unfold impl_FateOf.f fateOf
 refine Ev.bind (impl_FirstProved_ev l id h) ?_
 by_cases h1 : firstProved l id = 0
 ·simp only [if_pos h1]
  refine Ev.bind (impl_IsDue_ev _ _ _ _ _ _ _ _ _) ?_
  cases h2 : isDue id kind colour size worth place hour finder now with
  | false =>
   simp only [Bool.false_eq_true, if_false]
   exact ev_map (impl_FateOf_j0_ev _ _ _ _ _ _ _ _ _ _ _ _ _ _) (by simp)
  | true =>
   have hp : (impl_FateOf_1.p id kind colour size worth : S38 → Bool) = opens id := by
    funext y
    unfold impl_FateOf_1.p opens
    rw [Bool.beq_eq_decide_eq, Bool.beq_eq_decide_eq]
   simp only [if_true, impl_FateOf_1.f, hp, Option.bind_some]
   exact ev_map (impl_FateOf_j0_ev _ _ _ _ _ _ _ _ _ _ _ _ _ _) (by simp)
 ·simp only [if_neg h1]
  exact Ev.now _

/-! mustKeep -/
theorem fateOf_ge (id kind colour size worth place hour finder : Int) (l : List (S38)) (now : Int) : 0 ≤ fateOf id kind colour size worth place hour finder l now ∧ fateOf id kind colour size worth place hour finder l now ≤ 5 := by
 unfold fateOf
 split
 ·split
  ·decide
  ·split
   ·split
    ·decide
    ·split
     ·decide
     ·split <;> decide
   ·decide
 ·decide

/-! impl_MustKeep -/
theorem impl_MustKeep_ev (id kind colour size worth place hour finder : Int) (l : List (S38)) (now : Int) (h : l.length ≤ 1099511627776) :
  Ev (fun k => impl_MustKeep.f k id kind colour size worth place hour finder l now) (decide (fateOf id kind colour size worth place hour finder l now ≤ 1)) := by
 unfold impl_MustKeep.f
 refine Ev.bind (impl_FateOf_ev _ _ _ _ _ _ _ _ l now h) ?_
 have hg := fateOf_ge id kind colour size worth place hour finder l now
 generalize fateOf id kind colour size worth place hour finder l now = t at hg ⊢
 by_cases h1 : t = 0
 ·simp only [if_pos h1]
  exact ev_const (by simp [h1])
 ·simp only [if_neg h1]
  refine ev_const ?_
  by_cases h2 : t = 1
  ·simp [h2]
  ·have h3 : ¬ t ≤ 1 := by omega
   simp [h2, h3]

/-! type_29 -/
theorem rd_T29_pre (pre : List (S29)) (x : S29) (rest : List (S29)) : rd_T29 (pre ++ x :: rest) (pre.length : Int) = x := getD_pre pre x rest z29

/-! fatesOf -/
def fateFor (l : List (S38)) (now : Int) (x : S29) : Int := fateOf x.f0.f0 x.f0.f1 x.f0.f2 x.f0.f3 x.f0.f4 x.f1 x.f2 x.f3 l now
def fatesOf (f : List (S29)) (l : List (S38)) (now : Int) : List Int := f.map (fateFor l now)
theorem fatesOf_len (f : List (S29)) (l : List (S38)) (now : Int) : (fatesOf f l now).length = f.length := by
 unfold fatesOf
 rw [List.length_map]

/-! impl_FatesOf -/
theorem impl_FatesOf_ev (f : List (S29)) (l : List (S38)) (now : Int) (h : f.length ≤ 1099511627776) (h' : l.length ≤ 1099511627776) : Ev (fun k => impl_FatesOf.f k f l now) (fatesOf f l now) := by
 refine ev_map (ev_range f (fun k (s : List Int) i => impl_FatesOf.l0 k l now s f (f.length : Int) i) (fun s r => s ++ r.map (fateFor l now)) (fun p s => s.length ≤ p.length) (by omega) ?_ ?_ [] (Nat.le_refl _)) (by simp [fatesOf])
 ·intro s _
  simp only [impl_FatesOf.l0, if_neg (Int.lt_irrefl _)]
  exact ev_const (by simp)
 ·intro pre x rest s _ hlt hget hs ih
  have hr : rd_T29 f (pre.length : Int) = x := hget _
  have hs' : s.length ≤ pre.length := hs
  have hd : fateOf x.f0.f0 x.f0.f1 x.f0.f2 x.f0.f3 x.f0.f4 x.f1 x.f2 x.f3 l now = fateFor l now x := rfl
  simp only [impl_FatesOf.l0, if_pos hlt, if_pos (ge0 pre.length), hr]
  refine Ev.bind (impl_FateOf_ev _ _ _ _ _ _ _ _ _ _ h') ?_
  simp only [hd, if_pos (show s.length < 17592186044416 by omega)]
  exact ev_map (ih _ (by simp; omega)) (by simp)

/-! impl_CountFate -/
theorem impl_CountFate_ev (l : List Int) (f : Int) (h : l.length ≤ 1099511627776) : Ev (fun k => impl_CountFate.f k l f) (l.foldl (fun n x => if x = f then wrap64 (n + 1) else n) 0) := by
 refine ev_range l (fun k n i => impl_CountFate.l0 k f n l (l.length : Int) i) (fun n r => r.foldl (fun n x => if x = f then wrap64 (n + 1) else n) n) (fun _ _ => True) (by omega) ?_ ?_ 0 trivial
 ·intro n _
  simp only [impl_CountFate.l0, if_neg (Int.lt_irrefl _)]
  exact Ev.now _
 ·intro pre x rest n _ hlt hget _ ih
  have hr : rd l (pre.length : Int) = x := hget 0
  simp only [impl_CountFate.l0, if_pos hlt, if_pos (ge0 pre.length), hr]
  by_cases hx : x = f
  ·simp only [if_pos hx]
   exact ev_map (ih _ trivial) (by simp [hx])
  ·simp only [if_neg hx]
   exact ev_map (ih _ trivial) (by simp [hx])

/-! spec_DrawFates -/
theorem DrawFateOf_tot (b : List Int) (hl : b.length ≤ 1048576) : ∃ x0 x1 x2 x3 x4 x5 x6 x7 l now, Ev (fun k => spec_DrawFateOf.f k b) (x0, x1, x2, x3, x4, x5, x6, x7, l, now) ∧ l.length ≤ 8 := by
 have jj : ∀ (l : List (S38)) (i h x0 x1 x2 x3 x4 x5 x6 x7 : Int), l.length ≤ 8 → Cur b i → ∃ l' now, Ev (fun k => spec_DrawFateOf.j0 k l b i h x0 x1 x2 x3 x4 x5 x6 x7) (x0, x1, x2, x3, x4, x5, x6, x7, l', now) ∧ l'.length ≤ 8 := by
  intro l i h x0 x1 x2 x3 x4 x5 x6 x7 hl hc
  obtain ⟨q, i1, h1, e1, c1⟩ := l1Once_tot b i h 3 hc
  obtain ⟨n, i2, h2, e2, _⟩ := l17Now_tot b i1 h1 c1
  cases q with
  | true =>
   refine ⟨[], n, ev_succ ?_, by simp⟩
   simp only [spec_DrawFateOf.j0, e1, e2, Option.bind_some, if_true]
   exact Ev.now _
  | false =>
   refine ⟨l, n, ev_succ ?_, hl⟩
   simp only [spec_DrawFateOf.j0, e1, e2, Option.bind_some, Bool.false_eq_true, if_false]
   exact Ev.now _
 obtain ⟨h0, e0⟩ := l1New_tot b hl
 obtain ⟨x0, x1, x2, x3, x4, x5, x6, x7, i1, h1, e1, c1⟩ := l6One_tot b 0 h0 (cur0 b hl)
 obtain ⟨l, i2, h2, e2, hl2, c2⟩ := l13Any_tot b i1 h1 c1
 obtain ⟨q, i3, h3, e3, c3⟩ := l1Once_tot b i2 h2 3 c2
 cases q with
 | true =>
  obtain ⟨z, i4, h4, e4, _, c4⟩ := l1Int_tot b i3 h3 [0, 5000, 5001] (by decide) c3
  obtain ⟨l', n, e5, hl5⟩ := jj l i4 h4 x0 x1 x2 x3 z x5 x6 x7 hl2 c4
  refine ⟨x0, x1, x2, x3, z, x5, x6, x7, l', n, ?_, hl5⟩
  unfold spec_DrawFateOf.f
  refine Ev.bind e0 ?_
  refine Ev.bind e1 ?_
  refine Ev.bind e2 ?_
  simp only [e3, e4, Option.bind_some, if_true]
  exact e5
 | false =>
  obtain ⟨l', n, e5, hl5⟩ := jj l i3 h3 x0 x1 x2 x3 x4 x5 x6 x7 hl2 c3
  refine ⟨x0, x1, x2, x3, x4, x5, x6, x7, l', n, ?_, hl5⟩
  unfold spec_DrawFateOf.f
  refine Ev.bind e0 ?_
  refine Ev.bind e1 ?_
  refine Ev.bind e2 ?_
  simp only [e3, Option.bind_some, Bool.false_eq_true, if_false]
  exact e5
theorem DrawFatesOf_tot (b : List Int) (hl : b.length ≤ 1048576) : ∃ f l n, Ev (fun k => spec_DrawFatesOf.f k b) (f, l, n) ∧ f.length ≤ 8 ∧ l.length ≤ 8 := by
 obtain ⟨h0, e0⟩ := l1New_tot b hl
 obtain ⟨f, i1, h1, e1, hf, c1⟩ := l6Any_tot b 0 h0 (cur0 b hl)
 obtain ⟨l, i2, h2, e2, hl2, c2⟩ := l13Any_tot b i1 h1 c1
 obtain ⟨n, i3, h3, e3, _⟩ := l17Now_tot b i2 h2 c2
 refine ⟨f, l, n, ?_, hf, hl2⟩
 unfold spec_DrawFatesOf.f
 refine Ev.bind e0 ?_
 refine Ev.bind e1 ?_
 refine Ev.bind e2 ?_
 simp only [e3, Option.bind_some]
 exact Ev.now _

/-! the law -/
def cn (f : Int) : List Int → Int
 | [] => 0
 | x :: l => (if x = f then 1 else 0) + cn f l
theorem cn_rng (f : Int) : ∀ l : List Int, 0 ≤ cn f l ∧ cn f l ≤ l.length
 | [] => by simp [cn]
 | x :: l => by
  have h := cn_rng f l
  simp only [cn, List.length_cons]
  split <;> omega
theorem cn_fold (f : Int) : ∀ (l : List Int) (n : Int), 0 ≤ n → n + l.length ≤ 1099511627776 → l.foldl (fun n x => if x = f then wrap64 (n + 1) else n) n = n + cn f l
 | [], n, _, _ => by simp [cn]
 | x :: l, n, h0, h1 => by
  rw [List.length_cons] at h1
  simp only [List.foldl_cons, cn]
  by_cases hx : x = f
  ·rw [if_pos hx, if_pos hx, w64 (by omega) (by omega), cn_fold f l (n + 1) (by omega) (by omega)]
   omega
  ·rw [if_neg hx, if_neg hx, cn_fold f l n h0 (by omega)]
   omega
theorem cn_sum : ∀ l : List Int, (∀ x ∈ l, 0 ≤ x ∧ x ≤ 5) → cn 0 l + cn 1 l + cn 2 l + cn 3 l + cn 4 l + cn 5 l = l.length
 | [], _ => by simp [cn]
 | x :: l, h => by
  have h1 := h x (by simp)
  have h2 := cn_sum l (fun y hy => h y (by simp [hy]))
  have hc : x = 0 ∨ x = 1 ∨ x = 2 ∨ x = 3 ∨ x = 4 ∨ x = 5 := by omega
  rw [List.length_cons]
  rcases hc with rfl | rfl | rfl | rfl | rfl | rfl <;> simp only [cn, if_true, if_false, reduceCtorEq, Int.reduceEq] <;> omega
theorem fat_step (a : List (S29)) (b : List Int) (n i j : Int) (r : Bool) (hb : b.length ≤ 1048576) (h0 : 0 ≤ n) (hn : n ≤ 1099511627776) (hj : i + 1 = j) (h5 : 0 ≤ i) (hi : i ≤ 5) (h : Ev (fun k => laws_FnFates.l1 k a b (n + cn i b) j) r) : Ev (fun k => laws_FnFates.l1 k a b n i) r := by
 refine ev_succ ?_
 simp only [laws_FnFates.l1, if_pos hi]
 refine Ev.bind (impl_CountFate_ev b i (by omega)) ?_
 rw [cn_fold i b 0 (by omega) (by omega)]
 have := cn_rng i b
 rw [show 0 + cn i b = cn i b by omega, w64 (by omega) (by omega), w64 (x := i + 1) (by omega) (by omega), hj]
 exact h
theorem fat_end (code : List Int) (hl : code.length ≤ 1048576) : Ev (fun k => (spec_DrawFatesOf.f k code).bind fun b => ((impl_FatesOf.f k b.1 b.2.1 b.2.2).bind fun t => (laws_FnFates.l1 k b.1 t 0 0))) true := by
 obtain ⟨a, l, n, e1, ha, hl2⟩ := DrawFatesOf_tot code hl
 refine Ev.bind e1 ?_
 refine Ev.bind (impl_FatesOf_ev a l n (by omega) (by omega)) ?_
 have hlen := fatesOf_len a l n
 have hin : ∀ x ∈ fatesOf a l n, 0 ≤ x ∧ x ≤ 5 := by
  intro x hx
  obtain ⟨y, _, rfl⟩ := List.mem_map.1 hx
  exact fateOf_ge _ _ _ _ _ _ _ _ _ _
 have hs := cn_sum _ hin
 generalize fatesOf a l n = b at hlen hs ⊢
 have r := fun i => cn_rng i b
 have r0 := r 0
 have r1 := r 1
 have r2 := r 2
 have r3 := r 3
 have r4 := r 4
 have r5 := r 5
 clear r
 refine fat_step a b _ 0 1 _ (by omega) (by omega) (by omega) rfl (by omega) (by omega) ?_
 refine fat_step a b _ 1 2 _ (by omega) (by omega) (by omega) rfl (by omega) (by omega) ?_
 refine fat_step a b _ 2 3 _ (by omega) (by omega) (by omega) rfl (by omega) (by omega) ?_
 refine fat_step a b _ 3 4 _ (by omega) (by omega) (by omega) rfl (by omega) (by omega) ?_
 refine fat_step a b _ 4 5 _ (by omega) (by omega) (by omega) rfl (by omega) (by omega) ?_
 refine fat_step a b _ 5 6 _ (by omega) (by omega) (by omega) rfl (by omega) (by omega) ?_
 refine ev_succ ?_
 simp only [laws_FnFates.l1, if_neg (show ¬ (6 : Int) ≤ 5 by decide)]
 rw [if_pos (by omega)]
 exact ev_const (by rw [show (b.length : Int) = a.length by omega, beq_self_eq_true])
theorem fat_name (x : Int) (h : 0 ≤ x ∧ x ≤ 5) : (fateText x).toList ≠ [] := by
 have h6 : ¬ x < 0 := by omega
 have h7 : ¬ x ≥ 6 := by omega
 have hk : ∀ b : ByteArray, b.size ≠ 0 → b.toList ≠ [] := by
  intro b hb e
  rw [ByteArray.toList_eq] at e
  exact hb (by rw [ByteArray.size, ← Array.length_toList, e]; rfl)
 have hc : x = 0 ∨ x = 1 ∨ x = 2 ∨ x = 3 ∨ x = 4 ∨ x = 5 := by omega
 unfold fateText
 rw [if_neg h6, if_neg h7]
 refine hk _ ?_
 rcases hc with rfl | rfl | rfl | rfl | rfl | rfl <;> decide
theorem fat_facts (id kind colour size worth place hour finder : Int) (l : List (S38)) (now x : Int) (e : fateOf id kind colour size worth place hour finder l now = x) :
  (x = 1 ↔ firstProved l id ≠ 0) ∧ (2 ≤ x → isDue id kind colour size worth place hour finder now = true ∧ l.any (opens id) = false ∧ (x = 2 → finder ≠ 0) ∧ (x = 3 → 5000 < worth)) := by
 unfold fateOf at e
 by_cases h1 : firstProved l id = 0
 ·rw [if_pos h1] at e
  cases h2 : l.any (opens id) with
  | true =>
   rw [h2, if_pos rfl] at e
   subst e
   exact ⟨by simp [h1], by omega⟩
  | false =>
   rw [h2, if_neg (by simp)] at e
   cases h3 : isDue id kind colour size worth place hour finder now with
   | false =>
    rw [h3, if_neg (by simp)] at e
    subst e
    exact ⟨by simp [h1], by omega⟩
   | true =>
    rw [h3, if_pos rfl] at e
    by_cases h4 : kind = 7 ∨ worth = 0
    ·rw [if_pos h4] at e
     subst e
     exact ⟨by simp [h1], fun _ => ⟨rfl, rfl, by omega, by omega⟩⟩
    ·rw [if_neg h4] at e
     by_cases h5 : worth > 5000
     ·rw [if_pos h5] at e
      subst e
      exact ⟨by simp [h1], fun _ => ⟨rfl, rfl, by omega, fun _ => h5⟩⟩
     ·rw [if_neg h5] at e
      by_cases h6 : finder = 0
      ·rw [if_pos h6] at e
       subst e
       exact ⟨by simp [h1], fun _ => ⟨rfl, rfl, by omega, by omega⟩⟩
      ·rw [if_neg h6] at e
       subst e
       exact ⟨by simp [h1], fun _ => ⟨rfl, rfl, fun _ => h6, by omega⟩⟩
 ·rw [if_neg h1] at e
  subst e
  exact ⟨by simp [h1], by omega⟩
theorem fat_l0 (code : List Int) (hl : code.length ≤ 1048576) (l : List (S38)) (x id kind colour size worth place hour finder : Int) (hl0 : l.length ≤ 1048576) (h : 2 ≤ x → l.any (opens id) = false) :
  Ev (fun k => laws_FnFates.l0 k code l x 0 id kind colour size worth place hour finder) true := by
 by_cases hx : x ≥ 2
 ·have hany := h hx
  refine ev_range l (fun k (_ : Unit) i => laws_FnFates.l0 k code l x i id kind colour size worth place hour finder) (fun _ _ => true) (fun _ _ => True) (by omega) ?_ ?_ () trivial
  ·intro _ _
   simp only [laws_FnFates.l0, if_neg (Int.lt_irrefl _)]
   refine ev_succ ?_
   simp only [laws_FnFates.j3, Bool.false_eq_true, if_false]
   exact fat_end code hl
  ·rintro pre y rr _ e hlt hget _ ih
   have hr : rd_T38 l (pre.length : Int) = y := hget _
   have hy : opens id y = false := by
    cases q : opens id y with
    | false => rfl
    | true => exact absurd ((List.any_eq_true (l := l) (p := opens id)).2 ⟨y, by rw [e]; simp, q⟩) (by rw [hany]; simp)
   unfold opens at hy
   simp only [laws_FnFates.l0, if_pos hlt]
   refine ev_succ ?_
   simp only [laws_FnFates.j3, decide_eq_true hx, if_true, if_pos hlt, if_pos (ge0 pre.length), hr]
   by_cases h1 : y.f2 = id
   ·have h2 : ¬ y.f4 = 0 := by
     intro h2
     simp [h1, h2] at hy
    simp only [if_pos h1, if_neg h2]
    exact ih () trivial
   ·simp only [if_neg h1]
    exact ih () trivial
 ·refine ev_succ ?_
  simp only [laws_FnFates.l0, decide_eq_false hx]
  split <;> (refine ev_succ ?_; simp only [laws_FnFates.j3, Bool.false_eq_true, if_false]; exact fat_end code hl)
theorem Pf.FnFates : FnFatesLaw := by
 intro code hm hq
 refine Ev.rounds ?_
 unfold laws_FnFates.f
 simp only [laws_big.f, Option.bind_some]
 by_cases hb : (code.length : Int) > 1048576
 ·simp only [decide_eq_true hb, if_true]
  exact Ev.now _
 ·have hl : code.length ≤ 1048576 := by omega
  simp only [decide_eq_false hb, Bool.false_eq_true, if_false]
  obtain ⟨a, b, c, d, e, f, g, h, l, now, e1, hl8⟩ := DrawFateOf_tot code hl
  refine Ev.bind e1 ?_
  have hg := fateOf_ge a b c d e f g h l now
  obtain ⟨f1, f2⟩ := fat_facts a b c d e f g h l now _ rfl
  refine Ev.bind (impl_FateOf_ev a b c d e f g h l now (by omega)) ?_
  have hmk := impl_MustKeep_ev a b c d e f g h l now (by omega)
  generalize fateOf a b c d e f g h l now = x at hg f1 f2 hmk ⊢
  refine Ev.bind (impl_FirstProved_ev l a (by omega)) ?_
  simp only [impl_FateName_eq, Option.bind_some, if_neg (fat_name x hg)]
  have hp : ((x == 1) != (firstProved l a != 0)) = false := by
   by_cases h1 : x = 1
   ·simp [h1, f1.1 h1]
   ·have h2 : firstProved l a = 0 := Decidable.byContradiction fun q => h1 (f1.2 q)
    simp [h1, h2]
  simp only [hp, Bool.false_eq_true, if_false]
  refine Ev.bind hmk ?_
  have hj1 : Ev (fun k => laws_FnFates.j1 k code l x false a b c d e f g h) true := by
   refine ev_succ ?_
   simp only [laws_FnFates.j1, Bool.false_eq_true, if_false]
   exact fat_l0 code hl l x a b c d e f g h (by omega) (fun q => (f2 q).2.1)
  have hj0 : Ev (fun k => laws_FnFates.j0 k code l now x false a b c d e f g h) true := by
   refine ev_succ ?_
   simp only [laws_FnFates.j0, Bool.false_eq_true, if_false]
   by_cases h2 : x ≥ 2
   ·obtain ⟨g1, g2, g3, g4⟩ := f2 h2
    simp only [if_pos h2]
    refine Ev.bind (impl_IsDue_ev _ _ _ _ _ _ _ _ _) ?_
    simp only [g1, if_true]
    by_cases h3 : x = 2
    ·simp only [if_pos h3, if_neg (g3 h3), if_neg (show ¬ x = 3 by omega)]
     exact hj1
    ·simp only [if_neg h3]
     by_cases h4 : x = 3
     ·have h5 := g4 h4
      simp only [if_pos h4, decide_eq_false (show ¬ e ≤ 5000 by omega)]
      exact hj1
     ·simp only [if_neg h4]
      exact hj1
   ·simp only [if_neg h2, if_neg (show ¬ x = 2 by omega), if_neg (show ¬ x = 3 by omega)]
    exact hj1
  by_cases h0 : x = 0
  ·simp only [if_pos h0, decide_eq_true (show x ≤ 1 by omega), bne_self_eq_false]
   exact hj0
  ·have hq : (decide (x ≤ 1) != (x == 1)) = false := by
    by_cases h1 : x = 1
    ·simp [h1]
    ·have h2 : ¬ x ≤ 1 := by omega
     simp [h1, h2]
   simp only [if_neg h0, hq]
   exact hj0

end Go.Proofs.Ytfoallhhdilgjaa.PFnFates
