/- The plain part of FnAuctions: what the printed functions come to, and that the law's answer is true. No conditions beyond those of the statement. -/
import Derived.Test.YtpkdbkheggfkkaaPFnAuctionsx
import Derived.Test.YtpkdbkheggfkkaaBase
import Derived.Test.YtpkdbkheggfkkaaDefFnAuctions
namespace Go.Proofs.Ytpkdbkheggfkkaa.PFnAuctions
open Go.RowKit Go.Proofs.YtpkdbkheggfkkaaW.PrintWords Go.Proofs.YtpkdbkheggfkkaaW.PrintMore Go.Proofs.Ytpkdbkheggfkkaa.Base
set_option linter.unusedVariables false
set_option linter.unusedSimpArgs false

/-! impl_InRange -/
theorem impl_InRange_eq (a b c : Int) : impl_InRange.f a b c = some (inr a b c) := by
  unfold impl_InRange.f inr
  by_cases h : b ≤ a <;> simp [h]

/-! impl_isBid -/
theorem impl_isBid_eq (a b c : Int) : impl_isBid.f a b c = some (isBid a b) := by
  simp only [impl_isBid.f, impl_InRange_eq, Option.bind_some, ite_and, isBid]

/-! type_56 -/
theorem rd_T56_pre (pre : List (S56)) (x : S56) (rest : List (S56)) : rd_T56 (pre ++ x :: rest) (pre.length : Int) = x := getD_pre pre x rest z56

/-! areBids -/
def bdClash (x y : S56) : Bool := decide (y.f0 = x.f0)
def bdOk : List (S56) → List (S56) → Bool
  | _, [] => true
  | pre, x :: rest => isBid x.f0 x.f1 && (!pre.any (bdClash x) && bdOk (pre ++ [x]) rest)
def areBids (l : List (S56)) : Bool := decide (l.length ≤ 20) && bdOk [] l

/-! impl_AreBids -/
theorem impl_AreBids_ev (l : List (S56)) (hl : l.length < 9223372036854775807) : Ev (fun k => impl_AreBids.f k l) (areBids l) := by
  unfold impl_AreBids.f areBids
  by_cases hb : (l.length : Int) > 20
  · simp only [if_pos hb]
    exact ev_const (by simp; omega)
  · simp only [if_neg hb, show decide (l.length ≤ 20) = true from decide_eq_true (by omega), Bool.true_and]
    refine ev_range l (fun k (_ : List (S56)) i => impl_AreBids.l0 k l l (l.length : Int) i) (fun s r => bdOk s r) (fun p s => s = p) hl ?_ ?_ [] rfl
    · intro s _
      simp only [impl_AreBids.l0, if_neg (Int.lt_irrefl _)]
      exact ev_const (by simp [bdOk])
    · rintro pre x rest s e hlt hget rfl ih
      have hr : rd_T56 l (s.length : Int) = x := hget _
      have ih' := ih _ rfl
      have ht : l.take ((s.length : Int)).toNat = s := by rw [e]; simp
      have hp : impl_AreBids_1.p x.f0 x.f1 x.f2 = bdClash x := rfl
      simp only [impl_AreBids.l0, if_pos hlt, if_pos (ge0 s.length), hr, impl_isBid_eq, Option.bind_some, bdOk, if_pos (show (s.length : Int) ≤ (l.length : Int) by omega), ht, impl_AreBids_1.f, hp]
      cases h1 : isBid x.f0 x.f1 with
      | false =>
        simp only [Bool.false_eq_true, if_false, Bool.false_and]
        exact Ev.now _
      | true =>
        cases h2 : s.any (bdClash x) with
        | true =>
          simp only [if_true, Bool.not_true, Bool.false_and, Bool.and_false]
          exact Ev.now _
        | false =>
          simp only [if_true, Bool.false_eq_true, if_false, Bool.not_false, Bool.true_and]
          exact ih'

/-! withoutBid -/
def withoutBid (l : List (S56)) (a : Int) : List (S56) := l.filter (fun x => !decide (x.f0 = a))
theorem withoutBid_len (l : List (S56)) (a : Int) : (withoutBid l a).length ≤ l.length := List.length_filter_le _ _

/-! bidSort -/
def bsort (l : List (S56)) : List (S56) := Go.Proofs.Ytpkdbkheggfkkaa.SlcK.inSort slices_SortBid.lt l
theorem bidLt_iff (x y : S56) : slices_SortBid.lt x y = true ↔ y.f1 < x.f1 := by
  unfold slices_SortBid.lt
  exact decide_eq_true_iff
theorem insRev_perm (x : S56) : ∀ r : List (S56), (Go.Proofs.Ytpkdbkheggfkkaa.SlcK.insRev slices_SortBid.lt x r).Perm (x :: r)
  | [] => List.Perm.refl _
  | y :: r => by
    unfold Go.Proofs.Ytpkdbkheggfkkaa.SlcK.insRev
    split
    · exact ((insRev_perm x r).cons y).trans (List.Perm.swap x y r)
    · exact List.Perm.refl _
theorem insEnd_perm (l : List (S56)) (x : S56) : (Go.Proofs.Ytpkdbkheggfkkaa.SlcK.insEnd slices_SortBid.lt l x).Perm (x :: l) := by
  unfold Go.Proofs.Ytpkdbkheggfkkaa.SlcK.insEnd
  exact (List.reverse_perm _).trans ((insRev_perm x l.reverse).trans ((List.reverse_perm l).cons x))
theorem foldIns_perm : ∀ (l a : List (S56)), (l.foldl (Go.Proofs.Ytpkdbkheggfkkaa.SlcK.insEnd slices_SortBid.lt) a).Perm (l ++ a)
  | [], a => List.Perm.refl _
  | x :: l, a => by
    rw [List.foldl_cons]
    refine (foldIns_perm l _).trans (((insEnd_perm a x).append_left l).trans ?_)
    exact List.perm_middle
theorem bsort_perm (l : List (S56)) : (bsort l).Perm l := by
  have := foldIns_perm l []
  rw [List.append_nil] at this
  exact this
def bidDesc (l : List (S56)) : Prop := l.Pairwise (fun a b => b.f1 ≤ a.f1)
def bidAsc (l : List (S56)) : Prop := l.Pairwise (fun a b => a.f1 ≤ b.f1)
theorem insRev_asc (x : S56) : ∀ r : List (S56), bidAsc r → bidAsc (Go.Proofs.Ytpkdbkheggfkkaa.SlcK.insRev slices_SortBid.lt x r)
  | [], _ => by simp [Go.Proofs.Ytpkdbkheggfkkaa.SlcK.insRev, bidAsc]
  | y :: r, h => by
    obtain ⟨h1, h2⟩ := List.pairwise_cons.1 h
    unfold Go.Proofs.Ytpkdbkheggfkkaa.SlcK.insRev
    split
    · rename_i hlt
      have hlt := (bidLt_iff x y).1 hlt
      refine List.pairwise_cons.2 ⟨fun z hz => ?_, insRev_asc x r h2⟩
      rcases List.mem_cons.1 ((insRev_perm x r).mem_iff.1 hz) with rfl | hz
      · omega
      · exact h1 z hz
    · rename_i hlt
      have hlt : ¬ y.f1 < x.f1 := fun q => hlt ((bidLt_iff x y).2 q)
      refine List.pairwise_cons.2 ⟨fun z hz => ?_, h⟩
      rcases List.mem_cons.1 hz with rfl | hz
      · omega
      · have := h1 z hz
        omega
theorem insEnd_desc (l : List (S56)) (x : S56) (h : bidDesc l) : bidDesc (Go.Proofs.Ytpkdbkheggfkkaa.SlcK.insEnd slices_SortBid.lt l x) := by
  unfold Go.Proofs.Ytpkdbkheggfkkaa.SlcK.insEnd bidDesc
  rw [List.pairwise_reverse]
  refine insRev_asc x l.reverse ?_
  unfold bidAsc
  rw [List.pairwise_reverse]
  exact h
theorem foldIns_desc : ∀ (l a : List (S56)), bidDesc a → bidDesc (l.foldl (Go.Proofs.Ytpkdbkheggfkkaa.SlcK.insEnd slices_SortBid.lt) a)
  | [], a, h => h
  | x :: l, a, h => by
    rw [List.foldl_cons]
    exact foldIns_desc l _ (insEnd_desc a x h)
theorem bsort_desc (l : List (S56)) : bidDesc (bsort l) := foldIns_desc l [] List.Pairwise.nil
theorem bsort_len (l : List (S56)) : (bsort l).length = l.length := (bsort_perm l).length_eq
theorem areBids_len (l : List (S56)) (h : areBids l = true) : l.length ≤ 20 := by
  simp only [areBids, Bool.and_eq_true, decide_eq_true_eq] at h
  exact h.1
theorem bdOk_good : ∀ (l pre : List (S56)), bdOk pre l = true → ∀ x ∈ l, 1 ≤ x.f0 ∧ 1 ≤ x.f1
  | [], _, _ => by simp
  | y :: l, pre, h => by
    simp only [bdOk, Bool.and_eq_true] at h
    intro x hx
    rcases List.mem_cons.1 hx with rfl | hx
    · have h1 := h.1
      simp only [isBid, Bool.and_eq_true, inr_iff] at h1
      omega
    · exact bdOk_good l _ h.2.2 x hx
theorem bdOk_apart : ∀ (l pre : List (S56)), bdOk pre l = true → (∀ x ∈ l, ∀ y ∈ pre, y.f0 ≠ x.f0) ∧ l.Pairwise (fun a b => a.f0 ≠ b.f0)
  | [], _, _ => ⟨by simp, List.Pairwise.nil⟩
  | y :: l, pre, h => by
    simp only [bdOk, Bool.and_eq_true, Bool.not_eq_true'] at h
    obtain ⟨h1, h2⟩ := bdOk_apart l _ h.2.2
    have h3 : ∀ z ∈ pre, z.f0 ≠ y.f0 := fun z hz e => by
      have := List.any_eq_false.1 h.2.1 z hz
      simp [bdClash, e] at this
    refine ⟨fun x hx z hz => ?_, List.pairwise_cons.2 ⟨fun x hx => h1 x hx y (by simp), h2⟩⟩
    rcases List.mem_cons.1 hx with rfl | hx
    · exact h3 z hz
    · exact h1 x hx z (by simp [hz])
theorem areBids_good (l : List (S56)) (h : areBids l = true) : (∀ x ∈ l, 1 ≤ x.f0 ∧ 1 ≤ x.f1) ∧ l.Pairwise (fun a b => a.f0 ≠ b.f0) := by
  simp only [areBids, Bool.and_eq_true] at h
  exact ⟨bdOk_good l [] h.2, (bdOk_apart l [] h.2).2⟩
theorem bsort_apart (l : List (S56)) (h : areBids l = true) : (bsort l).Pairwise (fun a b => a.f0 ≠ b.f0) :=
  ((bsort_perm l).pairwise_iff (fun {a b} (hab : a.f0 ≠ b.f0) => Ne.symm hab)).2 (areBids_good l h).2
def winner (l : List (S56)) : Int × Int :=
  if l = [] then (0, 0) else if areBids l = true then (match bsort l with | [] => (0, 0) | [a] => (a.f0, 1) | a :: b :: _ => (a.f0, b.f1)) else (0, 0)
def highest (l : List (S56)) (n : Int) : List Int := if areBids l = true ∧ 0 ≤ n then ((bsort l).take n.toNat).map (fun x => x.f0) else []
theorem highest_len (l : List (S56)) (n : Int) : (highest l n).length ≤ l.length := by
  unfold highest
  split
  · rw [List.length_map, List.length_take, bsort_len]
    omega
  · simp
theorem without_perm {l : List (S56)} {a : S56} {t : List (S56)} (h : areBids l = true) (hs : bsort l = a :: t) : (withoutBid l a.f0).Perm t := by
  have h1 := bsort_apart l h
  rw [hs] at h1
  obtain ⟨h2, _⟩ := List.pairwise_cons.1 h1
  have h3 : (withoutBid (bsort l) a.f0).Perm (withoutBid l a.f0) := (bsort_perm l).filter _
  rw [hs] at h3
  have e : withoutBid (a :: t) a.f0 = t := by
    unfold withoutBid
    rw [List.filter_cons_of_neg (by simp)]
    exact List.filter_eq_self.2 (fun x hx => by simpa using fun q => h2 x hx q.symm)
  rw [e] at h3
  exact h3.symm

/-! clone:impl.Bid -/
theorem clone_Bid_eq (l : List (S56)) (h : l.length < 5864062014805) : impl_Bid_138.f l = some l := by
  unfold impl_Bid_138.f
  simp only [Option.bind_some, List.length_nil, List.nil_append, Nat.zero_add, if_pos h]

/-! impl_descending -/
theorem impl_descending_eq (l : List (S56)) (h : l.length ≤ 20) : impl_descending.f l = some (bsort l) := by
  unfold impl_descending.f bsort slices_SortBid.f
  rw [clone_Bid_eq l (by omega), Option.bind_some, if_pos h, Option.bind_some]

/-! impl_Winner -/
theorem impl_Winner_ev (l : List (S56)) (hl : l.length < 9223372036854775807) : Ev (fun k => impl_Winner.f k l) (winner l) := by
  have jt : Ev (fun k => impl_Winner.j0 k l true) (0, 0) := by
    refine ev_succ ?_
    simp only [impl_Winner.j0, if_true]
    exact Ev.now _
  unfold impl_Winner.f winner
  by_cases h0 : l = []
  · subst h0
    simp only [List.length_nil, if_true]
    simp only [Int.natCast_zero, if_true]
    exact jt
  · have hlen : ¬ (l.length : Int) = 0 := fun q => h0 (List.length_eq_zero_iff.1 (by omega))
    simp only [if_neg hlen, if_neg h0]
    refine Ev.bind (impl_AreBids_ev l hl) ?_
    cases ha : areBids l with
    | false =>
      simp only [Bool.not_false, Bool.false_eq_true, if_false]
      exact jt
    | true =>
      have hb := bsort_len l
      simp only [Bool.not_true, if_true]
      refine ev_succ ?_
      simp only [impl_Winner.j0, Bool.false_eq_true, if_false, impl_descending_eq l (areBids_len l ha), Option.bind_some]
      match hs : bsort l with
      | [] =>
        rw [hs] at hb
        simp at hb
        omega
      | [a] => exact ev_const (by simp [rd_T56])
      | a :: b :: t =>
        refine ev_const ?_
        rw [if_neg (by simp only [List.length_cons]; omega), if_pos (by simp only [List.length_cons]; omega), if_pos (by simp only [List.length_cons]; omega)]
        rfl

/-! impl_HighestBids -/
theorem impl_HighestBids_ev (l : List (S56)) (n : Int) (hl : l.length < 9223372036854775807) : Ev (fun k => impl_HighestBids.f k l n) (highest l n) := by
  have jt : Ev (fun k => impl_HighestBids.j0 k l n [] true) [] := by
    refine ev_succ ?_
    simp only [impl_HighestBids.j0, if_true]
    exact Ev.now _
  unfold impl_HighestBids.f highest
  simp only [Option.bind_some]
  refine Ev.bind (impl_AreBids_ev l hl) ?_
  cases ha : areBids l with
  | false =>
    simp only [Bool.false_eq_true, if_false, false_and]
    exact jt
  | true =>
    simp only [if_true, true_and]
    by_cases hn : n < 0
    · simp only [decide_eq_true hn, if_neg (show ¬ 0 ≤ n by omega)]
      exact jt
    · have hb := bsort_len l
      have hb20 := areBids_len l ha
      simp only [decide_eq_false hn, if_pos (show 0 ≤ n by omega)]
      refine ev_succ ?_
      simp only [impl_HighestBids.j0, Bool.false_eq_true, if_false, impl_descending_eq l hb20, Option.bind_some]
      refine ev_map (ev_range (bsort l) (fun k (s : List Int × Nat) i => impl_HighestBids.l0 k n s.1 (bsort l) ((bsort l).length : Int) i) (fun s r => s.1 ++ (r.take (n.toNat - s.2)).map (fun x => x.f0)) (fun p s => s.2 = p.length ∧ s.1.length ≤ p.length) (by omega) ?_ ?_ ([], 0) ⟨rfl, Nat.le_refl _⟩) (by simp)
      · rintro ⟨s, m⟩ _
        simp only [impl_HighestBids.l0, if_neg (Int.lt_irrefl _)]
        exact ev_const (by simp)
      · rintro pre x rest ⟨s, m⟩ e hlt hget ⟨hm, hs⟩ ih
        have hm' : m = pre.length := hm
        have hs' : s.length ≤ pre.length := hs
        subst hm'
        have hr : rd_T56 (bsort l) (pre.length : Int) = x := hget _
        simp only [impl_HighestBids.l0, if_pos hlt, if_pos (ge0 pre.length), hr]
        by_cases h1 : (pre.length : Int) < n
        · simp only [if_pos h1, if_pos (show s.length < 17592186044416 by omega)]
          refine ev_map (ih (s ++ [x.f0], pre.length + 1) ⟨by simp, by simp; omega⟩) ?_
          obtain ⟨q, hq⟩ : ∃ q, n.toNat - pre.length = q + 1 := ⟨n.toNat - pre.length - 1, by omega⟩
          simp only [hq, show n.toNat - (pre.length + 1) = q by omega, List.take_succ_cons, List.map_cons, List.append_assoc, List.singleton_append]
        · simp only [if_neg h1]
          refine ev_map (ih (s, pre.length + 1) ⟨by simp, by simp; omega⟩) ?_
          simp only [show n.toNat - (pre.length + 1) = 0 by omega, show n.toNat - pre.length = 0 by omega, List.take_zero]

/-! cursor -/
theorem i64_and255 (n : Int) : bits .and .i64 n 255 = n % 256 := by
  have h255 : (BitVec.ofInt 64 255).toNat = 2 ^ 8 - 1 := by decide
  have key : (BitVec.ofInt 64 n &&& BitVec.ofInt 64 255).toNat = (n % ((2 ^ 64 : Nat) : Int)).toNat % 2 ^ 8 := by
    rw [BitVec.toNat_and, BitVec.toNat_ofInt, h255, Nat.and_two_pow_sub_one_eq_mod]
  show IntKind.i64.wrap ((BitVec.ofInt 64 n &&& BitVec.ofInt 64 255).toNat : Nat) = n % 256
  rw [key, IntKind.wrap_i64]
  omega
/-- A cursor over the bytes b stands at place i. -/
def Cur (b : List Int) (i : Int) : Prop := b.length ≤ 1048576 ∧ 0 ≤ i ∧ i ≤ (b.length : Int)

/-! spec_l1New -/
theorem l1New_tot (b : List Int) (hl : b.length ≤ 1048576) : ∃ h, Ev (fun k => spec_l1New.f k b) (b, 0, h) := by
  have key : ∀ (d i : Nat) (h : Int), i + d = b.length → ∃ h', Ev (fun k => spec_l1New.l0 k b h (i : Int)) (b, 0, h') := by
    intro d
    induction d with
    | zero =>
      intro i h hi
      refine ⟨h, ev_succ ?_⟩
      simp only [spec_l1New.l0, if_neg (show ¬ (i : Int) < (b.length : Int) by omega)]
      exact Ev.now _
    | succ d ih =>
      intro i h hi
      by_cases h4 : (i : Int) < 4000
      · obtain ⟨h', e⟩ := ih (i + 1) (bits .and .i64 (wrap64 (wrap64 (wrap64 (h * 137) + wrap64 (rd b i)) + 11)) 1073741823) (by omega)
        refine ⟨h', ev_succ ?_⟩
        simp only [spec_l1New.l0, if_pos (show (i : Int) < (b.length : Int) by omega), if_pos h4, if_pos (ge0 i), wsucc (show i < 9223372036854775807 by omega)]
        exact e
      · refine ⟨h, ev_succ ?_⟩
        simp only [spec_l1New.l0, if_pos (show (i : Int) < (b.length : Int) by omega), if_neg h4]
        exact Ev.now _
  exact key b.length 0 _ (by omega)
theorem cur0 (b : List Int) (hl : b.length ≤ 1048576) : Cur b 0 := ⟨hl, by omega, by omega⟩

/-! spec_l1Byte -/
theorem l1Byte_tot (b : List Int) (i h : Int) (hc : Cur b i) : ∃ x i' h', spec_l1Byte.f b i h = some (x, i', h') ∧ 0 ≤ x ∧ x < 256 ∧ Cur b i' := by
  obtain ⟨h1, h2, h3⟩ := hc
  unfold spec_l1Byte.f
  by_cases hi : i < (b.length : Int)
  · rw [if_pos hi, if_pos h2]
    refine ⟨_, _, _, rfl, ?_, ?_, h1, ?_⟩
    · rw [i64_and255 (wrap64 _)]
      omega
    · rw [i64_and255 (wrap64 _)]
      omega
    · rw [w64 (by omega) (by omega)]
      omega
  · rw [if_neg hi]
    refine ⟨_, _, _, rfl, ?_, ?_, h1, h2, h3⟩
    · rw [i64_and255]
      omega
    · rw [i64_and255]
      omega

/-! spec_l1Below -/
theorem l1Below_tot (b : List Int) (i h n : Int) (hc : Cur b i) : ∃ x i' h', spec_l1Below.f b i h n = some (x, i', h') ∧ 0 ≤ x ∧ (0 < n → x < n) ∧ Cur b i' := by
  unfold spec_l1Below.f
  by_cases hn : n ≤ 0
  · rw [if_pos hn]
    exact ⟨_, _, _, rfl, by omega, fun h => by omega, hc⟩
  · rw [if_neg hn]
    by_cases h256 : n ≤ 256
    · rw [if_pos h256]
      obtain ⟨x, i1, h1, e1, hx0, hx1, c1⟩ := l1Byte_tot b i h hc
      simp only [e1, Option.bind_some, if_neg (show ¬ n = 0 by omega)]
      exact ⟨_, _, _, rfl, Int.tmod_nonneg _ hx0, fun h => Int.tmod_lt_of_pos _ h, c1⟩
    · rw [if_neg h256]
      obtain ⟨x, i1, h1, e1, hx0, hx1, c1⟩ := l1Byte_tot b i h hc
      obtain ⟨y, i2, h2, e2, hy0, hy1, c2⟩ := l1Byte_tot b i1 h1 c1
      obtain ⟨z, i3, h3, e3, hz0, hz1, c3⟩ := l1Byte_tot b i2 h2 c2
      simp only [e1, e2, e3, Option.bind_some, if_neg (show ¬ n = 0 by omega)]
      refine ⟨_, _, _, rfl, Int.tmod_nonneg _ ?_, fun h => Int.tmod_lt_of_pos _ h, c3⟩
      rw [w64 (x := x * 65536) (by omega) (by omega), w64 (x := y * 256) (by omega) (by omega), w64 (x := x * 65536 + y * 256) (by omega) (by omega), w64 (by omega) (by omega)]
      omega

/-! spec_l1Int -/
theorem l1Int_tot (b : List Int) (i h : Int) (l : List Int) (hl : 0 < l.length) (hc : Cur b i) : ∃ x i' h', spec_l1Int.f b i h l = some (x, i', h') ∧ x ∈ l ∧ Cur b i' := by
  obtain ⟨x, i1, h1, e1, hx0, hx1, c1⟩ := l1Below_tot b i h (l.length : Int) hc
  have hx := hx1 (by omega)
  unfold spec_l1Int.f
  simp only [e1, Option.bind_some, if_pos hx0, if_pos hx]
  refine ⟨_, _, _, rfl, ?_, c1⟩
  unfold rd
  rw [List.getD_eq_getElem?_getD, List.getElem?_eq_getElem (by omega)]
  exact List.getElem_mem _

/-! spec_l1In -/
theorem spec_l1In_eq (a b c : Int) : spec_l1In.f a b c = some (inr a b c) := by
  unfold spec_l1In.f inr
  by_cases h : b ≤ a <;> simp [h]

/-! spec_Mod -/
theorem spec_Mod_eq (a : Int) : spec_Mod.f a 2147483647 = some (a % 2147483647) := by
  simp only [spec_Mod.f, spec_l1In_eq, Option.bind_some]
  rw [if_pos (by decide), if_neg (by decide), mod_up]

/-! spec_Hash -/
theorem spec_Hash_loop (rest : List Int) : ∀ (pre : List Int) (acc : Int), (pre ++ rest).length < 9223372036854775807 → Ev (fun k => spec_Hash.l0 k (pre ++ rest) acc (pre.length : Int)) (rest.foldl hstep acc) := by
  induction rest with
  | nil =>
    intro pre acc h
    refine ev_succ ?_
    simp only [spec_Hash.l0, if_neg (nlt_pre pre)]
    exact Ev.now _
  | cons x rest ih =>
    intro pre acc h
    have hl := len_pre pre x rest
    refine ev_succ ?_
    simp only [spec_Hash.l0, if_pos (lt_pre pre x rest), if_pos (ge0 pre.length), rd_pre, spec_Mod_eq, Option.bind_some, wsucc (show pre.length < 9223372036854775807 by omega)]
    rw [snoc_len pre x]
    have := ih (pre ++ [x]) (hstep acc x) (by rw [← app_pre]; exact h)
    rw [← app_pre] at this
    exact this
theorem spec_Hash_ev (l : List Int) (h : l.length < 9223372036854775807) : Ev (fun k => spec_Hash.f k l) (ghash l) := spec_Hash_loop l [] 11 h

/-! spec_SealBid -/
theorem spec_SealBid_ev (a b c : Int) : Ev (fun k => spec_SealBid.f k a b c) (ghash [a, b, c]) := by
  simp only [spec_SealBid.f]
  exact Ev.bind (spec_Hash_ev _ (by simp)) (Ev.now _)

/-! spec_l19Any -/
theorem l19Any_tot (b : List Int) (i h : Int) (hc : Cur b i) : ∃ l i' h', Ev (fun k => spec_l19Any.f k b i h) (l, i', h') ∧ l.length ≤ 8 ∧ Cur b i' := by
  have fin : ∀ (l : List (S56)) (x : Nat) (y i1 h1 : Int) (i h : Int), spec_l1Below.f b i h 7 = some (y, i1, h1) → ¬ (x : Int) ≤ y → l.length ≤ 8 → Cur b i1 → ∃ l' i' h', Ev (fun k => spec_l19Any.l0 k l (x : Int) b i h) (l', i', h') ∧ l'.length ≤ 8 ∧ Cur b i' := by
    intro l x y i1 h1 i h e1 hxy hl c1
    by_cases h0 : (l.length : Int) > 0
    · obtain ⟨p, i2, h2, e2, hp0, hp1, c2⟩ := l1Below_tot b i1 h1 (l.length : Int) c1
      have hp := hp1 (by omega)
      obtain ⟨a, i3, h3, e3, _, _, c3⟩ := l1Below_tot b i2 h2 10 c2
      by_cases q0 : a = 0
      · obtain ⟨z, i4, h4, e4, _, c4⟩ := l1Int_tot b i3 h3 [0, 1, 999, 1000] (by decide) c3
        refine ⟨l.set p.toNat ⟨z, (rd_T56 l p).f1, (rd_T56 l p).f2⟩, i4, h4, ev_succ ?_, by rw [List.length_set]; exact hl, c4⟩
        simp only [spec_l19Any.l0, e1, e2, e3, e4, Option.bind_some, if_neg hxy, if_pos h0, if_pos q0, if_pos hp0, if_pos hp]
        exact Ev.now _
      by_cases q1 : a = 1
      · obtain ⟨z, i4, h4, e4, _, c4⟩ := l1Int_tot b i3 h3 [0, 10000000, 10000001] (by decide) c3
        refine ⟨l.set p.toNat ⟨(rd_T56 l p).f0, z, (rd_T56 l p).f2⟩, i4, h4, ev_succ ?_, by rw [List.length_set]; exact hl, c4⟩
        simp only [spec_l19Any.l0, e1, e2, e3, e4, Option.bind_some, if_neg hxy, if_pos h0, if_neg q0, if_pos q1, if_pos hp0, if_pos hp]
        exact Ev.now _
      · refine ⟨l, i3, h3, ev_succ ?_, hl, c3⟩
        simp only [spec_l19Any.l0, e1, e2, e3, Option.bind_some, if_neg hxy, if_pos h0, if_neg q0, if_neg q1]
        exact Ev.now _
    · refine ⟨l, i1, h1, ev_succ ?_, hl, c1⟩
      simp only [spec_l19Any.l0, e1, Option.bind_some, if_neg hxy, if_neg h0]
      exact Ev.now _
  have key : ∀ (m : Nat) (l : List (S56)) (x : Nat) (i h : Int), x + m = 7 → l.length + 1 ≤ x → Cur b i → ∃ l' i' h', Ev (fun k => spec_l19Any.l0 k l (x : Int) b i h) (l', i', h') ∧ l'.length ≤ 8 ∧ Cur b i' := by
    intro m
    induction m with
    | zero =>
      intro l x i h hx hl hc
      obtain ⟨y, i1, h1, e1, _, hy, c1⟩ := l1Below_tot b i h 7 hc
      have := hy (by omega)
      exact fin l x y i1 h1 i h e1 (by omega) (by omega) c1
    | succ m ih =>
      intro l x i h hx hl hc
      obtain ⟨y, i1, h1, e1, _, hy, c1⟩ := l1Below_tot b i h 7 hc
      by_cases hxy : (x : Int) ≤ y
      · obtain ⟨z, i2, h2, e2, _, _, c2⟩ := l1Below_tot b i1 h1 12 c1
        obtain ⟨l', i', h', e, hl', c'⟩ := ih (l ++ [⟨(x : Int), wrap64 (1 + z), ghash [7, (x : Int), wrap64 (1 + z)]⟩]) (x + 1) i2 h2 (by omega) (by simp; omega) c2
        refine ⟨l', i', h', ev_succ ?_, hl', c'⟩
        simp only [spec_l19Any.l0, e1, e2, Option.bind_some, if_pos hxy, wsucc (show x < 9223372036854775807 by omega)]
        refine Ev.bind (spec_SealBid_ev 7 (x : Int) (wrap64 (1 + z))) ?_
        simp only [if_pos (show l.length < 5864062014805 by omega)]
        exact e
      · exact fin l x y i1 h1 i h e1 hxy (by omega) c1
  exact key 6 [] 1 i h (by omega) (by simp) hc

/-! spec_DrawAreBids -/
theorem DrawAreBids_tot (b : List Int) (hl : b.length ≤ 1048576) : ∃ l, Ev (fun k => spec_DrawAreBids.f k b) l ∧ l.length ≤ 8 := by
  obtain ⟨h0, e0⟩ := l1New_tot b hl
  obtain ⟨l, i1, h1, e1, hl1, c1⟩ := l19Any_tot b 0 h0 (cur0 b hl)
  refine ⟨l, ?_, hl1⟩
  unfold spec_DrawAreBids.f
  refine Ev.bind e0 ?_
  refine Ev.bind e1 ?_
  exact Ev.now _

/-! spec_DrawWinner -/
theorem DrawWinner_tot (b : List Int) (hl : b.length ≤ 1048576) : ∃ l, Ev (fun k => spec_DrawWinner.f k b) l ∧ l.length ≤ 8 := by
  obtain ⟨l, e, hl8⟩ := DrawAreBids_tot b hl
  exact ⟨l, by unfold spec_DrawWinner.f; exact Ev.bind e (Ev.now _), hl8⟩

/-! spec_AreBids -/
theorem spec_AreBids_j1_true (l : List (S56)) (i : Int) : Ev (fun k => spec_AreBids.j1 k l i true) false := by
  refine ev_succ ?_
  simp only [spec_AreBids.j1, if_true]
  exact Ev.now _
theorem spec_AreBids_j1_false {l pre rest : List (S56)} {x : S56} (e : l = pre ++ x :: rest) (hl : l.length < 9223372036854775807) (R : Bool) (ih : Ev (fun k => spec_AreBids.l0 k l (wrap64 ((pre.length : Int) + 1))) R) :
    Ev (fun k => spec_AreBids.j1 k l (pre.length : Int) false) (!pre.any (bdClash x) && R) := by
  have hlen : l.length = pre.length + (rest.length + 1) := by rw [e, len_pre]
  have hx : rd_T56 l (pre.length : Int) = x := by
    unfold rd_T56
    rw [e]
    simp
  refine ev_succ ?_
  simp only [spec_AreBids.j1, Bool.false_eq_true, if_false]
  refine ev_range pre (fun k _ j => spec_AreBids.l1 k l (pre.length : Int) j) (fun _ r => !r.any (bdClash x) && R) (fun _ _ => True) (by omega) ?_ ?_ () trivial
  · intro _ _
    simp only [spec_AreBids.l1, if_neg (Int.lt_irrefl _)]
    simpa using ih
  · intro p y r _ ep hlt hget _ ihj
    have hr : rd_T56 l (p.length : Int) = y := by
      have := hget z56
      unfold rd_T56
      rw [e, getD_app _ _ _ (by omega)]
      exact this
    simp only [spec_AreBids.l1, if_pos hlt, if_pos (ge0 p.length), if_pos (show (p.length : Int) < (l.length : Int) by omega), if_pos (ge0 pre.length), if_pos (show (pre.length : Int) < (l.length : Int) by omega), hr, hx]
    by_cases h0 : y.f0 = x.f0
    · simp only [if_pos h0]
      exact ev_const (by simp [bdClash, h0])
    · simp only [if_neg h0]
      exact ev_map (ihj () trivial) (by simp [bdClash, h0])
theorem spec_AreBids_ev (l : List (S56)) (hl : l.length < 9223372036854775807) : Ev (fun k => spec_AreBids.f k l) (areBids l) := by
  refine ev_map (ev_range l (fun k (_ : List (S56)) i => spec_AreBids.l0 k l i) (fun s r => bdOk s r && decide ((l.length : Int) ≤ 20)) (fun p s => s = p) hl ?_ ?_ [] rfl) ?_
  · intro s _
    simp only [spec_AreBids.l0, if_neg (Int.lt_irrefl _)]
    exact ev_const (by simp [bdOk])
  · rintro pre x rest s e hlt hget rfl ih
    have hr : rd_T56 l (s.length : Int) = x := hget _
    have ih' := ih _ rfl
    simp only [spec_AreBids.l0, if_pos hlt, if_pos (ge0 s.length), hr, spec_l1In_eq, Option.bind_some, bdOk, isBid]
    cases h1 : inr x.f0 1 999 with
    | false => exact spec_AreBids_j1_true _ _
    | true =>
      cases h2 : inr x.f1 1 10000000 with
      | false => exact spec_AreBids_j1_true _ _
      | true =>
        simp only [if_true, Bool.true_and, Bool.not_true, Bool.and_assoc]
        exact spec_AreBids_j1_false e hl _ ih'
  · unfold areBids
    rw [Bool.and_comm, show decide ((l.length : Int) ≤ 20) = decide (l.length ≤ 20) from decide_eq_decide.2 (by omega)]

/-! impl_WithoutBid -/
theorem impl_WithoutBid_ev (l : List (S56)) (a : Int) (h : l.length ≤ 1099511627776) : Ev (fun k => impl_WithoutBid.f k l a) (withoutBid l a) := by
  refine ev_map (ev_range l (fun k (s : List (S56)) i => impl_WithoutBid.l0 k a s l (l.length : Int) i) (fun s r => s ++ withoutBid r a) (fun p s => s.length ≤ p.length) (by omega) ?_ ?_ [] (Nat.le_refl _)) (by simp)
  · intro s _
    simp only [impl_WithoutBid.l0, if_neg (Int.lt_irrefl _)]
    exact ev_const (by simp [withoutBid])
  · intro pre x rest s _ hlt hget hs ih
    have hr : rd_T56 l (pre.length : Int) = x := hget _
    have hx : (⟨x.f0, x.f1, x.f2⟩ : S56) = x := rfl
    have hs' : s.length ≤ pre.length := hs
    simp only [impl_WithoutBid.l0, if_pos hlt, if_pos (ge0 pre.length), hr, hx, if_pos (show s.length < 5864062014805 by omega)]
    by_cases h0 : x.f0 = a
    · simp only [if_pos h0]
      exact ev_map (ih s (by simp; omega)) (by simp [withoutBid, h0])
    · simp only [if_neg h0]
      exact ev_map (ih _ (by simp; omega)) (by simp [withoutBid, h0])

/-! spec_DrawHighestBids -/
theorem DrawHighestBids_tot (b : List Int) (hl : b.length ≤ 1048576) : ∃ l n, Ev (fun k => spec_DrawHighestBids.f k b) (l, n) ∧ l.length ≤ 8 := by
  obtain ⟨h0, e0⟩ := l1New_tot b hl
  obtain ⟨l, i1, h1, e1, hl1, c1⟩ := l19Any_tot b 0 h0 (cur0 b hl)
  obtain ⟨n, i2, h2, e2, _, _, c2⟩ := l1Below_tot b i1 h1 8 c1
  refine ⟨l, wrap64 (n - 1), ?_, hl1⟩
  unfold spec_DrawHighestBids.f
  refine Ev.bind e0 ?_
  refine Ev.bind e1 ?_
  simp only [e2, Option.bind_some]
  exact Ev.now _

/-! spec_DrawIsOpened -/
theorem DrawIsOpened_tot (b : List Int) (hl : b.length ≤ 1048576) : ∃ x : Int × Int × Int × Int, Ev (fun k => spec_DrawIsOpened.f k b) x := by
  obtain ⟨h0, e0⟩ := l1New_tot b hl
  obtain ⟨l, i1, h1, e1, hl1, c1⟩ := l19Any_tot b 0 h0 (cur0 b hl)
  obtain ⟨n, i2, h2, e2, _, c2⟩ := l1Int_tot b i1 h1 [7, 7, 8] (by decide) c1
  by_cases hz : (l.length : Int) = 0
  · refine ⟨(0, 0, 0, n), ?_⟩
    unfold spec_DrawIsOpened.f
    refine Ev.bind e0 ?_
    refine Ev.bind e1 ?_
    simp only [e2, Option.bind_some, if_pos hz]
    exact Ev.now _
  · refine ⟨((rd_T56 l 0).f0, (rd_T56 l 0).f1, (rd_T56 l 0).f2, n), ?_⟩
    unfold spec_DrawIsOpened.f
    refine Ev.bind e0 ?_
    refine Ev.bind e1 ?_
    simp only [e2, Option.bind_some, if_neg hz, if_pos (show 0 < (l.length : Int) by omega)]
    exact Ev.now _

/-! impl_Mod -/
theorem impl_Mod_eq (a : Int) : impl_Mod.f a 2147483647 = some (a % 2147483647) := by
  simp only [impl_Mod.f, impl_InRange_eq, Option.bind_some]
  rw [if_pos (by decide), if_neg (by decide)]
  by_cases h : Int.tmod a 2147483647 < 0
  · rw [if_pos h, mod_lo a h]
  · rw [if_neg h, mod_hi a h]

/-! impl_fold -/
theorem impl_fold_eq (a v : Int) : impl_fold.f a v = some (hstep a v) := by
  simp only [impl_fold.f, impl_Mod_eq, Option.bind_some, hstep]

/-! impl_Hash -/
theorem impl_Hash_loop (rest : List Int) : ∀ (pre : List Int) (acc : Int), (pre ++ rest).length < 9223372036854775807 → Ev (fun k => impl_Hash.l0 k acc (pre ++ rest) ((pre ++ rest).length : Int) (pre.length : Int)) (rest.foldl hstep acc) := by
  induction rest with
  | nil =>
    intro pre acc h
    refine ev_succ ?_
    simp only [impl_Hash.l0, if_neg (nlt_pre pre)]
    exact Ev.now _
  | cons x rest ih =>
    intro pre acc h
    have hl := len_pre pre x rest
    refine ev_succ ?_
    simp only [impl_Hash.l0, if_pos (lt_pre pre x rest), if_pos (ge0 pre.length), rd_pre, impl_fold_eq, Option.bind_some, wsucc (show pre.length < 9223372036854775807 by omega)]
    rw [snoc_len pre x]
    have := ih (pre ++ [x]) (hstep acc x) (by rw [← app_pre]; exact h)
    rw [← app_pre] at this
    exact this
theorem impl_Hash_ev (l : List Int) (h : l.length < 9223372036854775807) : Ev (fun k => impl_Hash.f k l) (ghash l) := impl_Hash_loop l [] 11 h

/-! impl_SealBid -/
theorem impl_SealBid_ev (a b c : Int) : Ev (fun k => impl_SealBid.f k a b c) (ghash [a, b, c]) := by
  simp only [impl_SealBid.f]
  exact Ev.bind (impl_Hash_ev _ (by simp)) (Ev.now _)

/-! impl_IsOpened -/
theorem impl_IsOpened_ev (a b c s : Int) : Ev (fun k => impl_IsOpened.f k a b c s) (isBid a b && (ghash [s, a, b] == c)) := by
  simp only [impl_IsOpened.f, impl_isBid_eq, Option.bind_some]
  cases h1 : isBid a b with
  | false => exact Ev.now _
  | true => exact Ev.bind (impl_SealBid_ev s a b) (Ev.now _)

/-! the law -/
theorem auc_j4 (code : List Int) (hl : code.length ≤ 1048576) : Ev (fun k => laws_FnAuctions.j4 k code) true := by
  obtain ⟨l, n, e1, hl8⟩ := DrawHighestBids_tot code hl
  obtain ⟨⟨a, b, c, s⟩, e2⟩ := DrawIsOpened_tot code hl
  refine ev_succ ?_
  simp only [laws_FnAuctions.j4]
  refine Ev.bind e1 ?_
  refine Ev.bind e2 ?_
  refine Ev.bind (impl_HighestBids_ev l n (by omega)) ?_
  have h1 := highest_len l n
  simp only [if_pos (show ((highest l n).length : Int) ≤ (l.length : Int) by omega)]
  refine Ev.bind (impl_IsOpened_ev a b c s) ?_
  cases h2 : isBid a b && (ghash [s, a, b] == c) with
  | false => exact Ev.now _
  | true =>
    simp only [if_true]
    refine Ev.bind (impl_SealBid_ev s a b) ?_
    simp only [Bool.and_eq_true] at h2
    exact ev_const (by rw [h2.2])
def mostOf (l : List (S56)) (m : Int) : Int := l.foldl (fun m x => if x.f1 > m then x.f1 else m) m
theorem most_ge : ∀ (l : List (S56)) (m : Int), m ≤ mostOf l m ∧ ∀ x ∈ l, x.f1 ≤ mostOf l m
  | [], m => by simp [mostOf]
  | x :: l, m => by
    obtain ⟨h1, h2⟩ := most_ge l (if x.f1 > m then x.f1 else m)
    have e : mostOf (x :: l) m = mostOf l (if x.f1 > m then x.f1 else m) := rfl
    rw [e]
    have h3 : m ≤ (if x.f1 > m then x.f1 else m) ∧ x.f1 ≤ (if x.f1 > m then x.f1 else m) := by split <;> omega
    refine ⟨Int.le_trans h3.1 h1, fun y hy => ?_⟩
    rcases List.mem_cons.1 hy with q | hy
    · rw [q]; exact Int.le_trans h3.2 h1
    · exact h2 y hy
theorem most_in : ∀ (l : List (S56)) (m : Int), mostOf l m = m ∨ ∃ x ∈ l, x.f1 = mostOf l m
  | [], m => .inl rfl
  | x :: l, m => by
    have e : mostOf (x :: l) m = mostOf l (if x.f1 > m then x.f1 else m) := rfl
    rw [e]
    rcases most_in l (if x.f1 > m then x.f1 else m) with h | ⟨y, hy, h⟩
    · by_cases hx : x.f1 > m
      · right
        rw [if_pos hx] at h ⊢
        exact ⟨x, by simp, h.symm⟩
      · left
        rw [if_neg hx] at h ⊢
        exact h
    · exact .inr ⟨y, by simp [hy], h⟩
theorem auc_l1 (code : List Int) (hl : code.length ≤ 1048576) (l rest : List (S56)) (price : Int) (hn : rest.length ≤ 1099511627776) (hl0 : l.length ≤ 1099511627776) (h1 : rest.length + 1 = l.length) (h2 : rest ≠ [] → price = mostOf rest 0) (h3 : rest = [] → price = 1) :
    Ev (fun k => laws_FnAuctions.l1 k code l price rest 0 0) true := by
  have hj := auc_j4 code hl
  have key := ev_range rest (fun k (s : Int) i => laws_FnAuctions.l1 k code l price rest s i) (fun s r => decide (mostOf r s = mostOf rest 0)) (fun p s => mostOf (rest.drop p.length) s = mostOf rest 0) (by omega) ?_ ?_ 0 (by simp)
  · exact ev_map key (by simp)
  · intro s hs
    have hs' : s = mostOf rest 0 := by
      have : mostOf (rest.drop rest.length) s = mostOf rest 0 := hs
      rw [List.drop_length] at this
      exact this
    simp only [laws_FnAuctions.l1, if_neg (Int.lt_irrefl _), w64 (x := (l.length : Int) - 1) (by omega) (by omega), if_pos (show (rest.length : Int) = (l.length : Int) - 1 by omega)]
    have hd : decide (mostOf [] s = mostOf rest 0) = true := decide_eq_true hs'
    rw [hd]
    by_cases h0 : rest = []
    · have h4 := h3 h0
      simp only [if_neg (show ¬ (rest.length : Int) > 0 by rw [h0]; simp), if_pos (show (rest.length : Int) = 0 by rw [h0]; rfl), if_pos h4]
      exact hj
    · have h5 : 0 < rest.length := List.length_pos_iff.2 h0
      have h4 := h2 h0
      simp only [if_pos (show (rest.length : Int) > 0 by omega), if_neg (show ¬ (rest.length : Int) = 0 by omega), if_pos (show price = s by rw [h4, hs'])]
      exact hj
  · rintro pre x rr s e hlt hget hs ih
    have hr : rd_T56 rest (pre.length : Int) = x := hget _
    have hs' : mostOf (x :: rr) s = mostOf rest 0 := by
      have : mostOf (rest.drop pre.length) s = mostOf rest 0 := hs
      rw [e, List.drop_left] at this
      rw [this, ← e]
    have e2 : mostOf (x :: rr) s = mostOf rr (if x.f1 > s then x.f1 else s) := rfl
    have hd : ∀ y, rest.drop (pre ++ [x]).length = y → y = rr := fun y hy => by
      rw [← hy, e, show pre ++ x :: rr = (pre ++ [x]) ++ rr by simp, List.drop_left]
    simp only [laws_FnAuctions.l1, if_pos hlt, if_pos (ge0 pre.length), hr]
    by_cases hx : x.f1 > s
    · rw [if_pos hx] at e2
      simp only [if_pos hx]
      exact ev_map (ih x.f1 (by rw [hd _ rfl, ← e2]; exact hs')) (by rw [e2])
    · rw [if_neg hx] at e2
      simp only [if_neg hx]
      exact ev_map (ih s (by rw [hd _ rfl, ← e2]; exact hs')) (by rw [e2])
theorem auc_l0 (code : List Int) (hl : code.length ≤ 1048576) (l rest : List (S56)) (w price : Int) (hl0 : l.length ≤ 1099511627776) (hin : ∀ x ∈ l, (x.f0 = w → price ≤ x.f1) ∧ (x.f0 ≠ w → x.f1 ≤ price)) (ht : Ev (fun k => laws_FnAuctions.l1 k code l price rest 0 0) true) :
    Ev (fun k => laws_FnAuctions.l0 k code l w price rest 0 0) true := by
  refine ev_range l (fun k (_ : Unit) i => laws_FnAuctions.l0 k code l w price rest 0 i) (fun _ _ => true) (fun _ _ => True) (by omega) ?_ ?_ () trivial
  · intro _ _
    simp only [laws_FnAuctions.l0, if_neg (Int.lt_irrefl _)]
    exact ht
  · rintro pre x rr _ e hlt hget _ ih
    have hr : rd_T56 l (pre.length : Int) = x := hget _
    obtain ⟨h1, h2⟩ := hin x (by rw [e]; simp)
    simp only [laws_FnAuctions.l0, if_pos hlt, if_pos (ge0 pre.length), hr]
    by_cases hw : x.f0 = w
    · simp only [if_pos hw, if_neg (show ¬ price > x.f1 by have := h1 hw; omega)]
      exact ih () trivial
    · simp only [if_neg hw, if_neg (show ¬ x.f1 > price by have := h2 hw; omega)]
      exact ih () trivial
theorem auc_facts (l : List (S56)) (h : areBids l = true) (h0 : l ≠ []) : ∃ w price rest, winner l = (w, price) ∧ w ≠ 0 ∧ highest l (l.length : Int) = w :: rest ∧ (w :: rest).length = l.length ∧
    (∀ x ∈ l, (x.f0 = w → price ≤ x.f1) ∧ (x.f0 ≠ w → x.f1 ≤ price)) ∧ (withoutBid l w).length + 1 = l.length ∧ (withoutBid l w ≠ [] → price = mostOf (withoutBid l w) 0) ∧ (withoutBid l w = [] → price = 1) := by
  obtain ⟨g1, g2⟩ := areBids_good l h
  have hlen := bsort_len l
  have hmem : ∀ x, x ∈ bsort l ↔ x ∈ l := fun x => (bsort_perm l).mem_iff
  have hdesc := bsort_desc l
  have hap := bsort_apart l h
  have hh : highest l (l.length : Int) = (bsort l).map (fun x => x.f0) := by
    unfold highest
    rw [if_pos ⟨h, by omega⟩, Int.toNat_natCast, ← hlen, List.take_length]
  match hs : bsort l with
  | [] =>
    rw [hs] at hlen
    exact absurd (List.length_eq_zero_iff.1 hlen.symm) h0
  | a :: t =>
    have hp := without_perm h hs
    rw [hs] at hdesc hap hlen hh
    obtain ⟨d1, d2⟩ := List.pairwise_cons.1 hdesc
    obtain ⟨p1, p2⟩ := List.pairwise_cons.1 hap
    have ha := g1 a ((hmem a).1 (by rw [hs]; simp))
    have hin : ∀ x ∈ l, x = a ∨ x ∈ t := fun x hx => List.mem_cons.1 (hs ▸ (hmem x).2 hx)
    have hwl : (withoutBid l a.f0).length + 1 = l.length := by
      rw [hp.length_eq, ← hlen]
      rfl
    have hne : ∀ x ∈ l, x.f0 = a.f0 → x = a := fun x hx e => (hin x hx).elim id (fun ht => absurd e.symm (p1 x ht))
    refine ⟨a.f0, (winner l).2, t.map (fun x => x.f0), ?_, by omega, by rw [hh]; rfl, by rw [← hlen]; simp, ?_, hwl, ?_, ?_⟩
    · unfold winner
      rw [if_neg h0, if_pos h, hs]
      cases t <;> rfl
    · intro x hx
      unfold winner
      rw [if_neg h0, if_pos h, hs]
      cases t with
      | nil =>
        refine ⟨fun e => ?_, fun e => ?_⟩
        · exact (g1 x hx).2
        · rcases hin x hx with rfl | ht
          · exact absurd rfl e
          · simp at ht
      | cons b t =>
        refine ⟨fun e => ?_, fun e => ?_⟩
        · rw [hne x hx e]
          exact d1 b (by simp)
        · rcases hin x hx with rfl | ht
          · exact absurd rfl e
          · rcases List.mem_cons.1 ht with rfl | ht
            · exact Int.le_refl _
            · exact (List.pairwise_cons.1 d2).1 x ht
    · intro hw
      unfold winner
      rw [if_neg h0, if_pos h, hs]
      cases t with
      | nil => exact absurd (List.length_eq_zero_iff.1 hp.length_eq) hw
      | cons b t =>
        have hb : b ∈ withoutBid l a.f0 := hp.mem_iff.2 (by simp)
        obtain ⟨m1, m2⟩ := most_ge (withoutBid l a.f0) 0
        have m3 := m2 b hb
        rcases most_in (withoutBid l a.f0) 0 with q | ⟨y, hy, q⟩
        · have := (g1 b ((hmem b).1 (by rw [hs]; simp))).2
          show b.f1 = _
          omega
        · have hy' := hp.mem_iff.1 hy
          have : y.f1 ≤ b.f1 := by
            rcases List.mem_cons.1 hy' with rfl | hy'
            · exact Int.le_refl _
            · exact (List.pairwise_cons.1 d2).1 y hy'
          show b.f1 = _
          omega
    · intro hw
      unfold winner
      rw [if_neg h0, if_pos h, hs]
      cases t with
      | nil => rfl
      | cons b t =>
        have := hp.length_eq
        rw [hw] at this
        simp at this
theorem Pf.FnAuctions : FnAuctionsLaw := by
  intro code hm hq
  refine Ev.rounds ?_
  unfold laws_FnAuctions.f
  simp only [laws_big.f, Option.bind_some]
  by_cases hb : (code.length : Int) > 1048576
  · simp only [decide_eq_true hb, if_true]
    exact Ev.now _
  · have hl : code.length ≤ 1048576 := by omega
    simp only [decide_eq_false hb, Bool.false_eq_true, if_false]
    obtain ⟨l, e1, hl8⟩ := DrawWinner_tot code hl
    have hj4 := auc_j4 code hl
    refine Ev.bind e1 ?_
    refine Ev.bind (impl_Winner_ev l (by omega)) ?_
    refine Ev.bind (impl_AreBids_ev l (by omega)) ?_
    refine Ev.bind (spec_AreBids_ev l (by omega)) ?_
    simp only [bne_self_eq_false, Bool.false_eq_true, if_false]
    by_cases h0 : l = []
    · have hw : winner l = (0, 0) := by unfold winner; rw [if_pos h0]
      simp only [if_neg (show ¬ (l.length : Int) > 0 by rw [h0]; simp), hw, bne_self_eq_false]
      refine ev_succ ?_
      simp only [laws_FnAuctions.j0, Bool.false_eq_true, if_false, if_true]
      exact hj4
    · have hpos : 0 < l.length := List.length_pos_iff.2 h0
      simp only [if_pos (show (l.length : Int) > 0 by omega)]
      refine Ev.bind (impl_AreBids_ev l (by omega)) ?_
      cases ha : areBids l with
      | false =>
        have hw : winner l = (0, 0) := by unfold winner; rw [if_neg h0, if_neg (by rw [ha]; simp)]
        simp only [hw, bne_self_eq_false]
        refine ev_succ ?_
        simp only [laws_FnAuctions.j0, Bool.false_eq_true, if_false, if_true]
        exact hj4
      | true =>
        obtain ⟨w, price, rest, hw, hw0, hh, hhl, hin, hwl, h2, h3⟩ := auc_facts l ha h0
        have hwt : (w != 0) = true := bne_iff_ne.2 hw0
        simp only [hw, hwt, bne_self_eq_false]
        refine ev_succ ?_
        simp only [laws_FnAuctions.j0, Bool.false_eq_true, if_false, if_neg hw0]
        refine Ev.bind (impl_HighestBids_ev l (l.length : Int) (by omega)) ?_
        rw [hh]
        have hhd : rd (w :: rest) 0 = w := rfl
        simp only [if_pos (show ((w :: rest).length : Int) = (l.length : Int) by rw [hhl]), if_pos (show 0 < ((w :: rest).length : Int) by rw [hhl]; omega), hhd, bne_self_eq_false]
        refine ev_succ ?_
        simp only [laws_FnAuctions.j1, Bool.false_eq_true, if_false]
        refine Ev.bind (impl_WithoutBid_ev l w (by omega)) ?_
        exact auc_l0 code hl l (withoutBid l w) w price (by omega) hin (auc_l1 code hl l (withoutBid l w) price (by omega) (by omega) hwl h2 h3)

end Go.Proofs.Ytpkdbkheggfkkaa.PFnAuctions
