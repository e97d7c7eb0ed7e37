/- The plain part of FnExactHighestBids: what the printed functions come to, and that the law's answer is true. No conditions beyond those of the statement. -/
import Derived.Test.YtpkdbkheggfkkaaPFnExactHighestBidsx
import Derived.Test.YtpkdbkheggfkkaaBase
import Derived.Test.YtpkdbkheggfkkaaDefFnExactHighestBids
namespace Go.Proofs.Ytpkdbkheggfkkaa.PFnExactHighestBids
open Go.RowKit Go.Proofs.YtpkdbkheggfkkaaW.PrintWords Go.Proofs.YtpkdbkheggfkkaaW.PrintMore Go.Proofs.Ytpkdbkheggfkkaa.Base
set_option linter.unusedVariables false
set_option linter.unusedSimpArgs false

/-! laws_szBidS -/
theorem laws_szBidS_ok (l : List (S120)) (a : Int) (h0 : (l.length : Int) ≤ a) (h1 : a ≤ 1048576) : laws_szBidS.f l a = some (a - (l.length : Int)) := by
  unfold laws_szBidS.f
  rw [w64 (by omega) (by omega), if_neg (by omega)]
theorem laws_szBidS_big (l : List (S120)) (a : Int) (h0 : a < (l.length : Int)) (h1 : 0 ≤ a) (h2 : l.length ≤ 9223372036854775807) : laws_szBidS.f l a = some (-1) := by
  unfold laws_szBidS.f
  rw [w64 (by omega) (by omega), if_pos (by omega)]

/-! type_120 -/
theorem rd_T120_pre (pre : List (S120)) (x : S120) (rest : List (S120)) : rd_T120 (pre ++ x :: rest) (pre.length : Int) = x := getD_pre pre x rest z120

/-! type_56 -/
theorem rd_T56_pre (pre : List (S56)) (x : S56) (rest : List (S56)) : rd_T56 (pre ++ x :: rest) (pre.length : Int) = x := getD_pre pre x rest z56

/-! conv_Bid -/
def cBid (x : S120) : S56 := (⟨x.f0, x.f1, x.f2⟩ : S56)

/-! laws_toBidS -/
theorem laws_toBidS_loop (rest : List (S120)) : ∀ (pre : List (S120)), (pre ++ rest).length ≤ 1099511627776 → Ev (fun k => laws_toBidS.l0 k (pre ++ rest) ((pre).map cBid ++ List.replicate rest.length z56) (pre.length : Int)) ((pre ++ rest).map cBid) := by
  induction rest with
  | nil =>
    intro pre h
    refine ev_succ ?_
    simp only [laws_toBidS.l0, if_neg (nlt_pre pre)]
    exact ev_const (by simp)
  | cons x rest ih =>
    intro pre h
    have hl := len_pre pre x rest
    have hlt : (pre.length : Int) < (((pre).map cBid ++ List.replicate (x :: rest).length z56).length : Int) := by
      simp
      omega
    have hset : ((pre).map cBid ++ List.replicate (x :: rest).length z56).set ((pre.length : Int)).toNat (⟨x.f0, x.f1, x.f2⟩ : S56) = (pre ++ [x]).map cBid ++ List.replicate rest.length z56 := by
      simp [List.replicate_succ, cBid]
    refine ev_succ ?_
    simp only [laws_toBidS.l0, if_pos (lt_pre pre x rest), if_pos (ge0 pre.length), rd_T120_pre, laws_toBid.f, Option.bind_some, if_pos hlt, wsucc (show pre.length < 9223372036854775807 by omega)]
    refine ev_map (Ev.congr (fun k => ?_) (ih (pre ++ [x]) (by rw [← app_pre]; exact h))) (by rw [← app_pre pre x rest])
    rw [hset, snoc_len pre x, ← app_pre pre x rest]
theorem laws_toBidS_ev (l : List (S120)) (h : l.length ≤ 1048576) : Ev (fun k => laws_toBidS.f k l) (l.map cBid) := by
  have e := laws_toBidS_loop l [] (by simp; omega)
  unfold laws_toBidS.f
  simp only [if_pos (ge0 l.length), if_pos (show ((l.length : Int)).toNat ≤ 11728124029610 by omega)]
  exact e

/-! laws_eqBidS -/
theorem laws_eqBidS_loop (rest : List (S56)) : ∀ (pre : List (S56)), (pre ++ rest).length ≤ 1099511627776 → Ev (fun k => laws_eqBidS.l0 k (pre ++ rest) (pre ++ rest) (pre.length : Int)) true := by
  induction rest with
  | nil =>
    intro pre h
    refine ev_succ ?_
    simp only [laws_eqBidS.l0, if_neg (nlt_pre pre)]
    exact Ev.now _
  | cons x rest ih =>
    intro pre h
    have hl := len_pre pre x rest
    refine ev_succ ?_
    simp only [laws_eqBidS.l0, if_pos (lt_pre pre x rest), if_pos (ge0 pre.length), rd_T56_pre, laws_eqBid.f, Option.bind_some, if_true, wsucc (show pre.length < 9223372036854775807 by omega)]
    refine Ev.congr (fun k => ?_) (ih (pre ++ [x]) (by rw [← app_pre]; exact h))
    rw [snoc_len pre x, ← app_pre]
theorem laws_eqBidS_refl (l : List (S56)) (h : l.length ≤ 1099511627776) : Ev (fun k => laws_eqBidS.f k l l) true := by
  have e := laws_eqBidS_loop l [] h
  unfold laws_eqBidS.f
  simp only [if_true]
  exact e

/-! spec_l1In -/
theorem spec_l1In_eq (a b c : Int) : spec_l1In.f a b c = some (inr a b c) := by
  unfold spec_l1In.f inr
  by_cases h : b ≤ a <;> simp [h]

/-! areBids -/
def bdClash (x y : S56) : Bool := decide (y.f0 = x.f0)
def bdOk : List (S56) → List (S56) → Bool
  | _, [] => true
  | pre, x :: rest => isBid x.f0 x.f1 && (!pre.any (bdClash x) && bdOk (pre ++ [x]) rest)
def areBids (l : List (S56)) : Bool := decide (l.length ≤ 20) && bdOk [] l

/-! spec_AreBids -/
theorem spec_AreBids_j1_true (l : List (S56)) (i : Int) : Ev (fun k => spec_AreBids.j1 k l i true) false := by
  refine ev_succ ?_
  simp only [spec_AreBids.j1, if_true]
  exact Ev.now _
theorem spec_AreBids_j1_false {l pre rest : List (S56)} {x : S56} (e : l = pre ++ x :: rest) (hl : l.length < 9223372036854775807) (R : Bool) (ih : Ev (fun k => spec_AreBids.l0 k l (wrap64 ((pre.length : Int) + 1))) R) :
    Ev (fun k => spec_AreBids.j1 k l (pre.length : Int) false) (!pre.any (bdClash x) && R) := by
  have hlen : l.length = pre.length + (rest.length + 1) := by rw [e, len_pre]
  have hx : rd_T56 l (pre.length : Int) = x := by
    unfold rd_T56
    rw [e]
    simp
  refine ev_succ ?_
  simp only [spec_AreBids.j1, Bool.false_eq_true, if_false]
  refine ev_range pre (fun k _ j => spec_AreBids.l1 k l (pre.length : Int) j) (fun _ r => !r.any (bdClash x) && R) (fun _ _ => True) (by omega) ?_ ?_ () trivial
  · intro _ _
    simp only [spec_AreBids.l1, if_neg (Int.lt_irrefl _)]
    simpa using ih
  · intro p y r _ ep hlt hget _ ihj
    have hr : rd_T56 l (p.length : Int) = y := by
      have := hget z56
      unfold rd_T56
      rw [e, getD_app _ _ _ (by omega)]
      exact this
    simp only [spec_AreBids.l1, if_pos hlt, if_pos (ge0 p.length), if_pos (show (p.length : Int) < (l.length : Int) by omega), if_pos (ge0 pre.length), if_pos (show (pre.length : Int) < (l.length : Int) by omega), hr, hx]
    by_cases h0 : y.f0 = x.f0
    · simp only [if_pos h0]
      exact ev_const (by simp [bdClash, h0])
    · simp only [if_neg h0]
      exact ev_map (ihj () trivial) (by simp [bdClash, h0])
theorem spec_AreBids_ev (l : List (S56)) (hl : l.length < 9223372036854775807) : Ev (fun k => spec_AreBids.f k l) (areBids l) := by
  refine ev_map (ev_range l (fun k (_ : List (S56)) i => spec_AreBids.l0 k l i) (fun s r => bdOk s r && decide ((l.length : Int) ≤ 20)) (fun p s => s = p) hl ?_ ?_ [] rfl) ?_
  · intro s _
    simp only [spec_AreBids.l0, if_neg (Int.lt_irrefl _)]
    exact ev_const (by simp [bdOk])
  · rintro pre x rest s e hlt hget rfl ih
    have hr : rd_T56 l (s.length : Int) = x := hget _
    have ih' := ih _ rfl
    simp only [spec_AreBids.l0, if_pos hlt, if_pos (ge0 s.length), hr, spec_l1In_eq, Option.bind_some, bdOk, isBid]
    cases h1 : inr x.f0 1 999 with
    | false => exact spec_AreBids_j1_true _ _
    | true =>
      cases h2 : inr x.f1 1 10000000 with
      | false => exact spec_AreBids_j1_true _ _
      | true =>
        simp only [if_true, Bool.true_and, Bool.not_true, Bool.and_assoc]
        exact spec_AreBids_j1_false e hl _ ih'
  · unfold areBids
    rw [Bool.and_comm, show decide ((l.length : Int) ≤ 20) = decide (l.length ≤ 20) from decide_eq_decide.2 (by omega)]

/-! withoutBid -/
def withoutBid (l : List (S56)) (a : Int) : List (S56) := l.filter (fun x => !decide (x.f0 = a))
theorem withoutBid_len (l : List (S56)) (a : Int) : (withoutBid l a).length ≤ l.length := List.length_filter_le _ _

/-! bidSort -/
def bsort (l : List (S56)) : List (S56) := Go.Proofs.Ytpkdbkheggfkkaa.SlcK.inSort slices_SortBid.lt l
theorem bidLt_iff (x y : S56) : slices_SortBid.lt x y = true ↔ y.f1 < x.f1 := by
  unfold slices_SortBid.lt
  exact decide_eq_true_iff
theorem insRev_perm (x : S56) : ∀ r : List (S56), (Go.Proofs.Ytpkdbkheggfkkaa.SlcK.insRev slices_SortBid.lt x r).Perm (x :: r)
  | [] => List.Perm.refl _
  | y :: r => by
    unfold Go.Proofs.Ytpkdbkheggfkkaa.SlcK.insRev
    split
    · exact ((insRev_perm x r).cons y).trans (List.Perm.swap x y r)
    · exact List.Perm.refl _
theorem insEnd_perm (l : List (S56)) (x : S56) : (Go.Proofs.Ytpkdbkheggfkkaa.SlcK.insEnd slices_SortBid.lt l x).Perm (x :: l) := by
  unfold Go.Proofs.Ytpkdbkheggfkkaa.SlcK.insEnd
  exact (List.reverse_perm _).trans ((insRev_perm x l.reverse).trans ((List.reverse_perm l).cons x))
theorem foldIns_perm : ∀ (l a : List (S56)), (l.foldl (Go.Proofs.Ytpkdbkheggfkkaa.SlcK.insEnd slices_SortBid.lt) a).Perm (l ++ a)
  | [], a => List.Perm.refl _
  | x :: l, a => by
    rw [List.foldl_cons]
    refine (foldIns_perm l _).trans (((insEnd_perm a x).append_left l).trans ?_)
    exact List.perm_middle
theorem bsort_perm (l : List (S56)) : (bsort l).Perm l := by
  have := foldIns_perm l []
  rw [List.append_nil] at this
  exact this
def bidDesc (l : List (S56)) : Prop := l.Pairwise (fun a b => b.f1 ≤ a.f1)
def bidAsc (l : List (S56)) : Prop := l.Pairwise (fun a b => a.f1 ≤ b.f1)
theorem insRev_asc (x : S56) : ∀ r : List (S56), bidAsc r → bidAsc (Go.Proofs.Ytpkdbkheggfkkaa.SlcK.insRev slices_SortBid.lt x r)
  | [], _ => by simp [Go.Proofs.Ytpkdbkheggfkkaa.SlcK.insRev, bidAsc]
  | y :: r, h => by
    obtain ⟨h1, h2⟩ := List.pairwise_cons.1 h
    unfold Go.Proofs.Ytpkdbkheggfkkaa.SlcK.insRev
    split
    · rename_i hlt
      have hlt := (bidLt_iff x y).1 hlt
      refine List.pairwise_cons.2 ⟨fun z hz => ?_, insRev_asc x r h2⟩
      rcases List.mem_cons.1 ((insRev_perm x r).mem_iff.1 hz) with rfl | hz
      · omega
      · exact h1 z hz
    · rename_i hlt
      have hlt : ¬ y.f1 < x.f1 := fun q => hlt ((bidLt_iff x y).2 q)
      refine List.pairwise_cons.2 ⟨fun z hz => ?_, h⟩
      rcases List.mem_cons.1 hz with rfl | hz
      · omega
      · have := h1 z hz
        omega
theorem insEnd_desc (l : List (S56)) (x : S56) (h : bidDesc l) : bidDesc (Go.Proofs.Ytpkdbkheggfkkaa.SlcK.insEnd slices_SortBid.lt l x) := by
  unfold Go.Proofs.Ytpkdbkheggfkkaa.SlcK.insEnd bidDesc
  rw [List.pairwise_reverse]
  refine insRev_asc x l.reverse ?_
  unfold bidAsc
  rw [List.pairwise_reverse]
  exact h
theorem foldIns_desc : ∀ (l a : List (S56)), bidDesc a → bidDesc (l.foldl (Go.Proofs.Ytpkdbkheggfkkaa.SlcK.insEnd slices_SortBid.lt) a)
  | [], a, h => h
  | x :: l, a, h => by
    rw [List.foldl_cons]
    exact foldIns_desc l _ (insEnd_desc a x h)
theorem bsort_desc (l : List (S56)) : bidDesc (bsort l) := foldIns_desc l [] List.Pairwise.nil
theorem bsort_len (l : List (S56)) : (bsort l).length = l.length := (bsort_perm l).length_eq
theorem areBids_len (l : List (S56)) (h : areBids l = true) : l.length ≤ 20 := by
  simp only [areBids, Bool.and_eq_true, decide_eq_true_eq] at h
  exact h.1
theorem bdOk_good : ∀ (l pre : List (S56)), bdOk pre l = true → ∀ x ∈ l, 1 ≤ x.f0 ∧ 1 ≤ x.f1
  | [], _, _ => by simp
  | y :: l, pre, h => by
    simp only [bdOk, Bool.and_eq_true] at h
    intro x hx
    rcases List.mem_cons.1 hx with rfl | hx
    · have h1 := h.1
      simp only [isBid, Bool.and_eq_true, inr_iff] at h1
      omega
    · exact bdOk_good l _ h.2.2 x hx
theorem bdOk_apart : ∀ (l pre : List (S56)), bdOk pre l = true → (∀ x ∈ l, ∀ y ∈ pre, y.f0 ≠ x.f0) ∧ l.Pairwise (fun a b => a.f0 ≠ b.f0)
  | [], _, _ => ⟨by simp, List.Pairwise.nil⟩
  | y :: l, pre, h => by
    simp only [bdOk, Bool.and_eq_true, Bool.not_eq_true'] at h
    obtain ⟨h1, h2⟩ := bdOk_apart l _ h.2.2
    have h3 : ∀ z ∈ pre, z.f0 ≠ y.f0 := fun z hz e => by
      have := List.any_eq_false.1 h.2.1 z hz
      simp [bdClash, e] at this
    refine ⟨fun x hx z hz => ?_, List.pairwise_cons.2 ⟨fun x hx => h1 x hx y (by simp), h2⟩⟩
    rcases List.mem_cons.1 hx with rfl | hx
    · exact h3 z hz
    · exact h1 x hx z (by simp [hz])
theorem areBids_good (l : List (S56)) (h : areBids l = true) : (∀ x ∈ l, 1 ≤ x.f0 ∧ 1 ≤ x.f1) ∧ l.Pairwise (fun a b => a.f0 ≠ b.f0) := by
  simp only [areBids, Bool.and_eq_true] at h
  exact ⟨bdOk_good l [] h.2, (bdOk_apart l [] h.2).2⟩
theorem bsort_apart (l : List (S56)) (h : areBids l = true) : (bsort l).Pairwise (fun a b => a.f0 ≠ b.f0) :=
  ((bsort_perm l).pairwise_iff (fun {a b} (hab : a.f0 ≠ b.f0) => Ne.symm hab)).2 (areBids_good l h).2
def winner (l : List (S56)) : Int × Int :=
  if l = [] then (0, 0) else if areBids l = true then (match bsort l with | [] => (0, 0) | [a] => (a.f0, 1) | a :: b :: _ => (a.f0, b.f1)) else (0, 0)
def highest (l : List (S56)) (n : Int) : List Int := if areBids l = true ∧ 0 ≤ n then ((bsort l).take n.toNat).map (fun x => x.f0) else []
theorem highest_len (l : List (S56)) (n : Int) : (highest l n).length ≤ l.length := by
  unfold highest
  split
  · rw [List.length_map, List.length_take, bsort_len]
    omega
  · simp
theorem without_perm {l : List (S56)} {a : S56} {t : List (S56)} (h : areBids l = true) (hs : bsort l = a :: t) : (withoutBid l a.f0).Perm t := by
  have h1 := bsort_apart l h
  rw [hs] at h1
  obtain ⟨h2, _⟩ := List.pairwise_cons.1 h1
  have h3 : (withoutBid (bsort l) a.f0).Perm (withoutBid l a.f0) := (bsort_perm l).filter _
  rw [hs] at h3
  have e : withoutBid (a :: t) a.f0 = t := by
    unfold withoutBid
    rw [List.filter_cons_of_neg (by simp)]
    exact List.filter_eq_self.2 (fun x hx => by simpa using fun q => h2 x hx q.symm)
  rw [e] at h3
  exact h3.symm

/-! spec_l19Sorted -/
theorem spec_l19Sorted_eq (l : List (S56)) (h : l.length < 1099511627776) : spec_l19Sorted.f l = some (bsort l) := by
  unfold spec_l19Sorted.f bsort
  rw [if_pos h]
  rfl

/-! spec_HighestBids -/
theorem spec_HighestBids_ev (l : List (S56)) (n : Int) (hl : l.length < 1099511627776) : Ev (fun k => spec_HighestBids.f k l n) (highest l n) := by
  have hb := bsort_len l
  simp only [spec_HighestBids.f, spec_l19Sorted_eq l hl, Option.bind_some]
  by_cases ha : areBids l = true
  · refine ev_map (ev_range (bsort l) (fun k (s : List Int × Nat) i => spec_HighestBids.l0 k l n s.1 (bsort l) i) (fun s r => s.1 ++ (r.take (n.toNat - s.2)).map (fun x => x.f0)) (fun p s => s.2 = p.length ∧ s.1.length ≤ p.length) (by omega) ?_ ?_ ([], 0) ⟨rfl, Nat.le_refl _⟩) ?_
    · rintro ⟨s, m⟩ _
      simp only [spec_HighestBids.l0, if_neg (Int.lt_irrefl _)]
      exact ev_const (by simp)
    · rintro pre x rest ⟨s, m⟩ e hlt hget ⟨hm, hs⟩ ih
      have hm' : m = pre.length := hm
      have hs' : s.length ≤ pre.length := hs
      subst hm'
      have hr : rd_T56 (bsort l) (pre.length : Int) = x := hget _
      simp only [spec_HighestBids.l0, if_pos hlt, hr]
      by_cases h1 : (pre.length : Int) < n
      · simp only [if_pos h1]
        refine Ev.bind (spec_AreBids_ev l (by omega)) ?_
        simp only [if_pos ha, if_pos (ge0 pre.length), if_pos (show s.length < 17592186044416 by omega)]
        refine ev_map (ih (s ++ [x.f0], pre.length + 1) ⟨by simp, by simp; omega⟩) ?_
        obtain ⟨q, hq⟩ : ∃ q, n.toNat - pre.length = q + 1 := ⟨n.toNat - pre.length - 1, by omega⟩
        simp only [hq, show n.toNat - (pre.length + 1) = q by omega, List.take_succ_cons, List.map_cons, List.append_assoc, List.singleton_append]
      · simp only [if_neg h1]
        refine ev_const ?_
        simp only [show n.toNat - pre.length = 0 by omega, List.take_zero, List.map_nil, List.append_nil]
    · unfold highest
      by_cases hn : 0 ≤ n
      · rw [if_pos ⟨ha, hn⟩]
        simp
      · rw [if_neg (fun q => hn q.2)]
        simp [show n.toNat = 0 by omega]
  · have hh : highest l n = [] := by
      unfold highest
      rw [if_neg (fun q => ha q.1)]
    rw [hh]
    refine ev_succ ?_
    simp only [spec_HighestBids.l0]
    by_cases h0 : (0 : Int) < ((bsort l).length : Int)
    · simp only [if_pos h0]
      by_cases h1 : 0 < n
      · simp only [if_pos h1]
        refine Ev.bind (spec_AreBids_ev l (by omega)) ?_
        simp only [if_neg ha]
        exact Ev.now _
      · simp only [if_neg h1]
        exact Ev.now _
    · simp only [if_neg h0]
      exact Ev.now _

/-! impl_InRange -/
theorem impl_InRange_eq (a b c : Int) : impl_InRange.f a b c = some (inr a b c) := by
  unfold impl_InRange.f inr
  by_cases h : b ≤ a <;> simp [h]

/-! impl_isBid -/
theorem impl_isBid_eq (a b c : Int) : impl_isBid.f a b c = some (isBid a b) := by
  simp only [impl_isBid.f, impl_InRange_eq, Option.bind_some, ite_and, isBid]

/-! impl_AreBids -/
theorem impl_AreBids_ev (l : List (S56)) (hl : l.length < 9223372036854775807) : Ev (fun k => impl_AreBids.f k l) (areBids l) := by
  unfold impl_AreBids.f areBids
  by_cases hb : (l.length : Int) > 20
  · simp only [if_pos hb]
    exact ev_const (by simp; omega)
  · simp only [if_neg hb, show decide (l.length ≤ 20) = true from decide_eq_true (by omega), Bool.true_and]
    refine ev_range l (fun k (_ : List (S56)) i => impl_AreBids.l0 k l l (l.length : Int) i) (fun s r => bdOk s r) (fun p s => s = p) hl ?_ ?_ [] rfl
    · intro s _
      simp only [impl_AreBids.l0, if_neg (Int.lt_irrefl _)]
      exact ev_const (by simp [bdOk])
    · rintro pre x rest s e hlt hget rfl ih
      have hr : rd_T56 l (s.length : Int) = x := hget _
      have ih' := ih _ rfl
      have ht : l.take ((s.length : Int)).toNat = s := by rw [e]; simp
      have hp : impl_AreBids_1.p x.f0 x.f1 x.f2 = bdClash x := rfl
      simp only [impl_AreBids.l0, if_pos hlt, if_pos (ge0 s.length), hr, impl_isBid_eq, Option.bind_some, bdOk, if_pos (show (s.length : Int) ≤ (l.length : Int) by omega), ht, impl_AreBids_1.f, hp]
      cases h1 : isBid x.f0 x.f1 with
      | false =>
        simp only [Bool.false_eq_true, if_false, Bool.false_and]
        exact Ev.now _
      | true =>
        cases h2 : s.any (bdClash x) with
        | true =>
          simp only [if_true, Bool.not_true, Bool.false_and, Bool.and_false]
          exact Ev.now _
        | false =>
          simp only [if_true, Bool.false_eq_true, if_false, Bool.not_false, Bool.true_and]
          exact ih'

/-! clone:impl.Bid -/
theorem clone_Bid_eq (l : List (S56)) (h : l.length < 5864062014805) : impl_Bid_138.f l = some l := by
  unfold impl_Bid_138.f
  simp only [Option.bind_some, List.length_nil, List.nil_append, Nat.zero_add, if_pos h]

/-! impl_descending -/
theorem impl_descending_eq (l : List (S56)) (h : l.length ≤ 20) : impl_descending.f l = some (bsort l) := by
  unfold impl_descending.f bsort slices_SortBid.f
  rw [clone_Bid_eq l (by omega), Option.bind_some, if_pos h, Option.bind_some]

/-! impl_HighestBids -/
theorem impl_HighestBids_ev (l : List (S56)) (n : Int) (hl : l.length < 9223372036854775807) : Ev (fun k => impl_HighestBids.f k l n) (highest l n) := by
  have jt : Ev (fun k => impl_HighestBids.j0 k l n [] true) [] := by
    refine ev_succ ?_
    simp only [impl_HighestBids.j0, if_true]
    exact Ev.now _
  unfold impl_HighestBids.f highest
  simp only [Option.bind_some]
  refine Ev.bind (impl_AreBids_ev l hl) ?_
  cases ha : areBids l with
  | false =>
    simp only [Bool.false_eq_true, if_false, false_and]
    exact jt
  | true =>
    simp only [if_true, true_and]
    by_cases hn : n < 0
    · simp only [decide_eq_true hn, if_neg (show ¬ 0 ≤ n by omega)]
      exact jt
    · have hb := bsort_len l
      have hb20 := areBids_len l ha
      simp only [decide_eq_false hn, if_pos (show 0 ≤ n by omega)]
      refine ev_succ ?_
      simp only [impl_HighestBids.j0, Bool.false_eq_true, if_false, impl_descending_eq l hb20, Option.bind_some]
      refine ev_map (ev_range (bsort l) (fun k (s : List Int × Nat) i => impl_HighestBids.l0 k n s.1 (bsort l) ((bsort l).length : Int) i) (fun s r => s.1 ++ (r.take (n.toNat - s.2)).map (fun x => x.f0)) (fun p s => s.2 = p.length ∧ s.1.length ≤ p.length) (by omega) ?_ ?_ ([], 0) ⟨rfl, Nat.le_refl _⟩) (by simp)
      · rintro ⟨s, m⟩ _
        simp only [impl_HighestBids.l0, if_neg (Int.lt_irrefl _)]
        exact ev_const (by simp)
      · rintro pre x rest ⟨s, m⟩ e hlt hget ⟨hm, hs⟩ ih
        have hm' : m = pre.length := hm
        have hs' : s.length ≤ pre.length := hs
        subst hm'
        have hr : rd_T56 (bsort l) (pre.length : Int) = x := hget _
        simp only [impl_HighestBids.l0, if_pos hlt, if_pos (ge0 pre.length), hr]
        by_cases h1 : (pre.length : Int) < n
        · simp only [if_pos h1, if_pos (show s.length < 17592186044416 by omega)]
          refine ev_map (ih (s ++ [x.f0], pre.length + 1) ⟨by simp, by simp; omega⟩) ?_
          obtain ⟨q, hq⟩ : ∃ q, n.toNat - pre.length = q + 1 := ⟨n.toNat - pre.length - 1, by omega⟩
          simp only [hq, show n.toNat - (pre.length + 1) = q by omega, List.take_succ_cons, List.map_cons, List.append_assoc, List.singleton_append]
        · simp only [if_neg h1]
          refine ev_map (ih (s, pre.length + 1) ⟨by simp, by simp; omega⟩) ?_
          simp only [show n.toNat - (pre.length + 1) = 0 by omega, show n.toNat - pre.length = 0 by omega, List.take_zero]

/-! laws_eqIntS -/
theorem laws_eqIntS_loop (rest : List Int) : ∀ (pre : List Int), (pre ++ rest).length ≤ 1099511627776 → Ev (fun k => laws_eqIntS.l0 k (pre ++ rest) (pre ++ rest) (pre.length : Int)) true := by
  induction rest with
  | nil =>
    intro pre h
    refine ev_succ ?_
    simp only [laws_eqIntS.l0, if_neg (nlt_pre pre)]
    exact Ev.now _
  | cons x rest ih =>
    intro pre h
    have hl := len_pre pre x rest
    refine ev_succ ?_
    simp only [laws_eqIntS.l0, if_pos (lt_pre pre x rest), if_pos (ge0 pre.length), rd_pre, Option.bind_some, if_true, wsucc (show pre.length < 9223372036854775807 by omega)]
    refine Ev.congr (fun k => ?_) (ih (pre ++ [x]) (by rw [← app_pre]; exact h))
    rw [snoc_len pre x, ← app_pre]
theorem laws_eqIntS_refl (l : List Int) (h : l.length ≤ 1099511627776) : Ev (fun k => laws_eqIntS.f k l l) true := by
  have e := laws_eqIntS_loop l [] h
  unfold laws_eqIntS.f
  simp only [if_true]
  exact e

/-! marked_Bid -/
def markedBid : List (S56) → Int → List (S56)
  | [], _ => []
  | _ :: l, a => (⟨a, a + 1, a + 2⟩ : S56) :: markedBid l (a + 3)
theorem markedBid_length (l : List (S56)) : ∀ a, (markedBid l a).length = l.length := by
  induction l with
  | nil => intro a; rfl
  | cons x l ih => intro a; simp [markedBid, ih]
-- Bid

/-! laws_markBidS -/
theorem laws_markBidS_loop (rest : List (S56)) : ∀ (pre : List (S56)) (a : Int), 0 ≤ a → a + 3 * (rest.length : Int) ≤ 9223372036854775000 → (pre ++ rest).length ≤ 1099511627776 → Ev (fun k => laws_markBidS.l0 k (pre ++ rest) a (pre.length : Int)) (a + 3 * (rest.length : Int), pre ++ markedBid rest a) := by
  induction rest with
  | nil =>
    intro pre a h0 h1 h
    refine ev_succ ?_
    simp only [laws_markBidS.l0, if_neg (nlt_pre pre)]
    exact ev_const (by simp [markedBid])
  | cons x rest ih =>
    intro pre a h0 h1 h
    have hl := len_pre pre x rest
    rw [List.length_cons] at h1
    refine ev_succ ?_
    simp only [laws_markBidS.l0, if_pos (lt_pre pre x rest), if_pos (ge0 pre.length), rd_T56_pre, set_pre, Option.bind_some, wsucc (show pre.length < 9223372036854775807 by omega), w64 (x := a + 1) (by omega) (by omega), w64 (x := a + 2) (by omega) (by omega), w64 (x := a + 3) (by omega) (by omega), show a + 1 + 1 = a + 2 by omega, show a + 2 + 1 = a + 3 by omega]
    refine Ev.congr (fun k => ?_) (ev_map (ih (pre ++ [(⟨a, a + 1, a + 2⟩ : S56)]) (a + 3) (by omega) (by omega) (by rw [← app_pre, len_pre]; omega)) ?_)
    · rw [← app_pre, List.length_append, List.length_singleton]
    · simp only [markedBid, List.length_cons, List.append_assoc, List.singleton_append, Prod.mk.injEq, and_true]
      omega
theorem laws_markBidS_ev (l : List (S56)) (a : Int) (h0 : 0 ≤ a) (h1 : a ≤ 1099511627776) (h : l.length ≤ 1099511627776) : Ev (fun k => laws_markBidS.f k l a) (a + 3 * (l.length : Int), markedBid l a) := laws_markBidS_loop l [] a h0 (by omega) h

/-! marked_Int -/
def markedInt : List Int → Int → List Int
  | [], _ => []
  | _ :: l, a => a :: markedInt l (a + 1)
theorem markedInt_length (l : List Int) : ∀ a, (markedInt l a).length = l.length := by
  induction l with
  | nil => intro a; rfl
  | cons x l ih => intro a; simp [markedInt, ih]
-- Int

/-! laws_markIntS -/
theorem laws_markIntS_loop (rest : List Int) : ∀ (pre : List Int) (a : Int), 0 ≤ a → a + 1 * (rest.length : Int) ≤ 9223372036854775000 → (pre ++ rest).length ≤ 1099511627776 → Ev (fun k => laws_markIntS.l0 k (pre ++ rest) a (pre.length : Int)) (a + 1 * (rest.length : Int), pre ++ markedInt rest a) := by
  induction rest with
  | nil =>
    intro pre a h0 h1 h
    refine ev_succ ?_
    simp only [laws_markIntS.l0, if_neg (nlt_pre pre)]
    exact ev_const (by simp [markedInt])
  | cons x rest ih =>
    intro pre a h0 h1 h
    have hl := len_pre pre x rest
    rw [List.length_cons] at h1
    refine ev_succ ?_
    simp only [laws_markIntS.l0, if_pos (lt_pre pre x rest), if_pos (ge0 pre.length), rd_pre, set_pre, Option.bind_some, wsucc (show pre.length < 9223372036854775807 by omega), w64 (x := a + 1) (by omega) (by omega)]
    refine Ev.congr (fun k => ?_) (ev_map (ih (pre ++ [a]) (a + 1) (by omega) (by omega) (by rw [← app_pre, len_pre]; omega)) ?_)
    · rw [← app_pre, List.length_append, List.length_singleton]
    · simp only [markedInt, List.length_cons, List.append_assoc, List.singleton_append, Prod.mk.injEq, and_true]
      omega
theorem laws_markIntS_ev (l : List Int) (a : Int) (h0 : 0 ≤ a) (h1 : a ≤ 1099511627776) (h : l.length ≤ 1099511627776) : Ev (fun k => laws_markIntS.f k l a) (a + 1 * (l.length : Int), markedInt l a) := laws_markIntS_loop l [] a h0 (by omega) h

/-! laws_heldIntS -/
theorem laws_heldIntS_loop (rest : List Int) : ∀ (pre : List Int) (a : Int), 0 ≤ a → a + 1 * (rest.length : Int) ≤ 9223372036854775000 → (pre ++ rest).length ≤ 1099511627776 → Ev (fun k => laws_heldIntS.l0 k (pre ++ markedInt rest a) a (pre.length : Int)) (a + 1 * (rest.length : Int)) := by
  induction rest with
  | nil =>
    intro pre a h0 h1 h
    refine ev_succ ?_
    show Ev (fun k => laws_heldIntS.l0 (k + 1) (pre ++ []) a (pre.length : Int)) _
    simp only [laws_heldIntS.l0, if_neg (nlt_pre pre)]
    exact ev_const (by simp)
  | cons x rest ih =>
    intro pre a h0 h1 h
    have hl := len_pre pre x rest
    rw [List.length_cons] at h1
    refine ev_succ ?_
    show Ev (fun k => laws_heldIntS.l0 (k + 1) (pre ++ a :: markedInt rest (a + 1)) a (pre.length : Int)) _
    simp only [laws_heldIntS.l0, if_pos (lt_pre _ _ _), if_pos (ge0 pre.length), rd_pre, wsucc (show pre.length < 9223372036854775807 by omega), w64 (x := a + 1) (by omega) (by omega), if_true]
    refine Ev.congr (fun k => ?_) (ev_map (ih (pre ++ [a]) (a + 1) (by omega) (by omega) (by rw [← app_pre, len_pre]; omega)) ?_)
    · rw [← app_pre, List.length_append, List.length_singleton]
    · rw [List.length_cons]
      omega
theorem laws_heldIntS_ev (l : List Int) (a : Int) (h0 : 0 ≤ a) (h1 : a ≤ 1099511627776) (h : l.length ≤ 1099511627776) : Ev (fun k => laws_heldIntS.f k (markedInt l a) a) (a + 1 * (l.length : Int)) := laws_heldIntS_loop l [] a h0 (by omega) h

/-! the law -/
theorem Pf.FnExactHighestBids : FnExactHighestBidsLaw := by
  intro l0 a1 hm0 hq0 hq1
  refine Ev.rounds ?_
  unfold laws_FnExactHighestBids.f
  by_cases hl0 : (l0.length : Int) ≤ 1048576
  · have hsz0 : ¬ (1048576 - (l0.length : Int) < 0) := by omega
    simp only [laws_szBidS_ok l0 (1048576) hl0 (by omega), Option.bind_some, if_neg hsz0]
    have hc0 : (l0.map cBid).length ≤ 1048576 := by rw [List.length_map]; omega
    have hk0 : ¬ ((1 : Int) + 3 * ((l0.map cBid).length : Int) < 0) := by omega
    have hR0 : (highest (l0.map cBid) a1).length ≤ 1099511627776 := Nat.le_trans (highest_len _ _) (by omega)
    have hr0 : ¬ ((1 : Int) + 1 * ((highest (l0.map cBid) a1).length : Int) < 0) := by omega
    repeat' first
      | exact Ev.now _
      | refine Ev.bind (spec_HighestBids_ev _ _ (by omega)) ?_
      | refine Ev.bind (impl_HighestBids_ev _ _ (by omega)) ?_
      | refine Ev.bind (laws_toBidS_ev _ (by omega)) ?_
      | refine Ev.bind (laws_eqBidS_refl _ (by omega)) ?_
      | refine Ev.bind (laws_markBidS_ev _ _ (by omega) (by omega) (by omega)) ?_
      | refine Ev.bind (laws_eqIntS_refl _ (by omega)) ?_
      | refine Ev.bind (laws_markIntS_ev _ _ (by omega) (by omega) (by omega)) ?_
      | refine Ev.bind (laws_heldIntS_ev _ _ (by omega) (by omega) (by omega)) ?_
      | simp only [if_true, if_false, Bool.not_true, Bool.not_false, bne_self_eq_false, Bool.false_eq_true, Option.bind_some, if_neg hk0, if_neg hr0]
      | (refine ev_succ ?_; simp only [laws_FnExactHighestBids.j0])
  · simp only [laws_szBidS_big l0 (1048576) (by omega) (by omega) hm0, Option.bind_some]
    exact Ev.now _

end Go.Proofs.Ytpkdbkheggfkkaa.PFnExactHighestBids
