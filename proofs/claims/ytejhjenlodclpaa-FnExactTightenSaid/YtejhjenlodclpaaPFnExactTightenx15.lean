/- Walks of functions that FnExactTighten reaches: written by a tool of the kit for this claim, then shortened by a program of ours. -/
import Derived.Test.YtejhjenlodclpaaPFnExactTightenx0
import Derived.Test.YtejhjenlodclpaaPFnExactTightenx10
import Derived.Test.YtejhjenlodclpaaPFnExactTightenx11
import Derived.Test.YtejhjenlodclpaaPFnExactTightenx13
import Derived.Test.YtejhjenlodclpaaPFnExactTightenx14
/- narrow -/
namespace Go.Proofs.Ytejhjenlodclpaa.PFnExactTighten
open Go.RowKit Go.Proofs.YtejhjenlodclpaaW.PrintWords Go.Proofs.YtejhjenlodclpaaW.PrintLast Go.Proofs.YtejhjenlodclpaaW.PrintMore
attribute [local go_sem] max2_int min2_int max_two min_two max_three min_three max_four min_four   -- for this text's walks alone
set_option linter.unusedVariables false
set_option linter.unusedSimpArgs false

/-! ### slices_SortThing: slices.SortStableFunc (function 164) of a row of at most 20 structs, by the kit's shelf: an insertion sort -/
instance : Inhabited S111 := ⟨z111⟩
def slices_SortThing.enc (x : S111) : List Value := [.int .i64 x.f0, .int .i64 x.f1, .int .i64 x.f2, .int .i64 x.f3, .int .i64 x.f4]
def slices_SortThing.cf (x y : S111) : Int := Lib.compareInt y.f3 x.f3
def slices_SortThing.lt (x y : S111) : Bool := decide (y.f3 < x.f3)
theorem slices_SortThing.lt_eq : Go.Proofs.ltOf slices_SortThing.cf = slices_SortThing.lt := by
 funext x y
 unfold Go.Proofs.ltOf slices_SortThing.cf slices_SortThing.lt Lib.compareInt
 refine decide_eq_decide.2 ?_
 split
 ·omega
 split
 ·omega
 ·omega
theorem slices_SortThing.flat : Go.Proofs.Ytejhjenlodclpaa.SlcK.Flat k111 slices_SortThing.enc where
 len := fun _ => rfl
 one := fun x v hv => by
  simp [slices_SortThing.enc] at hv
  rcases hv with rfl | rfl | rfl | rfl | rfl <;> rfl
 toM := by
  rintro w base ok x cs ⟨_, _, rfl, rfl, _, _, rfl, rfl, _, _, rfl, rfl, _, _, rfl, rfl, rfl⟩
  rfl
 ofM := fun w base ok x => ⟨_, _, rfl, rfl, _, _, rfl, rfl, _, _, rfl, rfl, _, _, rfl, rfl, rfl⟩
set_option maxHeartbeats 8000000 in
set_option maxRecDepth 100000 in
theorem slices_SortThing.closure (x y : S111) (W : World) : Calls Try.prog 165 #[.agg #[.int .i64 x.f0, .int .i64 x.f1, .int .i64 x.f2, .int .i64 x.f3, .int .i64 x.f4], .agg #[.int .i64 y.f0, .int .i64 y.f1, .int .i64 y.f2, .int .i64 y.f3, .int .i64 y.f4]] W fun e w' => e = .returned (.int .i64 (slices_SortThing.cf x y)) ∧ ∃ q os', w' = Go.Sort.grow (W.drewN q) os' := by
 have hcon := fun W' => Go.Proofs.AnyG.cmp_Compare_int Try.compareInt y.f3 x.f3 W'
 change ∀ W', Calls Try.prog 166 _ _ _ at hcon
 unfold slices_SortThing.cf
 generalize Lib.compareInt y.f3 x.f3 = r at hcon ⊢
 go_enter Try.func165, Try.ntmps165
 go_wp2_with (go_at_call 166; refine (hcon _).mono ?_; rintro e w' ⟨rfl, rfl⟩)
 go_ret
 exact ⟨rfl, 0, _, by rw [Go.Sort.alloc_eq_grow, Go.Sort.alloc_eq_grow, Go.Sort.grow_grow]; rfl⟩
theorem slices_SortThing.ins (a b : Nat) (P0_ : Nat → Prop) (u : Value) (xs : List (S111)) (w0 w : World) (hB : Below w0.heap.size w0 w) (ho0 : Kd.R k111 111 w w0.heap.size P0_ u xs) (hp : 0 < xs.length) (hab : a ≤ b) (hb : b ≤ xs.length) (hs : xs.length ≤ 20) :
  Calls Try.prog 202 #[u, .int .i64 (a : Int), .int .i64 (b : Int), .func (.func 165) #[] #[]] w fun e w' => e = .returned (.tuple #[]) ∧ Kd.R k111 111 w' w0.heap.size (fun k_ => (P0_ k_ ∨ w.heap.size ≤ k_)) u (Go.Sort.insertionSort slices_SortThing.lt xs.toArray a b).toList ∧ Below w0.heap.size w0 w' ∧ Kept w w' (fun k_ => P0_ k_) := by
 obtain ⟨g, cap, rfl, hbg, hgl, cells, hc⟩ := Kd.R_form ho0 hp
 have hgP : P0_ g := ho0.1 g (by simp [Value.ownBlock])
 have eg : ∀ args w, (callFunc 165 args).run Try.prog w = .ok (.enter 165 args) w := enters_of Try.func165 (by kernel_rfl) rfl
 have hcon := Go.Proofs.AnyQ.insertionSortCmpFunc Try.insThing 5 Try.isAgg111 Try.sizeOf111 slices_SortThing.enc slices_SortThing.flat.len slices_SortThing.flat.one slices_SortThing.cf 165 #[] g 0 cap a b xs.toArray w eg
  (fun _ _ _ _ x y => slices_SortThing.closure x y _) (Go.Proofs.Ytejhjenlodclpaa.SlcK.holdsK_of_R slices_SortThing.flat ho0) hgl hab (by simpa using hb) (by simp; omega)
 rw [slices_SortThing.lt_eq] at hcon
 refine Calls.mono (show Calls Try.prog 202 #[.slice (some ⟨g, 0, none⟩) xs.length cap, .int .i64 (a : Int), .int .i64 (b : Int), .func (.func 165) #[] #[]] w _ from hcon) ?_
 rintro e w' ⟨rfl, n, os, rfl⟩
 have hlen : (Go.Sort.insertionSort slices_SortThing.lt xs.toArray a b).toList.length = xs.length := by
  rw [Array.length_toList, Go.Proofs.Ytejhjenlodclpaa.SlcK.insertionSort_size]
  simp
 have hR := Go.Proofs.Ytejhjenlodclpaa.SlcK.R_sortWorldK (ys := (Go.Sort.insertionSort slices_SortThing.lt xs.toArray a b).toList) slices_SortThing.flat ho0 hlen n os
 rw [Array.toArray_toList] at hR
 exact ⟨rfl, Kd.R_mono hR (fun k hk => .inl hk), Go.Proofs.Ytejhjenlodclpaa.SlcK.below_sortWorldK (d := k111) (enc := slices_SortThing.enc) hB hbg hB.size n _ os, Go.Proofs.Ytejhjenlodclpaa.SlcK.kept_sortWorldK (enc := slices_SortThing.enc) hgP n 5 _ os⟩
set_option maxHeartbeats 8000000 in
set_option maxRecDepth 100000 in
theorem slices_SortThing.ins0 (A0 : Option Addr) (c0 : Nat) (w : World) :
  Calls Try.prog 202 #[.slice A0 0 c0, .int .i64 0, .int .i64 0, .func (.func 165) #[] #[]] w fun e w' => e = .returned (.tuple #[]) ∧ w' = w := by
 go_enter Try.func202, Try.ntmps202
 go_wp2
 refine wp_loop_rounds 1 ?_
 rw [rounds_succ]
 go_wp2
 go_end0
 exact ⟨rfl, rfl⟩
set_option maxHeartbeats 8000000 in
set_option maxRecDepth 100000 in
theorem slices_SortThing.stable (P0_ : Nat → Prop) (u : Value) (xs : List (S111)) (w0 w : World) (hB : Below w0.heap.size w0 w) (ho0 : Kd.R k111 111 w w0.heap.size P0_ u xs) (hs : xs.length ≤ 20) :
  Calls Try.prog 190 #[u, .int .i64 (xs.length : Int), .func (.func 165) #[] #[]] w fun e w' => e = .returned (.tuple #[]) ∧ Kd.R k111 111 w' w0.heap.size (fun k_ => (P0_ k_ ∨ w.heap.size ≤ k_)) u (Go.Proofs.Ytejhjenlodclpaa.SlcK.inSort slices_SortThing.lt xs) ∧ Below w0.heap.size w0 w' ∧ Kept w w' (fun k_ => P0_ k_) := by
 rcases Nat.eq_zero_or_pos xs.length with h0 | hp
 ·obtain rfl := List.length_eq_zero_iff.1 h0
  obtain ⟨A, c, rfl, _, _⟩ := Kd.R_reads ho0
  have HO := zK ho0
  have HB := zK hB
  clear ho0 hB
  have hi := slices_SortThing.ins0 A c w
  have c1 : decide ((20 : Int) ≤ 0) = false := by decide
  have c2 : decide ((20 : Int) < 0) = false := by decide
  go_enter Try.func190, Try.ntmps190
  go_wp2
  refine wp_loop_rounds 1 ?_
  rw [rounds_succ]
  go_wp2_with (go_at_call 202; refine hi.mono ?_; rintro e w' ⟨rfl, rfl⟩)
  refine wp_loop_rounds 1 ?_
  rw [rounds_succ]
  go_wp2
  go_end0
  exact ⟨rfl, Kd.R_mono HO.out (fun k hk => .inl hk), HB.out, Kept.refl _ _⟩
 ·have hi := Go.Proofs.Ytejhjenlodclpaa.SlcK.insertionSort_list slices_SortThing.lt xs
  rcases Nat.lt_or_eq_of_le hs with hlt | heq
  ·have h1 := slices_SortThing.ins 0 xs.length P0_ u xs w0 w hB ho0 hp (Nat.zero_le _) (Nat.le_refl _) hs
   rw [hi] at h1
   have H1 := zK h1
   clear h1 hi ho0 hB
   have c1 : decide ((20 : Int) ≤ (xs.length : Int)) = false := decide_eq_false (by omega)
   have c2 : decide ((20 : Int) < (xs.length : Int)) = false := decide_eq_false (by omega)
   clear hs hlt hp
   generalize Go.Proofs.Ytejhjenlodclpaa.SlcK.inSort slices_SortThing.lt xs = ys at H1 ⊢
   generalize xs.length = n at c1 c2 H1 ⊢
   go_enter Try.func190, Try.ntmps190
   go_wp2
   refine wp_loop_rounds 1 ?_
   rw [rounds_succ]
   go_wp2_with (go_at_call 202; refine H1.out.mono ?_; rintro e w1 ⟨rfl, hR, hb, hk⟩; have HR := zK hR; have HB := zK hb; have HK := zK hk; clear hR hb hk H1)
   refine wp_loop_rounds 1 ?_
   rw [rounds_succ]
   go_wp2
   go_end0
   exact ⟨rfl, HR.out, HB.out, HK.out⟩
  ·have h1 := slices_SortThing.ins 0 20 P0_ u xs w0 w hB ho0 hp (Nat.zero_le _) (by omega) hs
   have hi' : Go.Sort.insertionSort slices_SortThing.lt xs.toArray 0 20 = (Go.Proofs.Ytejhjenlodclpaa.SlcK.inSort slices_SortThing.lt xs).toArray := by rw [← heq]; exact hi
   rw [hi'] at h1
   have hlen := Go.Proofs.Ytejhjenlodclpaa.SlcK.inSort_length slices_SortThing.lt xs
   have h2 : ∀ w1, Below w0.heap.size w0 w1 → Kd.R k111 111 w1 w0.heap.size (fun k_ => (P0_ k_ ∨ w.heap.size ≤ k_)) u (Go.Proofs.Ytejhjenlodclpaa.SlcK.inSort slices_SortThing.lt xs) → _ := fun w1 hb hr => slices_SortThing.ins 20 20 (fun k_ => (P0_ k_ ∨ w.heap.size ≤ k_)) u (Go.Proofs.Ytejhjenlodclpaa.SlcK.inSort slices_SortThing.lt xs) w0 w1 hb hr (by omega) (Nat.le_refl _) (by omega) (by omega)
   have H1 := zK h1
   have H2 := zK h2
   clear h1 h2 hi hi' ho0 hB
   rw [heq]
   go_enter Try.func190, Try.ntmps190
   go_wp2
   refine wp_loop_rounds 2 ?_
   rw [rounds_succ]
   go_wp2_with (go_at_call 202; refine H1.out.mono ?_; rintro e w1 ⟨rfl, hR, hb, hk⟩; have HR := zK hR; have HB := zK hb; have HK := zK hk; clear hR hb hk H1)
   rw [rounds_succ]
   go_wp2_with (go_at_call 202; refine (H2.out _ HB.out (by simpa using HR.out)).mono ?_; rintro e w2 ⟨rfl, hR, hb, hk⟩; have HR2 := zK hR; have HB2 := zK hb; have HK2 := zK hk; clear hR hb hk H2)
   refine wp_loop_rounds 1 ?_
   rw [rounds_succ]
   go_wp2
   go_end0
   have hR := HR2.out
   rw [Go.Proofs.Ytejhjenlodclpaa.SlcK.insertionSort_none] at hR
   refine ⟨rfl, Kd.R_mono (by simpa using hR) (fun k hk => ?_), HB2.out, HK.out.then_ HK2.out (fun k hk => hk)⟩
   rcases hk with hk | hk
   ·exact hk
   ·have := HK.out.1
    exact .inr (by omega)
def slices_SortThing.f (l0 : List (S111)) : Option (List (S111)) := if l0.length ≤ 20 then some (Go.Proofs.Ytejhjenlodclpaa.SlcK.inSort slices_SortThing.lt l0) else none
set_option maxHeartbeats 8000000 in
set_option maxRecDepth 100000 in
theorem slices_SortThing.calls (P0_ : Nat → Prop) (u9000_ : Value) (l0 : List (S111)) (r : List (S111)) (w0 w : World) (hB : Below w0.heap.size w0 w) (ho0 : Kd.R k111 111 w w0.heap.size P0_ u9000_ l0) (h : slices_SortThing.f l0 = some r) :
  Calls Try.prog 164 #[u9000_, .func (.func 165) #[] #[]] w fun e w' => e = .returned (.tuple #[]) ∧ Kd.R k111 111 w' w0.heap.size (fun k_ => (P0_ k_ ∨ w.heap.size ≤ k_)) u9000_ r ∧ Below w0.heap.size w0 w' ∧ Kept w w' (fun k_ => P0_ k_) := by
 unfold slices_SortThing.f at h
 split at h
 rotate_left
 ·cases h
 rename_i hl
 obtain rfl := Option.some.inj h
 obtain ⟨A, c, rfl, _, _⟩ := Kd.R_reads ho0
 have hi := slices_SortThing.stable P0_ _ l0 w0 w hB ho0 hl
 clear ho0 hB h
 generalize Go.Proofs.Ytejhjenlodclpaa.SlcK.inSort slices_SortThing.lt l0 = ys at hi ⊢
 generalize l0.length = n at hi ⊢
 have HI := zK hi
 clear hi hl
 go_enter Try.func164, Try.ntmps164
 go_wp2_with (go_at_call 190; refine HI.out.mono ?_; rintro e w1 ⟨rfl, hR, hb, hk⟩; have HR := zK hR; have HB := zK hb; have HK := zK hk; clear hR hb hk HI)
 go_end0
 exact ⟨rfl, HR.out, HB.out, HK.out⟩
theorem slices_SortThing.len {l r : List (S111)} (h : slices_SortThing.f l = some r) : r.length = l.length := by
  unfold slices_SortThing.f at h
  split at h
  · rw [← Option.some.inj h]
    exact in_len _ l
  · cases h
/-! ### impl_PutAll: function 124 -/
mutual
def impl_PutAll.j0 : Nat → List (S111) → List (S154) → List Int → Bool → Option ((List (S154)) × List Int)
 | 0, _, _, _, _ => none
 | k + 1, x1, x6, x7, x22 => if x22 = true then (some (x6, x7)) else ((impl_Thing_163.f x1).bind fun t335 => ((slices_SortThing.f t335).bind fun t338 => (impl_PutAll.l0 k x6 x7 t338 (t335.length : Int) 0)))
def impl_PutAll.l0 : Nat → List (S154) → List Int → List (S111) → Int → Int → Option ((List (S154)) × List Int)
 | 0, _, _, _, _, _ => none
 | k + 1, x6, x7, x29, x30, x31 => if x31 < x30 then (if 0 ≤ x31 then (if x31 < (x29.length : Int) then ((impl_PutAway.f k x6 ((rd_T111 x29 x31).f0) ((rd_T111 x29 x31).f1) ((rd_T111 x29 x31).f2) ((rd_T111 x29 x31).f3) ((rd_T111 x29 x31).f4)).bind fun bt341 => (if bt341.2 = true then (impl_PutAll.l0 k bt341.1 x7 x29 x30 (wrap64 (x31 + 1))) else (if x7.length < 17592186044416 then (impl_PutAll.l0 k bt341.1 (x7 ++ [(rd_T111 x29 x31).f0]) x29 x30 (wrap64 (x31 + 1))) else (none)))) else (none)) else (none)) else ((slices_Sort.f x7).bind fun t348 => (some (x6, t348)))
end
def impl_PutAll.f (k : Nat) (l0 : List (S154)) (l1 : List (S111)) : Option ((List (S154)) × List Int) := (impl_Slot.f l0).bind fun t327 => ((some (([] : List Int) : List Int)).bind fun y330 => ((impl_AreSlots.f k l0).bind fun t333 => (if t333 = true then ((impl_AreThings.f k l1).bind fun t334 => (impl_PutAll.j0 k l1 t327 y330 (!t334))) else (impl_PutAll.j0 k l1 t327 y330 true))))
set_option maxHeartbeats 8000000 in
set_option maxRecDepth 100000 in
theorem impl_PutAll.calls (k : Nat) (A0 : Option Addr) (c0 : Nat) (l0 : List (S154)) (A1 : Option Addr) (c1 : Nat) (l1 : List (S111)) (r1 : List (S154)) (r2 : List Int) (w : World) (hr0 : Kd.C k154 w A0 l0.length l0) (hc0 : l0.length ≤ c0) (hr1 : Kd.C k111 w A1 l1.length l1) (hc1 : l1.length ≤ c1) (h : impl_PutAll.f k l0 l1 = some (r1, r2)) :
  Calls Try.prog 124 #[.slice A0 l0.length c0, .slice A1 l1.length c1] w fun e w' => ∃ v0_ v1_ : Value, e = .returned (.tuple #[v0_, v1_]) ∧ Kd.R k154 154 w' w.heap.size (fun _ => True) v0_ r1 ∧ Kd.R (Kd.int .i64) 3 w' w.heap.size (fun _ => True) v1_ r2 ∧ Below w.heap.size w w' := by
 have hu111 := Try.underlying111
 have HR0 := zK hr0
 have HC0 := zK hc0
 clear hr0 hc0
 have HR1 := zK hr1
 have HC1 := zK hc1
 clear hr1 hc1
 have HB := zK (Below.refl w.heap.size w)
 have H : ((impl_Slot.f l0).bind fun t327 => ((some (([] : List Int) : List Int)).bind fun y330 => ((impl_AreSlots.f k l0).bind fun t333 => (if t333 = true then ((impl_AreThings.f k l1).bind fun t334 => (impl_PutAll.j0 k l1 t327 y330 (!t334))) else (impl_PutAll.j0 k l1 t327 y330 true))))) = some (r1, r2) := h
 clear h
 replace H := Option.bind_eq_some_iff.mp H
 obtain ⟨t327, A30, H⟩ := H
 replace H : ((some (([] : List Int) : List Int)).bind fun y330 => ((impl_AreSlots.f k l0).bind fun t333 => (if t333 = true then ((impl_AreThings.f k l1).bind fun t334 => (impl_PutAll.j0 k l1 t327 y330 (!t334))) else (impl_PutAll.j0 k l1 t327 y330 true)))) = some (r1, r2) := H
 have A3 := zK A30
 clear A30
 obtain ⟨y330, hy330⟩ : ∃ y_ : List Int, y_ = (([] : List Int)) := ⟨_, rfl⟩
 replace H : ((impl_AreSlots.f k l0).bind fun t333 => (if t333 = true then ((impl_AreThings.f k l1).bind fun t334 => (impl_PutAll.j0 k l1 t327 y330 (!t334))) else (impl_PutAll.j0 k l1 t327 y330 true))) = some (r1, r2) := by first | (rw [hy330]; with_reducible exact H) | (have H2_ := (Option.bind_some _ _).symm.trans H; rw [hy330]; with_reducible exact H2_) | (have H2_ := (Option.bind_some _ _).symm.trans H; with_reducible exact H2_) | with_reducible exact H | (rw [hy330]; exact H) | exact H
 have Ny330 := zK hy330
 clear hy330
 have HC4 := zK H
 clear H
 go_enter Try.func124, Try.ntmps124
 go_upto_region 2 with (first | ((with_reducible refine gate_callee (f := 122) rfl ?_); refine goesL_ (some 13) rfl rfl Try.func122 (by kernel_rfl) rfl #[.slice A0 l0.length c0] rfl (by (try simp only [List.map_toArray, List.map_cons, List.map_nil]); first | done | rfl | (simp only [List.length_drop, List.length_take]; rfl)) ?_; (with_reducible refine (impl_Slot.calls _ _ l0 t327 _ ?side1 ?side2 A3.out).mono ?_); (case side1 => exact Kd.qC HR0.out); (case side2 => exact HC0.out); rintro e w5 ⟨v328, rfl, ho0, hb⟩; refine ⟨_, rfl, ?_⟩; have n0_ := zK (Kd.R_lower ho0 (bZ (qB HB.out))); have n1_ := zK (bT (qB HB.out) hb); clear HB; have HO329 := n0_; have HB := n1_; clear n0_ n1_; (try clear hb); (try clear hb2); (try clear hk); (try clear hi); (try clear ho0)) | ((with_reducible refine gate_dst (N := 14) rfl ?_); refine Kd.R_lit (Kd.int .i64) _ 3 ?hg (N := 14) ?hd (xs := ([] : List Int)) (inner := []) (ok := fun _ => True) (okp := fun _ => True) ?hr ?hp (fun _ hk => hk) trivial (Below.refl _ _) (Nat.le_refl _) (by simp) ?_; (case hd => rfl); (case hg => rfl); (case hr => first | (go_simp; done) | (go_simp; rfl)); (case hp => exact (Reps.none _ _)); intro v331 w6 ho7 hb hg_ hnew_; clear hg_ hnew_; (first | rw [← Ny330.out] at ho7 | (simp only [Int.reduceToNat] at ho7; rw [← Ny330.out] at ho7)); have n0_ := zK (Kd.R_below (Kd.qR HO329.out) hb); have n1_ := zK (Kd.R_lower ho7 (bZ (qB HB.out))); have n2_ := zK (bT (qB HB.out) hb); clear HO329; clear HB; have HO329 := n0_; have HO332 := n1_; have HB := n2_; clear n0_ n1_ n2_; clear hb ho7))
 (try simp only [Act.put, sA, sZ, sS])
 go_cut [22] (fun v22 wc => ∃ (kq : Nat) (x22_3 : Bool), v22 = .bool x22_3 ∧ Aside0 (impl_PutAll.j0 kq l1 t327 y330 x22_3 = some (r1, r2)) ∧ Aside0 (kq ≤ k) ∧ Aside0 (Kd.R k154 154 wc w.heap.size (fun _ => True) v328 t327) ∧ Aside0 (Kd.R (Kd.int .i64) 3 wc w.heap.size (fun _ => True) v331 y330) ∧ Aside0 (Below w.heap.size w wc))
 case first =>
  have H := HC4.out
  clear HC4
  replace H := Option.bind_eq_some_iff.mp H
  obtain ⟨t333, A80, H⟩ := H
  replace H : (if t333 = true then ((impl_AreThings.f k l1).bind fun t334 => (impl_PutAll.j0 k l1 t327 y330 (!t334))) else (impl_PutAll.j0 k l1 t327 y330 true)) = some (r1, r2) := H
  have A8 := zK A80
  clear A80
  by_cases c9 : t333 = true
  rotate_left
  ·replace c9 := Bool.eq_false_iff.mpr c9
   subst c9
   have H1 : (impl_PutAll.j0 k l1 t327 y330 true) = some (r1, r2) := by rw [if_neg (show ¬ (false = true) by decide)] at H; exact H
   clear H
   have H := H1
   clear H1
   have H' := zK H
   clear H
   go_wp2_with (first | ((with_reducible refine gate_callee (f := 120) rfl ?_); refine goesL_ (some 16) rfl rfl Try.func120 (by kernel_rfl) rfl #[.slice A0 l0.length c0] rfl (by (try simp only [List.map_toArray, List.map_cons, List.map_nil]); first | done | rfl | (simp only [List.length_drop, List.length_take]; rfl)) ?_; (with_reducible refine (impl_AreSlots.calls k _ _ l0 false _ ?side1 ?side2 A8.out).mono ?_); (case side1 => exact Kd.qC (Kd.C_below HR0.out HB.out)); (case side2 => exact HC0.out); rintro e w13 ⟨rfl, hb⟩; refine ⟨_, rfl, ?_⟩; have n0_ := zK (Kd.R_below (Kd.qR HO329.out) hb); have n1_ := zK (Kd.R_below (Kd.qR HO332.out) hb); have n2_ := zK (bT (qB HB.out) hb); clear HO329; clear HO332; clear HB; have HO329 := n0_; have HO332 := n1_; have HB := n2_; clear n0_ n1_ n2_; (try clear hb); (try clear hb2); (try clear hk); (try clear hi)))
   go_meet
   case rel => exact ⟨_, (true), (by first | rfl | (simp; done) | (simp [*]; done)), H', ⟨by first | omega | exact Nat.le_refl _⟩, ⟨by exact Kd.qR HO329.out⟩, ⟨by exact Kd.qR HO332.out⟩, ⟨by exact qB HB.out⟩⟩
  subst c9
  have H1 : ((impl_AreThings.f k l1).bind fun t334 => (impl_PutAll.j0 k l1 t327 y330 (!t334))) = some (r1, r2) := by rw [if_pos rfl] at H; exact H
  clear H
  have H := H1
  clear H1
  replace H := Option.bind_eq_some_iff.mp H
  obtain ⟨t334, A100, H⟩ := H
  replace H : (impl_PutAll.j0 k l1 t327 y330 (!t334)) = some (r1, r2) := H
  have A10 := zK A100
  clear A100
  have H' := zK H
  clear H
  go_wp2_with (first | ((with_reducible refine gate_callee (f := 120) rfl ?_); refine goesL_ (some 16) rfl rfl Try.func120 (by kernel_rfl) rfl #[.slice A0 l0.length c0] rfl (by (try simp only [List.map_toArray, List.map_cons, List.map_nil]); first | done | rfl | (simp only [List.length_drop, List.length_take]; rfl)) ?_; (with_reducible refine (impl_AreSlots.calls k _ _ l0 true _ ?side1 ?side2 A8.out).mono ?_); (case side1 => exact Kd.qC (Kd.C_below HR0.out HB.out)); (case side2 => exact HC0.out); rintro e w11 ⟨rfl, hb⟩; refine ⟨_, rfl, ?_⟩; have n0_ := zK (Kd.R_below (Kd.qR HO329.out) hb); have n1_ := zK (Kd.R_below (Kd.qR HO332.out) hb); have n2_ := zK (bT (qB HB.out) hb); clear HO329; clear HO332; clear HB; have HO329 := n0_; have HO332 := n1_; have HB := n2_; clear n0_ n1_ n2_; (try clear hb); (try clear hb2); (try clear hk); (try clear hi)) | (go_at_call 121; (with_reducible refine (impl_AreThings.calls k _ _ l1 t334 _ ?side1 ?side2 A10.out).mono ?_); (case side1 => exact Kd.qC (Kd.C_below HR1.out HB.out)); (case side2 => exact HC1.out); rintro e w12 ⟨rfl, hb⟩; have n0_ := zK (Kd.R_below (Kd.qR HO329.out) hb); have n1_ := zK (Kd.R_below (Kd.qR HO332.out) hb); have n2_ := zK (bT (qB HB.out) hb); clear HO329; clear HO332; clear HB; have HO329 := n0_; have HO332 := n1_; have HB := n2_; clear n0_ n1_ n2_; (try clear hb); (try clear hb2); (try clear hk); (try clear hi)))
  go_meet
  case rel => exact ⟨_, (!t334), (by first | rfl | (simp; done) | (simp [*]; done)), H', ⟨by first | omega | exact Nat.le_refl _⟩, ⟨by exact Kd.qR HO329.out⟩, ⟨by exact Kd.qR HO332.out⟩, ⟨by exact qB HB.out⟩⟩
 case rest =>
  clear HC4
  try clear c1
  try clear p2
  try clear c9
  try clear c12
  obtain ⟨kq, x22_3, rfl, HA, HJ3, HO_6, HO_7, HB⟩ := hcut
  cases kq with
  | zero => exact absurd HA.out (by simp [impl_PutAll.j0])
  | succ kj3 =>
   have H := HA.out
   clear HA
   simp only [impl_PutAll.j0] at H
   by_cases c14 : x22_3 = true
   ·subst c14
    have H1 : (some (t327, y330)) = some (r1, r2) := by rw [if_pos rfl] at H; exact H
    clear H
    have H := H1
    clear H1
    simp only [Option.some.injEq, Prod.mk.injEq] at H
    obtain ⟨rfl, rfl⟩ := H
    go_wp2
    go_ret2
    exact ⟨_, _, by first | rfl | (simp [errW_none, errW_some] <;> rfl) | (simp [*, errW_none, errW_some] <;> rfl), by exact Kd.qR HO_6.out, by exact Kd.qR HO_7.out, by exact qB HB.out⟩
   replace c14 := Bool.eq_false_iff.mpr c14
   subst c14
   have H1 : ((impl_Thing_163.f l1).bind fun t335 => ((slices_SortThing.f t335).bind fun t338 => (impl_PutAll.l0 kj3 t327 y330 t338 (t335.length : Int) 0))) = some (r1, r2) := by rw [if_neg (show ¬ (false = true) by decide)] at H; exact H
   clear H
   have H := H1
   clear H1
   replace H := Option.bind_eq_some_iff.mp H
   obtain ⟨t335, A150, H⟩ := H
   replace H : ((slices_SortThing.f t335).bind fun t338 => (impl_PutAll.l0 kj3 t327 y330 t338 (t335.length : Int) 0)) = some (r1, r2) := H
   have A15 := zK A150
   clear A150
   replace H := Option.bind_eq_some_iff.mp H
   obtain ⟨t338, A160, H⟩ := H
   replace H : (impl_PutAll.l0 kj3 t327 y330 t338 (t335.length : Int) 0) = some (r1, r2) := H
   have A16 := zK A160
   clear A160
   have H' := zK H
   clear H
   go_wp2_with (first | ((with_reducible refine gate_callee (f := 163) rfl ?_); refine goesL_ (some 26) rfl rfl Try.func163 (by kernel_rfl) rfl #[.slice A1 l1.length c1] rfl (by (try simp only [List.map_toArray, List.map_cons, List.map_nil]); first | done | rfl | (simp only [List.length_drop, List.length_take]; rfl)) ?_; (with_reducible refine (impl_Thing_163.calls _ _ l1 t335 _ ?side1 ?side2 A15.out).mono ?_); (case side1 => exact Kd.qC (Kd.C_below HR1.out HB.out)); (case side2 => exact HC1.out); rintro e w17 ⟨v336, rfl, ho0, hb⟩; refine ⟨_, rfl, ?_⟩; have n0_ := zK (Kd.R_below (Kd.qR HO_6.out) hb); have n1_ := zK (Kd.R_below (Kd.qR HO_7.out) hb); have n2_ := zK (Kd.R_lower ho0 (bZ (qB HB.out))); have n3_ := zK (bT (qB HB.out) hb); clear HO_6; clear HO_7; clear HB; have HO_6 := n0_; have HO_7 := n1_; have HO337 := n2_; have HB := n3_; clear n0_ n1_ n2_ n3_; (try clear hb); (try clear hb2); (try clear hk); (try clear hi); (try clear ho0); obtain ⟨Ao18, co18, eo18⟩ := Kd.R_slice HO337.out; subst eo18) | ((with_reducible refine gate_callee (f := 164) rfl ?_); refine goesL_ (some 28) rfl rfl Try.func164 (by kernel_rfl) rfl #[.slice Ao18 t335.length co18, .func (.func 165) #[] #[]] rfl (by (try simp only [List.map_toArray, List.map_cons, List.map_nil]); first | done | rfl | (simp only [List.length_drop, List.length_take]; rfl)) ?_; (with_reducible refine (slices_SortThing.calls (fun k_ => some k_ = (.slice Ao18 t335.length co18 : Value).ownBlock) (.slice Ao18 t335.length co18) t335 t338 w _ ?side1 ?side2 A16.out).mono ?_); (case side1 => repeat (first | (with_reducible first | exact HB.out | apply bA | apply bN | apply b1) | exact HB.out)); (case side2 => exact Kd.R_tight rfl HO337.out); rintro e w19 ⟨rfl, hy0, hb, hkp⟩; refine ⟨_, rfl, ?_⟩; have n0_ := zK (Kd.R_mono (ok' := fun k_ => True) (Kd.R_keptB ((Kd.R_apart' HO_6.out (Kd.R_typed HO337.out) (by decide))) hkp (fun k_ hk_ hs_ => (hk_.2) hs_)) (fun k_ hk_ => trivial)); have n1_ := zK (Kd.R_mono (ok' := fun k_ => True) (Kd.R_keptB ((Kd.R_apart' HO_7.out (Kd.R_typed HO337.out) (by decide))) hkp (fun k_ hk_ hs_ => (hk_.2) hs_)) (fun k_ hk_ => trivial)); have n2_ := zK (Kd.R_reok rfl hy0 (fun k_ e_ => HO337.out.1 k_ e_)); have n3_ := zK (hb); clear HO_6; clear HO_7; clear HO337; clear HB; have HO_6 := n0_; have HO_7 := n1_; have HO337 := n2_; have HB := n3_; clear n0_ n1_ n2_ n3_; (try clear hb); (try clear hkp); (try clear hy0)))
   go_loopg [6, 7, 31] kj3 (fun kq v6 v7 v31 w' => ∃ (x6_2 : List (S154)) (x7_2 : List Int) (x31_2 : Int), v31 = .int .i64 x31_2 ∧ Aside0 (impl_PutAll.l0 kq x6_2 x7_2 t338 (t335.length : Int) x31_2 = some (r1, r2)) ∧ Aside0 (kq ≤ kj3) ∧ Aside0 (Kd.R k154 154 w' w.heap.size (fun _ => True) v6 x6_2) ∧ Aside0 (Kd.R (Kd.int .i64) 3 w' w.heap.size (fun _ => True) v7 x7_2) ∧ Aside0 (Kd.R k111 111 w' w.heap.size (fun _ => True) (.slice Ao18 t335.length co18) t338) ∧ Aside0 (Below w.heap.size w w'))
   case atStart => exact ⟨(t327), (y330), (0), (by first | rfl | (simp; done) | (simp [*]; done)), H', ⟨Nat.le_refl _⟩, ⟨by exact Kd.qR HO_6.out⟩, ⟨by exact Kd.qR HO_7.out⟩, ⟨by exact Kd.qR HO337.out⟩, ⟨by exact qB HB.out⟩⟩
   case round =>
    clear H'
    try clear c1
    try clear p2
    try clear c9
    try clear c12
    try clear c14
    try clear c16
    try clear p2
    obtain ⟨x6_2, x7_2, x31_2, rfl, HA, HK2, HO_6, HO_7, HO_29, HB⟩ := hrel
    have hl29_2 := (Kd.R_reads' HO_29.out).1
    rw [hl29_2] at HO_29
    (try simp only [hl29_2])
    (try simp only [hl29_2] at HO_6)
    (try simp only [hl29_2] at HO_7)
    cases gk with
    | zero => exact absurd HA.out (by simp [impl_PutAll.l0])
    | succ k2 =>
     have H := HA.out
     clear HA
     simp only [impl_PutAll.l0] at H
     by_cases c20 : x31_2 < (t335.length : Int)
     rotate_left
     ·rw [if_neg c20] at H
      have c20b0 : decide (x31_2 < (t335.length : Int)) = false := decide_eq_false c20
      (try rw [← slices_SortThing.len A16.out] at c20b0)
      clear c20
      replace H := Option.bind_eq_some_iff.mp H
      obtain ⟨t348, A360, H⟩ := H
      replace H : (some (x6_2, t348)) = some (r1, r2) := H
      have A36 := zK A360
      clear A360
      simp only [Option.some.injEq, Prod.mk.injEq] at H
      obtain ⟨rfl, rfl⟩ := H
      obtain ⟨Ao37, co37, eo37⟩ := Kd.R_slice HO_7.out
      subst eo37
      go_wp2_with (first | ((with_reducible refine gate_callee (f := 105) rfl ?_); refine goesL_ (some 50) rfl rfl Try.func105 (by kernel_rfl) rfl #[.slice Ao37 x7_2.length co37] rfl (by (try simp only [List.map_toArray, List.map_cons, List.map_nil]); first | done | rfl | (simp only [List.length_drop, List.length_take]; rfl)) ?_; (with_reducible refine (slices_Sort.calls (fun k_ => some k_ = (.slice Ao37 x7_2.length co37 : Value).ownBlock) (.slice Ao37 x7_2.length co37) x7_2 t348 w _ ?side1 ?side2 A36.out).mono ?_); (case side1 => repeat (first | (with_reducible first | exact HB.out | apply bA | apply bN | apply b1) | exact HB.out)); (case side2 => exact Kd.R_tight rfl HO_7.out); rintro e w38 ⟨rfl, hy0, hb, hkp⟩; refine ⟨_, rfl, ?_⟩; have n0_ := zK (Kd.R_mono (ok' := fun k_ => True) (Kd.R_keptB ((Kd.R_apart' HO_6.out (Kd.R_typed HO_7.out) (by decide))) hkp (fun k_ hk_ hs_ => (hk_.2) hs_)) (fun k_ hk_ => trivial)); have n1_ := zK (Kd.R_reok rfl hy0 (fun k_ e_ => HO_7.out.1 k_ e_)); have n2_ := zK (Kd.R_mono (ok' := fun k_ => True) (Kd.R_keptB ((Kd.R_apart' HO_29.out (Kd.R_typed HO_7.out) (by decide))) hkp (fun k_ hk_ hs_ => (hk_.2) hs_)) (fun k_ hk_ => trivial)); have n3_ := zK (hb); clear HO_6; clear HO_7; clear HO_29; clear HB; have HO_6 := n0_; have HO_7 := n1_; have HO_29 := n2_; have HB := n3_; clear n0_ n1_ n2_ n3_; (try clear hb); (try clear hkp); (try clear hy0)))
      go_ret2
      exact ⟨_, _, by first | rfl | (simp [errW_none, errW_some] <;> rfl) | (simp [*, errW_none, errW_some] <;> rfl), by exact Kd.qR HO_6.out, by exact Kd.qR HO_7.out, by exact qB HB.out⟩
     rw [if_pos c20] at H
     have c20b0 : decide (x31_2 < (t335.length : Int)) = true := decide_eq_true c20
     (try rw [← slices_SortThing.len A16.out] at c20b0)
     clear c20
     by_cases c21 : 0 ≤ x31_2
     rotate_left
     ·rw [if_neg c21] at H
      exact absurd H (by simp)
     rw [if_pos c21] at H
     have c21b0 : decide (0 ≤ x31_2) = true := decide_eq_true c21
     clear c21
     by_cases c22 : x31_2 < (t338.length : Int)
     rotate_left
     ·rw [if_neg c22] at H
      exact absurd H (by simp)
     rw [if_pos c22] at H
     have c22b0 : decide (x31_2 < (t338.length : Int)) = true := decide_eq_true c22
     clear c22
     replace H := Option.bind_eq_some_iff.mp H
     obtain ⟨⟨t341, t344⟩, A230, H⟩ := H
     replace H : (if t344 = true then (impl_PutAll.l0 k2 t341 x7_2 t338 (t335.length : Int) (wrap64 (x31_2 + 1))) else (if x7_2.length < 17592186044416 then (impl_PutAll.l0 k2 t341 (x7_2 ++ [(rd_T111 t338 x31_2).f0]) t338 (t335.length : Int) (wrap64 (x31_2 + 1))) else (none))) = some (r1, r2) := H
     have A23 := zK A230
     clear A230
     by_cases c24 : t344 = true
     ·subst c24
      have H1 : (impl_PutAll.l0 k2 t341 x7_2 t338 (t335.length : Int) (wrap64 (x31_2 + 1))) = some (r1, r2) := by rw [if_pos rfl] at H; exact H
      clear H
      have H := H1
      clear H1
      have H' := zK H
      clear H
      have p339 : 0 ≤ (x31_2 : Int) := oD (by first | (with_reducible assumption) | assumption)
      have q339 : x31_2 < (t338.length : Int) := oD (by first | (with_reducible assumption) | assumption)
      obtain ⟨ad339, e339, hx339_0, hx339_1, hx339_2, hx339_3, hx339_4⟩ := at_T111 (Kd.R_reads' HO_29.out).2.2 x31_2 p339 q339
      cases e339
      replace p339 := eq_true p339
      replace q339 := eq_true q339
      go_wp2_with (first | ((with_reducible refine gate_dst (N := 10) rfl ?_); refine box_event ?hg (N := 10) ?hd (cs := #[.int .i64 0, .int .i64 0, .int .i64 0, .int .i64 0, .int .i64 0]) (t := 111) ?hr ?_; (case hd => rfl); (case hg => rfl); (case hr => first | (go_simp; done) | (go_simp; rfl)); intro gb340 hg w25 hbox hb; have n0_ := zK (Kd.R_below (Kd.qR HO_6.out) hb); have n1_ := zK (Kd.R_below (Kd.qR HO_7.out) hb); have n2_ := zK (Kd.R_below (Kd.R_elderB (Kd.qR HO_29.out) gb340 (Nat.le_of_eq hg.symm)) hb); have n3_ := zK (bT (qB HB.out) hb); have n4_ := zK (hbox); have n5_ := zK ((by rw [hg]; exact (bZ (qB HB.out)) : w.heap.size ≤ gb340)); have n6_ := zK ((by rw [hg]; exact (bZ (qB HB.out)) : w.heap.size ≤ gb340)); clear HO_6; clear HO_7; clear HO_29; clear HB; have HO_6 := n0_; have HO_7 := n1_; have HO_29 := n2_; have HB := n3_; have BK340 := n4_; have GW340 := n5_; have GE340 := n6_; clear n0_ n1_ n2_ n3_ n4_ n5_ n6_; clear hb hbox hg; have hcz26_0 : w25.cell? ⟨gb340, 0, none⟩ = some (.int .i64 0) := (bc BK340.out 0).trans rfl; have hcz26_1 : w25.cell? ⟨gb340, 1, none⟩ = some (.int .i64 0) := (bc BK340.out 1).trans rfl; have hcz26_2 : w25.cell? ⟨gb340, 2, none⟩ = some (.int .i64 0) := (bc BK340.out 2).trans rfl; have hcz26_3 : w25.cell? ⟨gb340, 3, none⟩ = some (.int .i64 0) := (bc BK340.out 3).trans rfl; have hcz26_4 : w25.cell? ⟨gb340, 4, none⟩ = some (.int .i64 0) := (bc BK340.out 4).trans rfl; have hfz26_0 := bf BK340.out 0; have hfz26_1 := bf BK340.out 1; have hfz26_2 := bf BK340.out 2; have hfz26_3 := bf BK340.out 3; have hfz26_4 := bf BK340.out 4; obtain ⟨Ao27, co27, eo27⟩ := Kd.R_slice HO_6.out; subst eo27) | ((with_reducible refine gate_callee (f := 167) rfl ?_); refine goesL_ (some 38) rfl rfl Try.func167 (by kernel_rfl) rfl #[.slice Ao27 x6_2.length co27, .agg #[.int .i64 ((rd_T111 t338 x31_2).f0), .int .i64 ((rd_T111 t338 x31_2).f1), .int .i64 ((rd_T111 t338 x31_2).f2), .int .i64 ((rd_T111 t338 x31_2).f3), .int .i64 ((rd_T111 t338 x31_2).f4)]] rfl (by (try simp only [List.map_toArray, List.map_cons, List.map_nil]); first | done | rfl | (simp only [List.length_drop, List.length_take]; rfl)) ?_; (with_reducible refine (impl_PutAway.calls k2 _ _ x6_2 ((rd_T111 t338 x31_2).f0) ((rd_T111 t338 x31_2).f1) ((rd_T111 t338 x31_2).f2) ((rd_T111 t338 x31_2).f3) ((rd_T111 t338 x31_2).f4) t341 true _ ?side1 ?side2 A23.out).mono ?_); (case side1 => refine (Kd.R_reads' (e := 154) (base := w.heap.size) (ok := fun k_ => True) (n := x6_2.length) (c := co27) ?_).2.2; exact (by (with_reducible repeat (first | apply Kd.RA | apply Kd.RN | apply Kd.RD)); exact (Kd.R_mono (Kd.R_far (p := ⟨gb340, 4, none⟩) (Kd.R_far (p := ⟨gb340, 3, none⟩) (Kd.R_far (p := ⟨gb340, 2, none⟩) (Kd.R_far (p := ⟨gb340, 1, none⟩) (Kd.R_far (p := ⟨gb340, 0, none⟩) (Kd.R_types HO_6.out BK340.out (by decide)) (fun _ hk => hk.2) (.int .i64 ((rd_T111 t338 x31_2).f0))) (fun _ hk => hk.2) (.int .i64 ((rd_T111 t338 x31_2).f1))) (fun _ hk => hk.2) (.int .i64 ((rd_T111 t338 x31_2).f2))) (fun _ hk => hk.2) (.int .i64 ((rd_T111 t338 x31_2).f3))) (fun _ hk => hk.2) (.int .i64 ((rd_T111 t338 x31_2).f4))) (fun _ h_ => h_.1)))); (case side2 => exact (Kd.R_reads' HO_6.out).2.1); rintro e w28 ⟨v342, rfl, ho0, hb⟩; refine ⟨_, rfl, ?_⟩; have n0_ := zK (Kd.R_elder' (by (with_reducible repeat (first | apply Kd.RA | apply Kd.RN | apply Kd.RD)); exact (Kd.R_mono (Kd.R_far (p := ⟨gb340, 4, none⟩) (Kd.R_far (p := ⟨gb340, 3, none⟩) (Kd.R_far (p := ⟨gb340, 2, none⟩) (Kd.R_far (p := ⟨gb340, 1, none⟩) (Kd.R_far (p := ⟨gb340, 0, none⟩) (Kd.R_types HO_6.out BK340.out (by decide)) (fun _ hk => hk.2) (.int .i64 ((rd_T111 t338 x31_2).f0))) (fun _ hk => hk.2) (.int .i64 ((rd_T111 t338 x31_2).f1))) (fun _ hk => hk.2) (.int .i64 ((rd_T111 t338 x31_2).f2))) (fun _ hk => hk.2) (.int .i64 ((rd_T111 t338 x31_2).f3))) (fun _ hk => hk.2) (.int .i64 ((rd_T111 t338 x31_2).f4))) (fun _ h_ => h_.1))) (Kd.R_base ho0) hb); have n1_ := zK (Kd.R_below (by (with_reducible repeat (first | apply Kd.RA | apply Kd.RN | apply Kd.RD)); exact (Kd.R_mono (Kd.R_far (p := ⟨gb340, 4, none⟩) (Kd.R_far (p := ⟨gb340, 3, none⟩) (Kd.R_far (p := ⟨gb340, 2, none⟩) (Kd.R_far (p := ⟨gb340, 1, none⟩) (Kd.R_far (p := ⟨gb340, 0, none⟩) (Kd.R_types HO_7.out BK340.out (by decide)) (fun _ hk => hk.2) (.int .i64 ((rd_T111 t338 x31_2).f0))) (fun _ hk => hk.2) (.int .i64 ((rd_T111 t338 x31_2).f1))) (fun _ hk => hk.2) (.int .i64 ((rd_T111 t338 x31_2).f2))) (fun _ hk => hk.2) (.int .i64 ((rd_T111 t338 x31_2).f3))) (fun _ hk => hk.2) (.int .i64 ((rd_T111 t338 x31_2).f4))) (fun _ h_ => h_.1))) hb); have n2_ := zK (Kd.R_below (by (with_reducible repeat (first | apply Kd.RA | apply Kd.RN | apply Kd.RD)); exact (Kd.R_mono (Kd.R_far (p := ⟨gb340, 4, none⟩) (Kd.R_far (p := ⟨gb340, 3, none⟩) (Kd.R_far (p := ⟨gb340, 2, none⟩) (Kd.R_far (p := ⟨gb340, 1, none⟩) (Kd.R_far (p := ⟨gb340, 0, none⟩) (Kd.R_mono HO_29.out (fun k_ hk => (⟨hk, hk.2⟩ : _ ∧ k_ ≠ gb340))) (fun _ hk => hk.2) (.int .i64 ((rd_T111 t338 x31_2).f0))) (fun _ hk => hk.2) (.int .i64 ((rd_T111 t338 x31_2).f1))) (fun _ hk => hk.2) (.int .i64 ((rd_T111 t338 x31_2).f2))) (fun _ hk => hk.2) (.int .i64 ((rd_T111 t338 x31_2).f3))) (fun _ hk => hk.2) (.int .i64 ((rd_T111 t338 x31_2).f4))) (fun _ h_ => h_.1))) hb); have n3_ := zK (Kd.R_lower (Kd.R_new' ho0 (Kd.R_lt (by (with_reducible repeat (first | apply Kd.RA | apply Kd.RN | apply Kd.RD)); exact (Kd.R_mono (Kd.R_far (p := ⟨gb340, 4, none⟩) (Kd.R_far (p := ⟨gb340, 3, none⟩) (Kd.R_far (p := ⟨gb340, 2, none⟩) (Kd.R_far (p := ⟨gb340, 1, none⟩) (Kd.R_far (p := ⟨gb340, 0, none⟩) (Kd.R_types HO_6.out BK340.out (by decide)) (fun _ hk => hk.2) (.int .i64 ((rd_T111 t338 x31_2).f0))) (fun _ hk => hk.2) (.int .i64 ((rd_T111 t338 x31_2).f1))) (fun _ hk => hk.2) (.int .i64 ((rd_T111 t338 x31_2).f2))) (fun _ hk => hk.2) (.int .i64 ((rd_T111 t338 x31_2).f3))) (fun _ hk => hk.2) (.int .i64 ((rd_T111 t338 x31_2).f4))) (fun _ h_ => h_.1))))) (bZ (by repeat (first | (with_reducible first | exact HB.out | apply bA | apply bN | apply b1 | refine bS ?_ GE340.out) | exact HB.out)))); have n4_ := zK (bB (g := gb340) (o := .cells #[.int .i64 ((rd_T111 t338 x31_2).f0), .int .i64 ((rd_T111 t338 x31_2).f1), .int .i64 ((rd_T111 t338 x31_2).f2), .int .i64 ((rd_T111 t338 x31_2).f3), .int .i64 ((rd_T111 t338 x31_2).f4)] 111 (0, 0)) (by (with_reducible repeat (first | refine kN ?_ _ | refine kD ?_ | refine kA ?_ _)); refine blk_put (cs := #[.int .i64 ((rd_T111 t338 x31_2).f0), .int .i64 ((rd_T111 t338 x31_2).f1), .int .i64 ((rd_T111 t338 x31_2).f2), .int .i64 ((rd_T111 t338 x31_2).f3), .int .i64 0]) ?_ 4 _ rfl; (with_reducible repeat (first | refine kN ?_ _ | refine kD ?_ | refine kA ?_ _)); refine blk_put (cs := #[.int .i64 ((rd_T111 t338 x31_2).f0), .int .i64 ((rd_T111 t338 x31_2).f1), .int .i64 ((rd_T111 t338 x31_2).f2), .int .i64 0, .int .i64 0]) ?_ 3 _ rfl; (with_reducible repeat (first | refine kN ?_ _ | refine kD ?_ | refine kA ?_ _)); refine blk_put (cs := #[.int .i64 ((rd_T111 t338 x31_2).f0), .int .i64 ((rd_T111 t338 x31_2).f1), .int .i64 0, .int .i64 0, .int .i64 0]) ?_ 2 _ rfl; (with_reducible repeat (first | refine kN ?_ _ | refine kD ?_ | refine kA ?_ _)); refine blk_put (cs := #[.int .i64 ((rd_T111 t338 x31_2).f0), .int .i64 0, .int .i64 0, .int .i64 0, .int .i64 0]) ?_ 1 _ rfl; (with_reducible repeat (first | refine kN ?_ _ | refine kD ?_ | refine kA ?_ _)); refine blk_put (cs := #[.int .i64 0, .int .i64 0, .int .i64 0, .int .i64 0, .int .i64 0]) ?_ 0 _ rfl; exact qK BK340.out) hb); have n5_ := zK (bT (by repeat (first | (with_reducible first | exact HB.out | apply bA | apply bN | apply b1 | refine bS ?_ GE340.out) | exact HB.out)) hb); clear HO_6; clear HO_7; clear HO_29; clear BK340; clear HB; have HO_6 := n0_; have HO_7 := n1_; have HO_29 := n2_; have HO343 := n3_; have BK340 := n4_; have HB := n5_; clear n0_ n1_ n2_ n3_ n4_ n5_; (try clear hb); (try clear hb2); (try clear hk); (try clear hi); (try clear ho0)))
      (try simp only [← hl29_2])
      go_roundg k2
      case measure => have := HJ3.out; have := HK2.out; omega
      case rel => exact ⟨(t341), (x7_2), (wrap64 (x31_2 + 1)), (by first | rfl | (simp; done) | (simp [*]; done)), H', ⟨by have := HJ3.out; have := HK2.out; omega⟩, ⟨by (try simp only [hl29_2]); (with_reducible repeat (first | apply Kd.RA | apply Kd.RN | apply Kd.RD)); exact Kd.R_mono HO343.out (fun _ hk => trivial)⟩, ⟨by (try simp only [hl29_2]); exact Kd.qR HO_7.out⟩, ⟨by (try simp only [hl29_2]); (with_reducible repeat (first | apply Kd.RA | apply Kd.RN | apply Kd.RD)); exact Kd.R_mono HO_29.out (fun _ hk => trivial)⟩, ⟨by repeat (first | (with_reducible first | exact HB.out | apply bA | apply bN | apply b1 | refine bS ?_ GE340.out) | exact HB.out)⟩⟩
     replace c24 := Bool.eq_false_iff.mpr c24
     subst c24
     have H1 : (if x7_2.length < 17592186044416 then (impl_PutAll.l0 k2 t341 (x7_2 ++ [(rd_T111 t338 x31_2).f0]) t338 (t335.length : Int) (wrap64 (x31_2 + 1))) else (none)) = some (r1, r2) := by rw [if_neg (show ¬ (false = true) by decide)] at H; exact H
     clear H
     have H := H1
     clear H1
     by_cases c29 : x7_2.length < 17592186044416
     rotate_left
     ·rw [if_neg c29] at H
      exact absurd H (by simp)
     rw [if_pos c29] at H
     have LMc29 := zK c29
     clear c29
     obtain ⟨y345, hy345⟩ : ∃ y_ : List Int, y_ = (x7_2 ++ [(rd_T111 t338 x31_2).f0]) := ⟨_, rfl⟩
     replace H : (impl_PutAll.l0 k2 t341 y345 t338 (t335.length : Int) (wrap64 (x31_2 + 1))) = some (r1, r2) := by first | (rw [hy345]; with_reducible exact H) | (have H2_ := (Option.bind_some _ _).symm.trans H; rw [hy345]; with_reducible exact H2_) | (have H2_ := (Option.bind_some _ _).symm.trans H; with_reducible exact H2_) | with_reducible exact H | (rw [hy345]; exact H) | exact H
     have Ny345 := zK hy345
     clear hy345
     have H' := zK H
     clear H
     have p339 : 0 ≤ (x31_2 : Int) := oD (by first | (with_reducible assumption) | assumption)
     have q339 : x31_2 < (t338.length : Int) := oD (by first | (with_reducible assumption) | assumption)
     obtain ⟨ad339, e339, hx339_0, hx339_1, hx339_2, hx339_3, hx339_4⟩ := at_T111 (Kd.R_reads' HO_29.out).2.2 x31_2 p339 q339
     cases e339
     replace p339 := eq_true p339
     replace q339 := eq_true q339
     go_wp2_with (first | ((with_reducible refine gate_dst (N := 10) rfl ?_); refine box_event ?hg (N := 10) ?hd (cs := #[.int .i64 0, .int .i64 0, .int .i64 0, .int .i64 0, .int .i64 0]) (t := 111) ?hr ?_; (case hd => rfl); (case hg => rfl); (case hr => first | (go_simp; done) | (go_simp; rfl)); intro gb340 hg w30 hbox hb; have n0_ := zK (Kd.R_below (Kd.qR HO_6.out) hb); have n1_ := zK (Kd.R_below (Kd.qR HO_7.out) hb); have n2_ := zK (Kd.R_below (Kd.R_elderB (Kd.qR HO_29.out) gb340 (Nat.le_of_eq hg.symm)) hb); have n3_ := zK (bT (qB HB.out) hb); have n4_ := zK (hbox); have n5_ := zK ((by rw [hg]; exact (bZ (qB HB.out)) : w.heap.size ≤ gb340)); have n6_ := zK ((by rw [hg]; exact (bZ (qB HB.out)) : w.heap.size ≤ gb340)); clear HO_6; clear HO_7; clear HO_29; clear HB; have HO_6 := n0_; have HO_7 := n1_; have HO_29 := n2_; have HB := n3_; have BK340 := n4_; have GW340 := n5_; have GE340 := n6_; clear n0_ n1_ n2_ n3_ n4_ n5_ n6_; clear hb hbox hg; have hcz31_0 : w30.cell? ⟨gb340, 0, none⟩ = some (.int .i64 0) := (bc BK340.out 0).trans rfl; have hcz31_1 : w30.cell? ⟨gb340, 1, none⟩ = some (.int .i64 0) := (bc BK340.out 1).trans rfl; have hcz31_2 : w30.cell? ⟨gb340, 2, none⟩ = some (.int .i64 0) := (bc BK340.out 2).trans rfl; have hcz31_3 : w30.cell? ⟨gb340, 3, none⟩ = some (.int .i64 0) := (bc BK340.out 3).trans rfl; have hcz31_4 : w30.cell? ⟨gb340, 4, none⟩ = some (.int .i64 0) := (bc BK340.out 4).trans rfl; have hfz31_0 := bf BK340.out 0; have hfz31_1 := bf BK340.out 1; have hfz31_2 := bf BK340.out 2; have hfz31_3 := bf BK340.out 3; have hfz31_4 := bf BK340.out 4; obtain ⟨Ao32, co32, eo32⟩ := Kd.R_slice HO_6.out; subst eo32) | ((with_reducible refine gate_callee (f := 167) rfl ?_); refine goesL_ (some 38) rfl rfl Try.func167 (by kernel_rfl) rfl #[.slice Ao32 x6_2.length co32, .agg #[.int .i64 ((rd_T111 t338 x31_2).f0), .int .i64 ((rd_T111 t338 x31_2).f1), .int .i64 ((rd_T111 t338 x31_2).f2), .int .i64 ((rd_T111 t338 x31_2).f3), .int .i64 ((rd_T111 t338 x31_2).f4)]] rfl (by (try simp only [List.map_toArray, List.map_cons, List.map_nil]); first | done | rfl | (simp only [List.length_drop, List.length_take]; rfl)) ?_; (with_reducible refine (impl_PutAway.calls k2 _ _ x6_2 ((rd_T111 t338 x31_2).f0) ((rd_T111 t338 x31_2).f1) ((rd_T111 t338 x31_2).f2) ((rd_T111 t338 x31_2).f3) ((rd_T111 t338 x31_2).f4) t341 false _ ?side1 ?side2 A23.out).mono ?_); (case side1 => refine (Kd.R_reads' (e := 154) (base := w.heap.size) (ok := fun k_ => True) (n := x6_2.length) (c := co32) ?_).2.2; exact (by (with_reducible repeat (first | apply Kd.RA | apply Kd.RN | apply Kd.RD)); exact (Kd.R_mono (Kd.R_far (p := ⟨gb340, 4, none⟩) (Kd.R_far (p := ⟨gb340, 3, none⟩) (Kd.R_far (p := ⟨gb340, 2, none⟩) (Kd.R_far (p := ⟨gb340, 1, none⟩) (Kd.R_far (p := ⟨gb340, 0, none⟩) (Kd.R_types HO_6.out BK340.out (by decide)) (fun _ hk => hk.2) (.int .i64 ((rd_T111 t338 x31_2).f0))) (fun _ hk => hk.2) (.int .i64 ((rd_T111 t338 x31_2).f1))) (fun _ hk => hk.2) (.int .i64 ((rd_T111 t338 x31_2).f2))) (fun _ hk => hk.2) (.int .i64 ((rd_T111 t338 x31_2).f3))) (fun _ hk => hk.2) (.int .i64 ((rd_T111 t338 x31_2).f4))) (fun _ h_ => h_.1)))); (case side2 => exact (Kd.R_reads' HO_6.out).2.1); rintro e w33 ⟨v342, rfl, ho0, hb⟩; refine ⟨_, rfl, ?_⟩; have n0_ := zK (Kd.R_elder' (by (with_reducible repeat (first | apply Kd.RA | apply Kd.RN | apply Kd.RD)); exact (Kd.R_mono (Kd.R_far (p := ⟨gb340, 4, none⟩) (Kd.R_far (p := ⟨gb340, 3, none⟩) (Kd.R_far (p := ⟨gb340, 2, none⟩) (Kd.R_far (p := ⟨gb340, 1, none⟩) (Kd.R_far (p := ⟨gb340, 0, none⟩) (Kd.R_types HO_6.out BK340.out (by decide)) (fun _ hk => hk.2) (.int .i64 ((rd_T111 t338 x31_2).f0))) (fun _ hk => hk.2) (.int .i64 ((rd_T111 t338 x31_2).f1))) (fun _ hk => hk.2) (.int .i64 ((rd_T111 t338 x31_2).f2))) (fun _ hk => hk.2) (.int .i64 ((rd_T111 t338 x31_2).f3))) (fun _ hk => hk.2) (.int .i64 ((rd_T111 t338 x31_2).f4))) (fun _ h_ => h_.1))) (Kd.R_base ho0) hb); have n1_ := zK (Kd.R_below (by (with_reducible repeat (first | apply Kd.RA | apply Kd.RN | apply Kd.RD)); exact (Kd.R_mono (Kd.R_far (p := ⟨gb340, 4, none⟩) (Kd.R_far (p := ⟨gb340, 3, none⟩) (Kd.R_far (p := ⟨gb340, 2, none⟩) (Kd.R_far (p := ⟨gb340, 1, none⟩) (Kd.R_far (p := ⟨gb340, 0, none⟩) (Kd.R_types HO_7.out BK340.out (by decide)) (fun _ hk => hk.2) (.int .i64 ((rd_T111 t338 x31_2).f0))) (fun _ hk => hk.2) (.int .i64 ((rd_T111 t338 x31_2).f1))) (fun _ hk => hk.2) (.int .i64 ((rd_T111 t338 x31_2).f2))) (fun _ hk => hk.2) (.int .i64 ((rd_T111 t338 x31_2).f3))) (fun _ hk => hk.2) (.int .i64 ((rd_T111 t338 x31_2).f4))) (fun _ h_ => h_.1))) hb); have n2_ := zK (Kd.R_below (by (with_reducible repeat (first | apply Kd.RA | apply Kd.RN | apply Kd.RD)); exact (Kd.R_mono (Kd.R_far (p := ⟨gb340, 4, none⟩) (Kd.R_far (p := ⟨gb340, 3, none⟩) (Kd.R_far (p := ⟨gb340, 2, none⟩) (Kd.R_far (p := ⟨gb340, 1, none⟩) (Kd.R_far (p := ⟨gb340, 0, none⟩) (Kd.R_mono HO_29.out (fun k_ hk => (⟨hk, hk.2⟩ : _ ∧ k_ ≠ gb340))) (fun _ hk => hk.2) (.int .i64 ((rd_T111 t338 x31_2).f0))) (fun _ hk => hk.2) (.int .i64 ((rd_T111 t338 x31_2).f1))) (fun _ hk => hk.2) (.int .i64 ((rd_T111 t338 x31_2).f2))) (fun _ hk => hk.2) (.int .i64 ((rd_T111 t338 x31_2).f3))) (fun _ hk => hk.2) (.int .i64 ((rd_T111 t338 x31_2).f4))) (fun _ h_ => h_.1))) hb); have n3_ := zK (Kd.R_lower (Kd.R_new' ho0 (Kd.R_lt (by (with_reducible repeat (first | apply Kd.RA | apply Kd.RN | apply Kd.RD)); exact (Kd.R_mono (Kd.R_far (p := ⟨gb340, 4, none⟩) (Kd.R_far (p := ⟨gb340, 3, none⟩) (Kd.R_far (p := ⟨gb340, 2, none⟩) (Kd.R_far (p := ⟨gb340, 1, none⟩) (Kd.R_far (p := ⟨gb340, 0, none⟩) (Kd.R_types HO_6.out BK340.out (by decide)) (fun _ hk => hk.2) (.int .i64 ((rd_T111 t338 x31_2).f0))) (fun _ hk => hk.2) (.int .i64 ((rd_T111 t338 x31_2).f1))) (fun _ hk => hk.2) (.int .i64 ((rd_T111 t338 x31_2).f2))) (fun _ hk => hk.2) (.int .i64 ((rd_T111 t338 x31_2).f3))) (fun _ hk => hk.2) (.int .i64 ((rd_T111 t338 x31_2).f4))) (fun _ h_ => h_.1))))) (bZ (by repeat (first | (with_reducible first | exact HB.out | apply bA | apply bN | apply b1 | refine bS ?_ GE340.out) | exact HB.out)))); have n4_ := zK (bB (g := gb340) (o := .cells #[.int .i64 ((rd_T111 t338 x31_2).f0), .int .i64 ((rd_T111 t338 x31_2).f1), .int .i64 ((rd_T111 t338 x31_2).f2), .int .i64 ((rd_T111 t338 x31_2).f3), .int .i64 ((rd_T111 t338 x31_2).f4)] 111 (0, 0)) (by (with_reducible repeat (first | refine kN ?_ _ | refine kD ?_ | refine kA ?_ _)); refine blk_put (cs := #[.int .i64 ((rd_T111 t338 x31_2).f0), .int .i64 ((rd_T111 t338 x31_2).f1), .int .i64 ((rd_T111 t338 x31_2).f2), .int .i64 ((rd_T111 t338 x31_2).f3), .int .i64 0]) ?_ 4 _ rfl; (with_reducible repeat (first | refine kN ?_ _ | refine kD ?_ | refine kA ?_ _)); refine blk_put (cs := #[.int .i64 ((rd_T111 t338 x31_2).f0), .int .i64 ((rd_T111 t338 x31_2).f1), .int .i64 ((rd_T111 t338 x31_2).f2), .int .i64 0, .int .i64 0]) ?_ 3 _ rfl; (with_reducible repeat (first | refine kN ?_ _ | refine kD ?_ | refine kA ?_ _)); refine blk_put (cs := #[.int .i64 ((rd_T111 t338 x31_2).f0), .int .i64 ((rd_T111 t338 x31_2).f1), .int .i64 0, .int .i64 0, .int .i64 0]) ?_ 2 _ rfl; (with_reducible repeat (first | refine kN ?_ _ | refine kD ?_ | refine kA ?_ _)); refine blk_put (cs := #[.int .i64 ((rd_T111 t338 x31_2).f0), .int .i64 0, .int .i64 0, .int .i64 0, .int .i64 0]) ?_ 1 _ rfl; (with_reducible repeat (first | refine kN ?_ _ | refine kD ?_ | refine kA ?_ _)); refine blk_put (cs := #[.int .i64 0, .int .i64 0, .int .i64 0, .int .i64 0, .int .i64 0]) ?_ 0 _ rfl; exact qK BK340.out) hb); have n5_ := zK (bT (by repeat (first | (with_reducible first | exact HB.out | apply bA | apply bN | apply b1 | refine bS ?_ GE340.out) | exact HB.out)) hb); clear HO_6; clear HO_7; clear HO_29; clear BK340; clear HB; have HO_6 := n0_; have HO_7 := n1_; have HO_29 := n2_; have HO343 := n3_; have BK340 := n4_; have HB := n5_; clear n0_ n1_ n2_ n3_ n4_ n5_; (try clear hb); (try clear hb2); (try clear hk); (try clear hi); (try clear ho0); have hcz34_0 : w33.cell? ⟨gb340, 0, none⟩ = some (.int .i64 ((rd_T111 t338 x31_2).f0)) := (bc BK340.out 0).trans rfl; have hcz34_1 : w33.cell? ⟨gb340, 1, none⟩ = some (.int .i64 ((rd_T111 t338 x31_2).f1)) := (bc BK340.out 1).trans rfl; have hcz34_2 : w33.cell? ⟨gb340, 2, none⟩ = some (.int .i64 ((rd_T111 t338 x31_2).f2)) := (bc BK340.out 2).trans rfl; have hcz34_3 : w33.cell? ⟨gb340, 3, none⟩ = some (.int .i64 ((rd_T111 t338 x31_2).f3)) := (bc BK340.out 3).trans rfl; have hcz34_4 : w33.cell? ⟨gb340, 4, none⟩ = some (.int .i64 ((rd_T111 t338 x31_2).f4)) := (bc BK340.out 4).trans rfl; have hfz34_0 := bf BK340.out 0; have hfz34_1 := bf BK340.out 1; have hfz34_2 := bf BK340.out 2; have hfz34_3 := bf BK340.out 3; have hfz34_4 := bf BK340.out 4) | ((with_reducible refine gate_builtin (b := .append) (xs := #[.tmp 43, .tmp 46]) rfl ?_); at_builtin; refine Kd.R_append (Kd.int .i64) (w0 := w) w.heap.size rfl (.tmp 43) (.tmp 46) 24 3 (.int .i64 0) 8 rfl Try.underlying24 info3 rfl (by decide) (by omega) u7 x7_2 ((rd_T111 t338 x31_2).f0) [.int .i64 ((rd_T111 t338 x31_2).f0)] (fun _ => True) (fun _ => False) rfl rfl ?aP (fun _ hk => hk.elim) ?aF ?aO ?aB ?aS ?aL ?_; (case aP => exact rfl); (case aB => exact (by repeat (first | (with_reducible first | exact HB.out | apply bA | apply bN | apply b1 | refine bS ?_ GE340.out) | exact HB.out))); (case aF => exact (fun _ _ => trivial)); (case aO => exact (Kd.qR HO_7.out)); (case aS => exact (bZ (by repeat (first | (with_reducible first | exact HB.out | apply bA | apply bN | apply b1 | refine bS ?_ GE340.out) | exact HB.out)))); (case aL => have := LMc29.out; omega); intro v346 w35 ho hb hg hat; rw [← Ny345.out] at ho; have n0_ := zK (Kd.R_over' (Kd.qR HO_6.out) (Kd.R_typed (Kd.qR HO_7.out)) (by decide) hg); have n1_ := zK (Kd.R_over' (Kd.qR HO_29.out) (Kd.R_typed (Kd.qR HO_7.out)) (by decide) hg); have n2_ := zK (blk_grown (g := gb340) (o := .cells #[.int .i64 ((rd_T111 t338 x31_2).f0), .int .i64 ((rd_T111 t338 x31_2).f1), .int .i64 ((rd_T111 t338 x31_2).f2), .int .i64 ((rd_T111 t338 x31_2).f3), .int .i64 ((rd_T111 t338 x31_2).f4)] 111 (0, 0)) (qK BK340.out) hg (Kd.R_ne HO_7.out BK340.out (by decide))); have n3_ := zK (Kd.R_over' (Kd.qR HO343.out) (Kd.R_typed (Kd.qR HO_7.out)) (by decide) hg); have n4_ := zK (hb); have n5_ := zK (ho); clear HO_6; clear HO_29; clear BK340; clear HO343; clear HB; clear HO_7; have HO_6 := n0_; have HO_29 := n1_; have BK340 := n2_; have HO343 := n3_; have HB := n4_; have HO347 := n5_; clear n0_ n1_ n2_ n3_ n4_ n5_; clear ho hb hg hat))
     (try simp only [← hl29_2])
     go_roundg k2
     case measure => have := HJ3.out; have := HK2.out; omega
     case rel => exact ⟨(t341), (y345), (wrap64 (x31_2 + 1)), (by first | rfl | (simp; done) | (simp [*]; done)), H', ⟨by have := HJ3.out; have := HK2.out; omega⟩, ⟨by (try simp only [hl29_2]); (with_reducible repeat (first | apply Kd.RA | apply Kd.RN | apply Kd.RD)); exact Kd.R_mono HO343.out (fun _ hk => trivial)⟩, ⟨by (try simp only [hl29_2]); exact Kd.qR HO347.out⟩, ⟨by (try simp only [hl29_2]); (with_reducible repeat (first | apply Kd.RA | apply Kd.RN | apply Kd.RD)); exact Kd.R_mono HO_29.out (fun _ hk => trivial)⟩, ⟨by repeat (first | (with_reducible first | exact HB.out | apply bA | apply bN | apply b1 | refine bS ?_ GE340.out) | exact HB.out)⟩⟩
/-! ### impl_Tighten: function 67 -/
mutual
def impl_Tighten.j0 : Nat → List (S154) → List (S111) → Bool → Option ((List (S154)))
 | 0, _, _, _ => none
 | k + 1, x0, x1, x18 => if x18 = true then ((impl_Slot.f x0).bind fun t351 => (some t351)) else ((impl_Slot.f x0).bind fun t354 => (impl_Tighten.l0 k x0 t354 (([] : List (S111))) x1 (x1.length : Int) 0))
def impl_Tighten.l0 : Nat → List (S154) → List (S154) → List (S111) → List (S111) → Int → Int → Option ((List (S154)))
 | 0, _, _, _, _, _, _ => none
 | k + 1, x0, x5, x6, x24, x25, x26 => if x26 < x25 then (if 0 ≤ x26 then (if x26 < (x24.length : Int) then ((impl_slotWith.f x0 ((rd_T111 x24 x26).f0)).bind fun t362 => (if t362 ≥ 0 then (if 0 ≤ t362 then (if t362 < (x5.length : Int) then (if x6.length < 3518437208883 then (impl_Tighten.l0 k x0 (x5.set (t362 : Int).toNat (⟨(rd_T154 x5 t362).f0, (rd_T154 x5 t362).f1, 0⟩ : S154)) (x6 ++ [(⟨(rd_T111 x24 x26).f0, (rd_T111 x24 x26).f1, (rd_T111 x24 x26).f2, (rd_T111 x24 x26).f3, (rd_T111 x24 x26).f4⟩ : S111)]) x24 x25 (wrap64 (x26 + 1))) else (none)) else (none)) else (none)) else (impl_Tighten.l0 k x0 x5 x6 x24 x25 (wrap64 (x26 + 1))))) else (none)) else (none)) else ((impl_PutAll.f k x5 x6).bind fun bt367 => (if (bt367.2.length : Int) > 0 then ((impl_Slot.f x0).bind fun t373 => (some t373)) else (some bt367.1)))
end
def impl_Tighten.f (k : Nat) (l0 : List (S154)) (l1 : List (S111)) : Option ((List (S154))) := (impl_AreSlots.f k l0).bind fun t349 => (if t349 = true then ((impl_AreThings.f k l1).bind fun t350 => (impl_Tighten.j0 k l0 l1 (!t350))) else (impl_Tighten.j0 k l0 l1 true))
set_option maxHeartbeats 8000000 in
set_option maxRecDepth 100000 in
theorem impl_Tighten.calls (k : Nat) (A0 : Option Addr) (c0 : Nat) (l0 : List (S154)) (A1 : Option Addr) (c1 : Nat) (l1 : List (S111)) (r : List (S154)) (w : World) (hr0 : Kd.C k154 w A0 l0.length l0) (hc0 : l0.length ≤ c0) (hr1 : Kd.C k111 w A1 l1.length l1) (hc1 : l1.length ≤ c1) (h : impl_Tighten.f k l0 l1 = some r) :
  Calls Try.prog 67 #[.slice A0 l0.length c0, .slice A1 l1.length c1] w fun e w' => ∃ v0_ : Value, e = .returned (v0_) ∧ Kd.R k154 154 w' w.heap.size (fun _ => True) v0_ r ∧ Below w.heap.size w w' := by
 have hu111 := Try.underlying111
 have HR0 := zK hr0
 have HC0 := zK hc0
 clear hr0 hc0
 have HR1 := zK hr1
 have HC1 := zK hc1
 clear hr1 hc1
 have HB := zK (Below.refl w.heap.size w)
 have H : ((impl_AreSlots.f k l0).bind fun t349 => (if t349 = true then ((impl_AreThings.f k l1).bind fun t350 => (impl_Tighten.j0 k l0 l1 (!t350))) else (impl_Tighten.j0 k l0 l1 true))) = some r := h
 clear h
 have HC3 := zK H
 clear H
 go_enter Try.func67, Try.ntmps67
 go_upto_region 1 with (fail)
 go_cut [18] (fun v18 wc => ∃ (kq : Nat) (x18_2 : Bool), v18 = .bool x18_2 ∧ Aside0 (impl_Tighten.j0 kq l0 l1 x18_2 = some r) ∧ Aside0 (kq ≤ k) ∧ Aside0 (Below w.heap.size w wc))
 case first =>
  have H := HC3.out
  clear HC3
  replace H := Option.bind_eq_some_iff.mp H
  obtain ⟨t349, A40, H⟩ := H
  replace H : (if t349 = true then ((impl_AreThings.f k l1).bind fun t350 => (impl_Tighten.j0 k l0 l1 (!t350))) else (impl_Tighten.j0 k l0 l1 true)) = some r := H
  have A4 := zK A40
  clear A40
  by_cases c5 : t349 = true
  rotate_left
  ·replace c5 := Bool.eq_false_iff.mpr c5
   subst c5
   have H1 : (impl_Tighten.j0 k l0 l1 true) = some r := by rw [if_neg (show ¬ (false = true) by decide)] at H; exact H
   clear H
   have H := H1
   clear H1
   have H' := zK H
   clear H
   go_wp2_with (first | ((with_reducible refine gate_callee (f := 120) rfl ?_); refine goesL_ (some 12) rfl rfl Try.func120 (by kernel_rfl) rfl #[.slice A0 l0.length c0] rfl (by (try simp only [List.map_toArray, List.map_cons, List.map_nil]); first | done | rfl | (simp only [List.length_drop, List.length_take]; rfl)) ?_; (with_reducible refine (impl_AreSlots.calls k _ _ l0 false _ ?side1 ?side2 A4.out).mono ?_); (case side1 => exact Kd.qC (Kd.C_below HR0.out HB.out)); (case side2 => exact HC0.out); rintro e w9 ⟨rfl, hb⟩; refine ⟨_, rfl, ?_⟩; have n0_ := zK (bT (qB HB.out) hb); clear HB; have HB := n0_; clear n0_; (try clear hb); (try clear hb2); (try clear hk); (try clear hi)))
   go_meet
   case rel => exact ⟨_, (true), (by first | rfl | (simp; done) | (simp [*]; done)), H', ⟨by first | omega | exact Nat.le_refl _⟩, ⟨by exact qB HB.out⟩⟩
  subst c5
  have H1 : ((impl_AreThings.f k l1).bind fun t350 => (impl_Tighten.j0 k l0 l1 (!t350))) = some r := by rw [if_pos rfl] at H; exact H
  clear H
  have H := H1
  clear H1
  replace H := Option.bind_eq_some_iff.mp H
  obtain ⟨t350, A60, H⟩ := H
  replace H : (impl_Tighten.j0 k l0 l1 (!t350)) = some r := H
  have A6 := zK A60
  clear A60
  have H' := zK H
  clear H
  go_wp2_with (first | ((with_reducible refine gate_callee (f := 120) rfl ?_); refine goesL_ (some 12) rfl rfl Try.func120 (by kernel_rfl) rfl #[.slice A0 l0.length c0] rfl (by (try simp only [List.map_toArray, List.map_cons, List.map_nil]); first | done | rfl | (simp only [List.length_drop, List.length_take]; rfl)) ?_; (with_reducible refine (impl_AreSlots.calls k _ _ l0 true _ ?side1 ?side2 A4.out).mono ?_); (case side1 => exact Kd.qC (Kd.C_below HR0.out HB.out)); (case side2 => exact HC0.out); rintro e w7 ⟨rfl, hb⟩; refine ⟨_, rfl, ?_⟩; have n0_ := zK (bT (qB HB.out) hb); clear HB; have HB := n0_; clear n0_; (try clear hb); (try clear hb2); (try clear hk); (try clear hi)) | (go_at_call 121; (with_reducible refine (impl_AreThings.calls k _ _ l1 t350 _ ?side1 ?side2 A6.out).mono ?_); (case side1 => exact Kd.qC (Kd.C_below HR1.out HB.out)); (case side2 => exact HC1.out); rintro e w8 ⟨rfl, hb⟩; have n0_ := zK (bT (qB HB.out) hb); clear HB; have HB := n0_; clear n0_; (try clear hb); (try clear hb2); (try clear hk); (try clear hi)))
  go_meet
  case rel => exact ⟨_, (!t350), (by first | rfl | (simp; done) | (simp [*]; done)), H', ⟨by first | omega | exact Nat.le_refl _⟩, ⟨by exact qB HB.out⟩⟩
 case rest =>
  clear HC3
  try clear c1
  try clear p2
  try clear c5
  try clear c6
  obtain ⟨kq, x18_2, rfl, HA, HJ2, HB⟩ := hcut
  cases kq with
  | zero => exact absurd HA.out (by simp [impl_Tighten.j0])
  | succ kj2 =>
   have H := HA.out
   clear HA
   simp only [impl_Tighten.j0] at H
   by_cases c10 : x18_2 = true
   ·subst c10
    have H1 : ((impl_Slot.f l0).bind fun t351 => (some t351)) = some r := by rw [if_pos rfl] at H; exact H
    clear H
    have H := H1
    clear H1
    replace H := Option.bind_eq_some_iff.mp H
    obtain ⟨t351, A110, H⟩ := H
    replace H : (some t351) = some r := H
    have A11 := zK A110
    clear A110
    obtain rfl := Option.some.inj H
    go_wp2_with (first | ((with_reducible refine gate_callee (f := 122) rfl ?_); refine goesL_ (some 20) rfl rfl Try.func122 (by kernel_rfl) rfl #[.slice A0 l0.length c0] rfl (by (try simp only [List.map_toArray, List.map_cons, List.map_nil]); first | done | rfl | (simp only [List.length_drop, List.length_take]; rfl)) ?_; (with_reducible refine (impl_Slot.calls _ _ l0 t351 _ ?side1 ?side2 A11.out).mono ?_); (case side1 => exact Kd.qC (Kd.C_below HR0.out HB.out)); (case side2 => exact HC0.out); rintro e w12 ⟨v352, rfl, ho0, hb⟩; refine ⟨_, rfl, ?_⟩; have n0_ := zK (Kd.R_lower ho0 (bZ (qB HB.out))); have n1_ := zK (bT (qB HB.out) hb); clear HB; have HO353 := n0_; have HB := n1_; clear n0_ n1_; (try clear hb); (try clear hb2); (try clear hk); (try clear hi); (try clear ho0)))
    go_ret
    exact ⟨_, by first | rfl | (simp [errW_none, errW_some] <;> rfl) | (simp [*, errW_none, errW_some] <;> rfl), by exact Kd.qR HO353.out, by exact qB HB.out⟩
   replace c10 := Bool.eq_false_iff.mpr c10
   subst c10
   have H1 : ((impl_Slot.f l0).bind fun t354 => (impl_Tighten.l0 kj2 l0 t354 (([] : List (S111))) l1 (l1.length : Int) 0)) = some r := by rw [if_neg (show ¬ (false = true) by decide)] at H; exact H
   clear H
   have H := H1
   clear H1
   replace H := Option.bind_eq_some_iff.mp H
   obtain ⟨t354, A130, H⟩ := H
   replace H : (impl_Tighten.l0 kj2 l0 t354 (([] : List (S111))) l1 (l1.length : Int) 0) = some r := H
   have A13 := zK A130
   clear A130
   obtain ⟨y357, hy357⟩ : ∃ y_ : List (S111), y_ = (([] : List (S111))) := ⟨_, rfl⟩
   replace H : (impl_Tighten.l0 kj2 l0 t354 y357 l1 (l1.length : Int) 0) = some r := by first | (rw [hy357]; with_reducible exact H) | (have H2_ := (Option.bind_some _ _).symm.trans H; rw [hy357]; with_reducible exact H2_) | (have H2_ := (Option.bind_some _ _).symm.trans H; with_reducible exact H2_) | with_reducible exact H | (rw [hy357]; exact H) | exact H
   have Ny357 := zK hy357
   clear hy357
   have H' := zK H
   clear H
   go_wp2_with (first | ((with_reducible refine gate_callee (f := 122) rfl ?_); refine goesL_ (some 22) rfl rfl Try.func122 (by kernel_rfl) rfl #[.slice A0 l0.length c0] rfl (by (try simp only [List.map_toArray, List.map_cons, List.map_nil]); first | done | rfl | (simp only [List.length_drop, List.length_take]; rfl)) ?_; (with_reducible refine (impl_Slot.calls _ _ l0 t354 _ ?side1 ?side2 A13.out).mono ?_); (case side1 => exact Kd.qC (Kd.C_below HR0.out HB.out)); (case side2 => exact HC0.out); rintro e w14 ⟨v355, rfl, ho0, hb⟩; refine ⟨_, rfl, ?_⟩; have n0_ := zK (Kd.R_lower ho0 (bZ (qB HB.out))); have n1_ := zK (bT (qB HB.out) hb); clear HB; have HO356 := n0_; have HB := n1_; clear n0_ n1_; (try clear hb); (try clear hb2); (try clear hk); (try clear hi); (try clear ho0)) | ((with_reducible refine gate_dst (N := 23) rfl ?_); refine Kd.R_lit k111 _ 111 ?hg (N := 23) ?hd (xs := ([] : List (S111))) (inner := []) (ok := fun _ => True) (okp := fun _ => True) ?hr ?hp (fun _ hk => hk) trivial (Below.refl _ _) (Nat.le_refl _) (by simp) ?_; (case hd => rfl); (case hg => rfl); (case hr => first | (go_simp; done) | (go_simp; rfl)); (case hp => exact (Reps.none _ _)); intro v358 w15 ho16 hb hg_ hnew_; clear hg_ hnew_; (first | rw [← Ny357.out] at ho16 | (simp only [Int.reduceToNat] at ho16; rw [← Ny357.out] at ho16)); have n0_ := zK (Kd.R_below (Kd.qR HO356.out) hb); have n1_ := zK (Kd.R_lower ho16 (bZ (qB HB.out))); have n2_ := zK (bT (qB HB.out) hb); clear HO356; clear HB; have HO356 := n0_; have HO359 := n1_; have HB := n2_; clear n0_ n1_ n2_; clear hb ho16))
   go_loopg [6, 26] kj2 (fun kq v6 v26 w' => ∃ (x5_2 : List (S154)) (x6_2 : List (S111)) (x26_2 : Int), v26 = .int .i64 x26_2 ∧ Aside0 (impl_Tighten.l0 kq l0 x5_2 x6_2 l1 (l1.length : Int) x26_2 = some r) ∧ Aside0 (kq ≤ kj2) ∧ Aside0 (Kd.R k154 154 w' w.heap.size (fun _ => True) v355 x5_2) ∧ Aside0 (Kd.R k111 111 w' w.heap.size (fun _ => True) v6 x6_2) ∧ Aside0 (Below w.heap.size w w'))
   case atStart => exact ⟨(t354), (y357), (0), (by first | rfl | (simp; done) | (simp [*]; done)), H', ⟨Nat.le_refl _⟩, ⟨by exact Kd.qR HO356.out⟩, ⟨by exact Kd.qR HO359.out⟩, ⟨by exact qB HB.out⟩⟩
   case round =>
    clear H'
    try clear c1
    try clear p2
    try clear c5
    try clear c6
    try clear c10
    try clear c12
    try clear p2
    obtain ⟨x5_2, x6_2, x26_2, rfl, HA, HK2, HO_5, HO_6, HB⟩ := hrel
    cases gk with
    | zero => exact absurd HA.out (by simp [impl_Tighten.l0])
    | succ k2 =>
     have H := HA.out
     clear HA
     simp only [impl_Tighten.l0] at H
     by_cases c17 : x26_2 < (l1.length : Int)
     rotate_left
     ·rw [if_neg c17] at H
      have c17b0 : decide (x26_2 < (l1.length : Int)) = false := decide_eq_false c17
      clear c17
      replace H := Option.bind_eq_some_iff.mp H
      obtain ⟨⟨t367, t368⟩, A360, H⟩ := H
      replace H : (if (t368.length : Int) > 0 then ((impl_Slot.f l0).bind fun t373 => (some t373)) else (some t367)) = some r := H
      have A36 := zK A360
      clear A360
      by_cases c37 : (t368.length : Int) > 0
      rotate_left
      ·rw [if_neg c37] at H
       have c37b0 : decide (0 < (t368.length : Int)) = false := decide_eq_false c37
       have c37b1 : decide (0 < t368.length) = false := decide_eq_false (by omega)
       clear c37
       obtain rfl := Option.some.inj H
       obtain ⟨Ao44, co44, eo44⟩ := Kd.R_slice HO_5.out
       subst eo44
       obtain ⟨Ao45, co45, eo45⟩ := Kd.R_slice HO_6.out
       subst eo45
       go_wp2_with (first | ((with_reducible refine gate_callee (f := 124) rfl ?_); refine goesL_ (some 48) rfl rfl Try.func124 (by kernel_rfl) rfl #[.slice Ao44 x5_2.length co44, .slice Ao45 x6_2.length co45] rfl (by (try simp only [List.map_toArray, List.map_cons, List.map_nil]); first | done | rfl | (simp only [List.length_drop, List.length_take]; rfl)) ?_; (with_reducible refine (impl_PutAll.calls k2 _ _ x5_2 _ _ x6_2 t367 t368 _ ?side1 ?side2 ?side3 ?side4 A36.out).mono ?_); (case side1 => repeat (first | exact (Kd.R_reads' HO_5.out).2.2 | (with_reducible refine Kd.CA ?_ _) | (with_reducible refine Kd.CN ?_ _) | (with_reducible refine Kd.CD ?_))); (case side2 => exact (Kd.R_reads' HO_5.out).2.1); (case side3 => repeat (first | exact (Kd.R_reads' HO_6.out).2.2 | (with_reducible refine Kd.CA ?_ _) | (with_reducible refine Kd.CN ?_ _) | (with_reducible refine Kd.CD ?_))); (case side4 => exact (Kd.R_reads' HO_6.out).2.1); rintro e w46 ⟨v369, v371, rfl, ho0, ho1, hb⟩; refine ⟨_, rfl, ?_⟩; have n0_ := zK (Kd.R_elder' (Kd.qR HO_5.out) (Kd.R_base ho0) hb); have n1_ := zK (Kd.R_below (Kd.qR HO_6.out) hb); have n2_ := zK (Kd.R_lower (Kd.R_new' ho0 (Kd.R_lt (Kd.qR HO_5.out))) (bZ (qB HB.out))); have n3_ := zK (Kd.R_lower ho1 (bZ (qB HB.out))); have n4_ := zK (bT (qB HB.out) hb); clear HO_5; clear HO_6; clear HB; have HO_5 := n0_; have HO_6 := n1_; have HO370 := n2_; have HO372 := n3_; have HB := n4_; clear n0_ n1_ n2_ n3_ n4_; (try clear hb); (try clear hb2); (try clear hk); (try clear hi); (try clear ho0); (try clear ho1); obtain ⟨Ao47, co47, eo47⟩ := Kd.R_slice HO372.out; subst eo47))
       go_ret
       exact ⟨_, by first | rfl | (simp [errW_none, errW_some] <;> rfl) | (simp [*, errW_none, errW_some] <;> rfl), by (with_reducible repeat (first | apply Kd.RA | apply Kd.RN | apply Kd.RD)); exact Kd.R_mono HO370.out (fun _ hk => trivial), by exact qB HB.out⟩
      rw [if_pos c37] at H
      have c37b0 : decide (0 < (t368.length : Int)) = true := decide_eq_true c37
      have c37b1 : decide (0 < t368.length) = true := decide_eq_true (by omega)
      clear c37
      replace H := Option.bind_eq_some_iff.mp H
      obtain ⟨t373, A380, H⟩ := H
      replace H : (some t373) = some r := H
      have A38 := zK A380
      clear A380
      obtain rfl := Option.some.inj H
      obtain ⟨Ao39, co39, eo39⟩ := Kd.R_slice HO_5.out
      subst eo39
      obtain ⟨Ao40, co40, eo40⟩ := Kd.R_slice HO_6.out
      subst eo40
      go_wp2_with (first | ((with_reducible refine gate_callee (f := 124) rfl ?_); refine goesL_ (some 48) rfl rfl Try.func124 (by kernel_rfl) rfl #[.slice Ao39 x5_2.length co39, .slice Ao40 x6_2.length co40] rfl (by (try simp only [List.map_toArray, List.map_cons, List.map_nil]); first | done | rfl | (simp only [List.length_drop, List.length_take]; rfl)) ?_; (with_reducible refine (impl_PutAll.calls k2 _ _ x5_2 _ _ x6_2 t367 t368 _ ?side1 ?side2 ?side3 ?side4 A36.out).mono ?_); (case side1 => repeat (first | exact (Kd.R_reads' HO_5.out).2.2 | (with_reducible refine Kd.CA ?_ _) | (with_reducible refine Kd.CN ?_ _) | (with_reducible refine Kd.CD ?_))); (case side2 => exact (Kd.R_reads' HO_5.out).2.1); (case side3 => repeat (first | exact (Kd.R_reads' HO_6.out).2.2 | (with_reducible refine Kd.CA ?_ _) | (with_reducible refine Kd.CN ?_ _) | (with_reducible refine Kd.CD ?_))); (case side4 => exact (Kd.R_reads' HO_6.out).2.1); rintro e w41 ⟨v369, v371, rfl, ho0, ho1, hb⟩; refine ⟨_, rfl, ?_⟩; have n0_ := zK (Kd.R_elder' (Kd.qR HO_5.out) (Kd.R_base ho0) hb); have n1_ := zK (Kd.R_below (Kd.qR HO_6.out) hb); have n2_ := zK (Kd.R_lower (Kd.R_new' ho0 (Kd.R_lt (Kd.qR HO_5.out))) (bZ (qB HB.out))); have n3_ := zK (Kd.R_lower ho1 (bZ (qB HB.out))); have n4_ := zK (bT (qB HB.out) hb); clear HO_5; clear HO_6; clear HB; have HO_5 := n0_; have HO_6 := n1_; have HO370 := n2_; have HO372 := n3_; have HB := n4_; clear n0_ n1_ n2_ n3_ n4_; (try clear hb); (try clear hb2); (try clear hk); (try clear hi); (try clear ho0); (try clear ho1); obtain ⟨Ao42, co42, eo42⟩ := Kd.R_slice HO372.out; subst eo42) | ((with_reducible refine gate_callee (f := 122) rfl ?_); refine goesL_ (some 55) rfl rfl Try.func122 (by kernel_rfl) rfl #[.slice A0 l0.length c0] rfl (by (try simp only [List.map_toArray, List.map_cons, List.map_nil]); first | done | rfl | (simp only [List.length_drop, List.length_take]; rfl)) ?_; (with_reducible refine (impl_Slot.calls _ _ l0 t373 _ ?side1 ?side2 A38.out).mono ?_); (case side1 => exact Kd.qC (Kd.C_below HR0.out HB.out)); (case side2 => exact HC0.out); rintro e w43 ⟨v374, rfl, ho0, hb⟩; refine ⟨_, rfl, ?_⟩; have n0_ := zK (Kd.R_elder' (Kd.qR HO_5.out) (Kd.R_base ho0) hb); have n1_ := zK (Kd.R_below (Kd.qR HO_6.out) hb); have n2_ := zK (Kd.R_elder' (Kd.qR HO370.out) (Kd.R_base ho0) hb); have n3_ := zK (Kd.R_below (Kd.qR HO372.out) hb); have n4_ := zK (Kd.R_lower (Kd.R_new' (Kd.R_new' ho0 (Kd.R_lt (Kd.qR HO_5.out))) (Kd.R_lt (Kd.qR HO370.out))) (bZ (qB HB.out))); have n5_ := zK (bT (qB HB.out) hb); clear HO_5; clear HO_6; clear HO370; clear HO372; clear HB; have HO_5 := n0_; have HO_6 := n1_; have HO370 := n2_; have HO372 := n3_; have HO375 := n4_; have HB := n5_; clear n0_ n1_ n2_ n3_ n4_ n5_; (try clear hb); (try clear hb2); (try clear hk); (try clear hi); (try clear ho0)))
      go_ret
      exact ⟨_, by first | rfl | (simp [errW_none, errW_some] <;> rfl) | (simp [*, errW_none, errW_some] <;> rfl), by (with_reducible repeat (first | apply Kd.RA | apply Kd.RN | apply Kd.RD)); exact Kd.R_mono HO375.out (fun _ hk => trivial), by exact qB HB.out⟩
     rw [if_pos c17] at H
     have c17b0 : decide (x26_2 < (l1.length : Int)) = true := decide_eq_true c17
     clear c17
     by_cases c18 : 0 ≤ x26_2
     rotate_left
     ·rw [if_neg c18] at H
      exact absurd H (by simp)
     rw [if_pos c18] at H
     have c18b0 : decide (0 ≤ x26_2) = true := decide_eq_true c18
     clear c18
     by_cases c19 : x26_2 < (l1.length : Int)
     rotate_left
     ·rw [if_neg c19] at H
      exact absurd H (by simp)
     rw [if_pos c19] at H
     have c19b0 : decide (x26_2 < (l1.length : Int)) = true := decide_eq_true c19
     clear c19
     replace H := Option.bind_eq_some_iff.mp H
     obtain ⟨t362, A200, H⟩ := H
     replace H : (if t362 ≥ 0 then (if 0 ≤ t362 then (if t362 < (x5_2.length : Int) then (if x6_2.length < 3518437208883 then (impl_Tighten.l0 k2 l0 (x5_2.set (t362 : Int).toNat (⟨(rd_T154 x5_2 t362).f0, (rd_T154 x5_2 t362).f1, 0⟩ : S154)) (x6_2 ++ [(⟨(rd_T111 l1 x26_2).f0, (rd_T111 l1 x26_2).f1, (rd_T111 l1 x26_2).f2, (rd_T111 l1 x26_2).f3, (rd_T111 l1 x26_2).f4⟩ : S111)]) l1 (l1.length : Int) (wrap64 (x26_2 + 1))) else (none)) else (none)) else (none)) else (impl_Tighten.l0 k2 l0 x5_2 x6_2 l1 (l1.length : Int) (wrap64 (x26_2 + 1)))) = some r := H
     have A20 := zK A200
     clear A200
     by_cases c21 : t362 ≥ 0
     rotate_left
     ·rw [if_neg c21] at H
      have c21b0 : decide (0 ≤ t362) = false := decide_eq_false c21
      clear c21
      have H' := zK H
      clear H
      have p360 : 0 ≤ (x26_2 : Int) := oD (by first | (with_reducible assumption) | assumption)
      have q360 : x26_2 < (l1.length : Int) := oD (by first | (with_reducible assumption) | assumption)
      obtain ⟨ad360, e360, hx360_0, hx360_1, hx360_2, hx360_3, hx360_4⟩ := at_T111 HR1.out x26_2 p360 q360
      cases e360
      replace hx360_0 := (HB.out.cell (bL w hx360_0)).trans hx360_0
      replace hx360_1 := (HB.out.cell (bL w hx360_1)).trans hx360_1
      replace hx360_2 := (HB.out.cell (bL w hx360_2)).trans hx360_2
      replace hx360_3 := (HB.out.cell (bL w hx360_3)).trans hx360_3
      replace hx360_4 := (HB.out.cell (bL w hx360_4)).trans hx360_4
      replace p360 := eq_true p360
      replace q360 := eq_true q360
      go_wp2_with (first | ((with_reducible refine gate_dst (N := 8) rfl ?_); refine box_event ?hg (N := 8) ?hd (cs := #[.int .i64 0, .int .i64 0, .int .i64 0, .int .i64 0, .int .i64 0]) (t := 111) ?hr ?_; (case hd => rfl); (case hg => rfl); (case hr => first | (go_simp; done) | (go_simp; rfl)); intro gb361 hg w33 hbox hb; have n0_ := zK (Kd.R_below (Kd.qR HO_5.out) hb); have n1_ := zK (Kd.R_below (Kd.R_elderB (Kd.qR HO_6.out) gb361 (Nat.le_of_eq hg.symm)) hb); have n2_ := zK (bT (qB HB.out) hb); have n3_ := zK (hbox); have n4_ := zK ((by rw [hg]; exact (bZ (qB HB.out)) : w.heap.size ≤ gb361)); have n5_ := zK ((by rw [hg]; exact (bZ (qB HB.out)) : w.heap.size ≤ gb361)); clear HO_5; clear HO_6; clear HB; have HO_5 := n0_; have HO_6 := n1_; have HB := n2_; have BK361 := n3_; have GW361 := n4_; have GE361 := n5_; clear n0_ n1_ n2_ n3_ n4_ n5_; clear hb hbox hg; have hcz34_0 : w33.cell? ⟨gb361, 0, none⟩ = some (.int .i64 0) := (bc BK361.out 0).trans rfl; have hcz34_1 : w33.cell? ⟨gb361, 1, none⟩ = some (.int .i64 0) := (bc BK361.out 1).trans rfl; have hcz34_2 : w33.cell? ⟨gb361, 2, none⟩ = some (.int .i64 0) := (bc BK361.out 2).trans rfl; have hcz34_3 : w33.cell? ⟨gb361, 3, none⟩ = some (.int .i64 0) := (bc BK361.out 3).trans rfl; have hcz34_4 : w33.cell? ⟨gb361, 4, none⟩ = some (.int .i64 0) := (bc BK361.out 4).trans rfl; have hfz34_0 := bf BK361.out 0; have hfz34_1 := bf BK361.out 1; have hfz34_2 := bf BK361.out 2; have hfz34_3 := bf BK361.out 3; have hfz34_4 := bf BK361.out 4) | ((with_reducible refine gate_callee (f := 123) rfl ?_); refine goesL_ (some 33) rfl rfl Try.func123 (by kernel_rfl) rfl #[.slice A0 l0.length c0, .int .i64 ((rd_T111 l1 x26_2).f0)] rfl (by (try simp only [List.map_toArray, List.map_cons, List.map_nil]); first | done | rfl | (simp only [List.length_drop, List.length_take]; rfl)) ?_; (with_reducible refine (impl_slotWith.calls _ _ l0 ((rd_T111 l1 x26_2).f0) t362 _ ?side1 ?side2 A20.out).mono ?_); (case side1 => exact Kd.C_below HR0.out (by repeat (first | (with_reducible first | exact HB.out | apply bA | apply bN | apply b1 | refine bS ?_ GE361.out) | exact HB.out))); (case side2 => exact HC0.out); rintro e w35 ⟨rfl, hb⟩; refine ⟨_, rfl, ?_⟩; have n0_ := zK (Kd.R_below (by (with_reducible repeat (first | apply Kd.RA | apply Kd.RN | apply Kd.RD)); exact (Kd.R_mono (Kd.R_far (p := ⟨gb361, 4, none⟩) (Kd.R_far (p := ⟨gb361, 3, none⟩) (Kd.R_far (p := ⟨gb361, 2, none⟩) (Kd.R_far (p := ⟨gb361, 1, none⟩) (Kd.R_far (p := ⟨gb361, 0, none⟩) (Kd.R_types HO_5.out BK361.out (by decide)) (fun _ hk => hk.2) (.int .i64 ((rd_T111 l1 x26_2).f0))) (fun _ hk => hk.2) (.int .i64 ((rd_T111 l1 x26_2).f1))) (fun _ hk => hk.2) (.int .i64 ((rd_T111 l1 x26_2).f2))) (fun _ hk => hk.2) (.int .i64 ((rd_T111 l1 x26_2).f3))) (fun _ hk => hk.2) (.int .i64 ((rd_T111 l1 x26_2).f4))) (fun _ h_ => h_.1))) hb); have n1_ := zK (Kd.R_below (by (with_reducible repeat (first | apply Kd.RA | apply Kd.RN | apply Kd.RD)); exact (Kd.R_mono (Kd.R_far (p := ⟨gb361, 4, none⟩) (Kd.R_far (p := ⟨gb361, 3, none⟩) (Kd.R_far (p := ⟨gb361, 2, none⟩) (Kd.R_far (p := ⟨gb361, 1, none⟩) (Kd.R_far (p := ⟨gb361, 0, none⟩) (Kd.R_mono HO_6.out (fun k_ hk => (⟨hk, hk.2⟩ : _ ∧ k_ ≠ gb361))) (fun _ hk => hk.2) (.int .i64 ((rd_T111 l1 x26_2).f0))) (fun _ hk => hk.2) (.int .i64 ((rd_T111 l1 x26_2).f1))) (fun _ hk => hk.2) (.int .i64 ((rd_T111 l1 x26_2).f2))) (fun _ hk => hk.2) (.int .i64 ((rd_T111 l1 x26_2).f3))) (fun _ hk => hk.2) (.int .i64 ((rd_T111 l1 x26_2).f4))) (fun _ h_ => h_.1))) hb); have n2_ := zK (bB (g := gb361) (o := .cells #[.int .i64 ((rd_T111 l1 x26_2).f0), .int .i64 ((rd_T111 l1 x26_2).f1), .int .i64 ((rd_T111 l1 x26_2).f2), .int .i64 ((rd_T111 l1 x26_2).f3), .int .i64 ((rd_T111 l1 x26_2).f4)] 111 (0, 0)) (by (with_reducible repeat (first | refine kN ?_ _ | refine kD ?_ | refine kA ?_ _)); refine blk_put (cs := #[.int .i64 ((rd_T111 l1 x26_2).f0), .int .i64 ((rd_T111 l1 x26_2).f1), .int .i64 ((rd_T111 l1 x26_2).f2), .int .i64 ((rd_T111 l1 x26_2).f3), .int .i64 0]) ?_ 4 _ rfl; (with_reducible repeat (first | refine kN ?_ _ | refine kD ?_ | refine kA ?_ _)); refine blk_put (cs := #[.int .i64 ((rd_T111 l1 x26_2).f0), .int .i64 ((rd_T111 l1 x26_2).f1), .int .i64 ((rd_T111 l1 x26_2).f2), .int .i64 0, .int .i64 0]) ?_ 3 _ rfl; (with_reducible repeat (first | refine kN ?_ _ | refine kD ?_ | refine kA ?_ _)); refine blk_put (cs := #[.int .i64 ((rd_T111 l1 x26_2).f0), .int .i64 ((rd_T111 l1 x26_2).f1), .int .i64 0, .int .i64 0, .int .i64 0]) ?_ 2 _ rfl; (with_reducible repeat (first | refine kN ?_ _ | refine kD ?_ | refine kA ?_ _)); refine blk_put (cs := #[.int .i64 ((rd_T111 l1 x26_2).f0), .int .i64 0, .int .i64 0, .int .i64 0, .int .i64 0]) ?_ 1 _ rfl; (with_reducible repeat (first | refine kN ?_ _ | refine kD ?_ | refine kA ?_ _)); refine blk_put (cs := #[.int .i64 0, .int .i64 0, .int .i64 0, .int .i64 0, .int .i64 0]) ?_ 0 _ rfl; exact qK BK361.out) hb); have n3_ := zK (bT (by repeat (first | (with_reducible first | exact HB.out | apply bA | apply bN | apply b1 | refine bS ?_ GE361.out) | exact HB.out)) hb); clear HO_5; clear HO_6; clear BK361; clear HB; have HO_5 := n0_; have HO_6 := n1_; have BK361 := n2_; have HB := n3_; clear n0_ n1_ n2_ n3_; (try clear hb); (try clear hb2); (try clear hk); (try clear hi)))
      go_roundg k2
      case measure => have := HJ2.out; have := HK2.out; omega
      case rel => exact ⟨(x5_2), (x6_2), (wrap64 (x26_2 + 1)), (by first | rfl | (simp; done) | (simp [*]; done)), H', ⟨by have := HJ2.out; have := HK2.out; omega⟩, ⟨by exact Kd.qR HO_5.out⟩, ⟨by (with_reducible repeat (first | apply Kd.RA | apply Kd.RN | apply Kd.RD)); exact Kd.R_mono HO_6.out (fun _ hk => trivial)⟩, ⟨by repeat (first | (with_reducible first | exact HB.out | apply bA | apply bN | apply b1 | refine bS ?_ GE361.out) | exact HB.out)⟩⟩
     rw [if_pos c21] at H
     have c21b0 : decide (0 ≤ t362) = true := decide_eq_true c21
     clear c21
     by_cases c22 : 0 ≤ t362
     rotate_left
     ·rw [if_neg c22] at H
      exact absurd H (by simp)
     rw [if_pos c22] at H
     have c22b0 : decide (0 ≤ t362) = true := decide_eq_true c22
     clear c22
     by_cases c23 : t362 < (x5_2.length : Int)
     rotate_left
     ·rw [if_neg c23] at H
      exact absurd H (by simp)
     rw [if_pos c23] at H
     have c23b0 : decide (t362 < (x5_2.length : Int)) = true := decide_eq_true c23
     clear c23
     obtain ⟨y363, hy363⟩ : ∃ y_ : List (S154), y_ = (x5_2.set (t362 : Int).toNat (⟨(rd_T154 x5_2 t362).f0, (rd_T154 x5_2 t362).f1, 0⟩ : S154)) := ⟨_, rfl⟩
     replace H : (if x6_2.length < 3518437208883 then (impl_Tighten.l0 k2 l0 y363 (x6_2 ++ [(⟨(rd_T111 l1 x26_2).f0, (rd_T111 l1 x26_2).f1, (rd_T111 l1 x26_2).f2, (rd_T111 l1 x26_2).f3, (rd_T111 l1 x26_2).f4⟩ : S111)]) l1 (l1.length : Int) (wrap64 (x26_2 + 1))) else (none)) = some r := by first | (rw [hy363]; with_reducible exact H) | (have H2_ := (Option.bind_some _ _).symm.trans H; rw [hy363]; with_reducible exact H2_) | (have H2_ := (Option.bind_some _ _).symm.trans H; with_reducible exact H2_) | with_reducible exact H | (rw [hy363]; exact H) | exact H
     have Ny363 := zK hy363
     clear hy363
     by_cases c25 : x6_2.length < 3518437208883
     rotate_left
     ·rw [if_neg c25] at H
      exact absurd H (by simp)
     rw [if_pos c25] at H
     have LMc25 := zK c25
     clear c25
     obtain ⟨y364, hy364⟩ : ∃ y_ : List (S111), y_ = (x6_2 ++ [(⟨(rd_T111 l1 x26_2).f0, (rd_T111 l1 x26_2).f1, (rd_T111 l1 x26_2).f2, (rd_T111 l1 x26_2).f3, (rd_T111 l1 x26_2).f4⟩ : S111)]) := ⟨_, rfl⟩
     replace H : (impl_Tighten.l0 k2 l0 y363 y364 l1 (l1.length : Int) (wrap64 (x26_2 + 1))) = some r := by first | (rw [hy364]; with_reducible exact H) | (have H2_ := (Option.bind_some _ _).symm.trans H; rw [hy364]; with_reducible exact H2_) | (have H2_ := (Option.bind_some _ _).symm.trans H; with_reducible exact H2_) | with_reducible exact H | (rw [hy364]; exact H) | exact H
     have Ny364 := zK hy364
     clear hy364
     have H' := zK H
     clear H
     have p360 : 0 ≤ (x26_2 : Int) := oD (by first | (with_reducible assumption) | assumption)
     have q360 : x26_2 < (l1.length : Int) := oD (by first | (with_reducible assumption) | assumption)
     obtain ⟨ad360, e360, hx360_0, hx360_1, hx360_2, hx360_3, hx360_4⟩ := at_T111 HR1.out x26_2 p360 q360
     cases e360
     replace hx360_0 := (HB.out.cell (bL w hx360_0)).trans hx360_0
     replace hx360_1 := (HB.out.cell (bL w hx360_1)).trans hx360_1
     replace hx360_2 := (HB.out.cell (bL w hx360_2)).trans hx360_2
     replace hx360_3 := (HB.out.cell (bL w hx360_3)).trans hx360_3
     replace hx360_4 := (HB.out.cell (bL w hx360_4)).trans hx360_4
     replace p360 := eq_true p360
     replace q360 := eq_true q360
     go_wp2_with (first | ((with_reducible refine gate_dst (N := 8) rfl ?_); refine box_event ?hg (N := 8) ?hd (cs := #[.int .i64 0, .int .i64 0, .int .i64 0, .int .i64 0, .int .i64 0]) (t := 111) ?hr ?_; (case hd => rfl); (case hg => rfl); (case hr => first | (go_simp; done) | (go_simp; rfl)); intro gb361 hg w26 hbox hb; have n0_ := zK (Kd.R_below (Kd.qR HO_5.out) hb); have n1_ := zK (Kd.R_below (Kd.R_elderB (Kd.qR HO_6.out) gb361 (Nat.le_of_eq hg.symm)) hb); have n2_ := zK (bT (qB HB.out) hb); have n3_ := zK (hbox); have n4_ := zK ((by rw [hg]; exact (bZ (qB HB.out)) : w.heap.size ≤ gb361)); have n5_ := zK ((by rw [hg]; exact (bZ (qB HB.out)) : w.heap.size ≤ gb361)); clear HO_5; clear HO_6; clear HB; have HO_5 := n0_; have HO_6 := n1_; have HB := n2_; have BK361 := n3_; have GW361 := n4_; have GE361 := n5_; clear n0_ n1_ n2_ n3_ n4_ n5_; clear hb hbox hg; have hcz27_0 : w26.cell? ⟨gb361, 0, none⟩ = some (.int .i64 0) := (bc BK361.out 0).trans rfl; have hcz27_1 : w26.cell? ⟨gb361, 1, none⟩ = some (.int .i64 0) := (bc BK361.out 1).trans rfl; have hcz27_2 : w26.cell? ⟨gb361, 2, none⟩ = some (.int .i64 0) := (bc BK361.out 2).trans rfl; have hcz27_3 : w26.cell? ⟨gb361, 3, none⟩ = some (.int .i64 0) := (bc BK361.out 3).trans rfl; have hcz27_4 : w26.cell? ⟨gb361, 4, none⟩ = some (.int .i64 0) := (bc BK361.out 4).trans rfl; have hfz27_0 := bf BK361.out 0; have hfz27_1 := bf BK361.out 1; have hfz27_2 := bf BK361.out 2; have hfz27_3 := bf BK361.out 3; have hfz27_4 := bf BK361.out 4) | ((with_reducible refine gate_callee (f := 123) rfl ?_); refine goesL_ (some 33) rfl rfl Try.func123 (by kernel_rfl) rfl #[.slice A0 l0.length c0, .int .i64 ((rd_T111 l1 x26_2).f0)] rfl (by (try simp only [List.map_toArray, List.map_cons, List.map_nil]); first | done | rfl | (simp only [List.length_drop, List.length_take]; rfl)) ?_; (with_reducible refine (impl_slotWith.calls _ _ l0 ((rd_T111 l1 x26_2).f0) t362 _ ?side1 ?side2 A20.out).mono ?_); (case side1 => exact Kd.C_below HR0.out (by repeat (first | (with_reducible first | exact HB.out | apply bA | apply bN | apply b1 | refine bS ?_ GE361.out) | exact HB.out))); (case side2 => exact HC0.out); rintro e w28 ⟨rfl, hb⟩; refine ⟨_, rfl, ?_⟩; have n0_ := zK (Kd.R_below (by (with_reducible repeat (first | apply Kd.RA | apply Kd.RN | apply Kd.RD)); exact (Kd.R_mono (Kd.R_far (p := ⟨gb361, 4, none⟩) (Kd.R_far (p := ⟨gb361, 3, none⟩) (Kd.R_far (p := ⟨gb361, 2, none⟩) (Kd.R_far (p := ⟨gb361, 1, none⟩) (Kd.R_far (p := ⟨gb361, 0, none⟩) (Kd.R_types HO_5.out BK361.out (by decide)) (fun _ hk => hk.2) (.int .i64 ((rd_T111 l1 x26_2).f0))) (fun _ hk => hk.2) (.int .i64 ((rd_T111 l1 x26_2).f1))) (fun _ hk => hk.2) (.int .i64 ((rd_T111 l1 x26_2).f2))) (fun _ hk => hk.2) (.int .i64 ((rd_T111 l1 x26_2).f3))) (fun _ hk => hk.2) (.int .i64 ((rd_T111 l1 x26_2).f4))) (fun _ h_ => h_.1))) hb); have n1_ := zK (Kd.R_below (by (with_reducible repeat (first | apply Kd.RA | apply Kd.RN | apply Kd.RD)); exact (Kd.R_mono (Kd.R_far (p := ⟨gb361, 4, none⟩) (Kd.R_far (p := ⟨gb361, 3, none⟩) (Kd.R_far (p := ⟨gb361, 2, none⟩) (Kd.R_far (p := ⟨gb361, 1, none⟩) (Kd.R_far (p := ⟨gb361, 0, none⟩) (Kd.R_mono HO_6.out (fun k_ hk => (⟨hk, hk.2⟩ : _ ∧ k_ ≠ gb361))) (fun _ hk => hk.2) (.int .i64 ((rd_T111 l1 x26_2).f0))) (fun _ hk => hk.2) (.int .i64 ((rd_T111 l1 x26_2).f1))) (fun _ hk => hk.2) (.int .i64 ((rd_T111 l1 x26_2).f2))) (fun _ hk => hk.2) (.int .i64 ((rd_T111 l1 x26_2).f3))) (fun _ hk => hk.2) (.int .i64 ((rd_T111 l1 x26_2).f4))) (fun _ h_ => h_.1))) hb); have n2_ := zK (bB (g := gb361) (o := .cells #[.int .i64 ((rd_T111 l1 x26_2).f0), .int .i64 ((rd_T111 l1 x26_2).f1), .int .i64 ((rd_T111 l1 x26_2).f2), .int .i64 ((rd_T111 l1 x26_2).f3), .int .i64 ((rd_T111 l1 x26_2).f4)] 111 (0, 0)) (by (with_reducible repeat (first | refine kN ?_ _ | refine kD ?_ | refine kA ?_ _)); refine blk_put (cs := #[.int .i64 ((rd_T111 l1 x26_2).f0), .int .i64 ((rd_T111 l1 x26_2).f1), .int .i64 ((rd_T111 l1 x26_2).f2), .int .i64 ((rd_T111 l1 x26_2).f3), .int .i64 0]) ?_ 4 _ rfl; (with_reducible repeat (first | refine kN ?_ _ | refine kD ?_ | refine kA ?_ _)); refine blk_put (cs := #[.int .i64 ((rd_T111 l1 x26_2).f0), .int .i64 ((rd_T111 l1 x26_2).f1), .int .i64 ((rd_T111 l1 x26_2).f2), .int .i64 0, .int .i64 0]) ?_ 3 _ rfl; (with_reducible repeat (first | refine kN ?_ _ | refine kD ?_ | refine kA ?_ _)); refine blk_put (cs := #[.int .i64 ((rd_T111 l1 x26_2).f0), .int .i64 ((rd_T111 l1 x26_2).f1), .int .i64 0, .int .i64 0, .int .i64 0]) ?_ 2 _ rfl; (with_reducible repeat (first | refine kN ?_ _ | refine kD ?_ | refine kA ?_ _)); refine blk_put (cs := #[.int .i64 ((rd_T111 l1 x26_2).f0), .int .i64 0, .int .i64 0, .int .i64 0, .int .i64 0]) ?_ 1 _ rfl; (with_reducible repeat (first | refine kN ?_ _ | refine kD ?_ | refine kA ?_ _)); refine blk_put (cs := #[.int .i64 0, .int .i64 0, .int .i64 0, .int .i64 0, .int .i64 0]) ?_ 0 _ rfl; exact qK BK361.out) hb); have n3_ := zK (bT (by repeat (first | (with_reducible first | exact HB.out | apply bA | apply bN | apply b1 | refine bS ?_ GE361.out) | exact HB.out)) hb); clear HO_5; clear HO_6; clear BK361; clear HB; have HO_5 := n0_; have HO_6 := n1_; have BK361 := n2_; have HB := n3_; clear n0_ n1_ n2_ n3_; (try clear hb); (try clear hb2); (try clear hk); (try clear hi); have p24 : 0 ≤ (t362 : Int) := oD (by first | (with_reducible assumption) | assumption); have q24 : (t362 : Int) < ((x5_2.length : Int) : Int) := oD (by first | (with_reducible assumption) | assumption); obtain ⟨go24, co24, eo24, gb24, gl24, cl24, HG24⟩ := Kd.R_form HO_5.out (by omega); (first | cases eo24 | (injection eo24 with ea_ en_ ec_; (first | subst ea_ | (injection ea_ with ea_; subst ea_)); subst ec_; clear en_)); have GB24 := zK gb24; have GG24 := zK HG24; clear gb24 gl24 HG24; obtain ⟨ce24, hcl24, hM24, hcc24, hfr24⟩ := Kd.R_elem HO_5.out z154 (t362 : Int) p24 q24; obtain rfl := k154_openM hM24; have hx24_0 : w28.cell? ⟨go24, (t362 : Int).toNat * 3, none⟩ = some (.int .i64 ((rd_T154 x5_2 t362).f0)) := hcc24 0 _ rfl; have hx24_1 : w28.cell? ⟨go24, (t362 : Int).toNat * 3 + 1, none⟩ = some (.int .i64 ((rd_T154 x5_2 t362).f1)) := hcc24 1 _ rfl; have hx24_2 : w28.cell? ⟨go24, (t362 : Int).toNat * 3 + 2, none⟩ = some (.int .i64 ((rd_T154 x5_2 t362).f2)) := hcc24 2 _ rfl; have hf24_0 : w28.frozen? ⟨go24, (t362 : Int).toNat * 3, none⟩ = false := hfr24 0; have hf24_1 : w28.frozen? ⟨go24, (t362 : Int).toNat * 3 + 1, none⟩ = false := hfr24 1; have hf24_2 : w28.frozen? ⟨go24, (t362 : Int).toNat * 3 + 2, none⟩ = false := hfr24 2; clear hcl24 hcc24 hfr24 hM24; replace p24 := eq_true p24; replace q24 := eq_true q24; have HX29 := zK (show Kd.R k154 154 w28 w.heap.size (fun _ => True) (.slice (some ⟨go24, 0, none⟩) x5_2.length co24) x5_2 from (Kd.qR HO_5.out)); obtain ⟨ce29, hcl29, hM29, hcc29, hfr29⟩ := Kd.R_elem HX29.out z154 (t362 : Int) (oD (by first | (with_reducible assumption) | assumption)) (by have h_ : (t362 : Int) < ((x5_2.length : Int) : Int) := oD (by first | (with_reducible assumption) | assumption); first | exact h_ | (have e_ := (Kd.R_reads' HO_5.out).1; omega) | simpa using h_); obtain rfl := k154_openM hM29; have HP29 := Kd.R_seg HX29.out (t362 : Int) (oD (by first | (with_reducible assumption) | assumption)) (by have h_ : (t362 : Int) < ((x5_2.length : Int) : Int) := oD (by first | (with_reducible assumption) | assumption); first | exact h_ | (have e_ := (Kd.R_reads' HO_5.out).1; omega) | simpa using h_) (seg := [.int .i64 0]) (j := 2) hcl29 hcc29 (show 3 ≤ 3 from by decide) (x' := (⟨(rd_T154 x5_2 t362).f0, (rd_T154 x5_2 t362).f1, 0⟩ : S154)) (k154_mkM _ _ _ (⟨(rd_T154 x5_2 t362).f0, (rd_T154 x5_2 t362).f1, 0⟩ : S154) ) (fun _ hk => hk); have hx29_2 := hcc29 2 _ rfl; (try simp only [show (k154).sz = 3 from rfl, Nat.mul_one, Nat.add_zero] at hx29_2); have hf29_2 := hfr29 2; (try simp only [show (k154).sz = 3 from rfl, Nat.mul_one, Nat.add_zero] at hf29_2); clear hcl29 hcc29 hfr29 hM29) | ((with_reducible refine gate_store (t := 3) (p := 39) rfl ?_); refine store_event (t := 3) (p := 39) (v := ?vo_w30) (w1 := (w28.setCell ⟨go24, (t362 : Int).toNat * 3 + 2, none⟩ (.int .i64 0))) ?hg ?ho ?hn ?hr ?_; (case ho => rfl); (case hg => rfl); (case hn => rfl); (case hr => first | (go_simp; done) | (go_simp; rfl)); intro w30 hw; have hg : w28.grownBy w30 (some go24) := (by rw [hw]; exact HP29.2); have hp_ : Kd.R k154 154 w30 w.heap.size (fun _ => True) (.slice (some ⟨go24, 0, none⟩) x5_2.length co24) y363 := (by rw [hw, Ny363.out]; exact HP29.1); clear HP29; have n0_ := zK (hp_); have n1_ := zK (Kd.R_over' (v := (.slice (some ⟨go24, 0, none⟩) x5_2.length co24)) (Kd.qR HO_6.out) (Kd.R_typed HO_5.out) (by decide) hg); have n2_ := zK (blk_grown (g := gb361) (o := .cells #[.int .i64 ((rd_T111 l1 x26_2).f0), .int .i64 ((rd_T111 l1 x26_2).f1), .int .i64 ((rd_T111 l1 x26_2).f2), .int .i64 ((rd_T111 l1 x26_2).f3), .int .i64 ((rd_T111 l1 x26_2).f4)] 111 (0, 0)) (qK BK361.out) hg (Kd.R_ne HO_5.out BK361.out (by decide))); have n3_ := zK ((by rw [hw]; exact bS (HB.out) GB24.out : Below w.heap.size w w30)); clear HO_5; clear HO_6; clear BK361; clear HB; have HO_5 := n0_; have HO_6 := n1_; have BK361 := n2_; have HB := n3_; clear n0_ n1_ n2_ n3_; clear hg hw hp_; have hcz31_0 : w30.cell? ⟨gb361, 0, none⟩ = some (.int .i64 ((rd_T111 l1 x26_2).f0)) := (bc BK361.out 0).trans rfl; have hcz31_1 : w30.cell? ⟨gb361, 1, none⟩ = some (.int .i64 ((rd_T111 l1 x26_2).f1)) := (bc BK361.out 1).trans rfl; have hcz31_2 : w30.cell? ⟨gb361, 2, none⟩ = some (.int .i64 ((rd_T111 l1 x26_2).f2)) := (bc BK361.out 2).trans rfl; have hcz31_3 : w30.cell? ⟨gb361, 3, none⟩ = some (.int .i64 ((rd_T111 l1 x26_2).f3)) := (bc BK361.out 3).trans rfl; have hcz31_4 : w30.cell? ⟨gb361, 4, none⟩ = some (.int .i64 ((rd_T111 l1 x26_2).f4)) := (bc BK361.out 4).trans rfl; have hfz31_0 := bf BK361.out 0; have hfz31_1 := bf BK361.out 1; have hfz31_2 := bf BK361.out 2; have hfz31_3 := bf BK361.out 3; have hfz31_4 := bf BK361.out 4) | ((with_reducible refine gate_builtin (b := .append) (xs := #[.tmp 40, .tmp 42]) rfl ?_); at_builtin; refine Kd.R_append k111 (w0 := w) w.heap.size rfl (.tmp 40) (.tmp 42) 97 111 (.agg #[(.int .i64 0), (.int .i64 0), (.int .i64 0), (.int .i64 0), (.int .i64 0)]) 40 rfl Try.underlying97 info111 rfl (by decide) (by omega) u6 x6_2 (⟨(rd_T111 l1 x26_2).f0, (rd_T111 l1 x26_2).f1, (rd_T111 l1 x26_2).f2, (rd_T111 l1 x26_2).f3, (rd_T111 l1 x26_2).f4⟩ : S111) [.int .i64 ((rd_T111 l1 x26_2).f0), .int .i64 ((rd_T111 l1 x26_2).f1), .int .i64 ((rd_T111 l1 x26_2).f2), .int .i64 ((rd_T111 l1 x26_2).f3), .int .i64 ((rd_T111 l1 x26_2).f4)] (fun k_ => k_ ≠ gb361) (fun _ => False) rfl rfl ?aP (fun _ hk => hk.elim) ?aF ?aO ?aB ?aS ?aL ?_; (case aP => exact k111_mkM _ _ _ (⟨(rd_T111 l1 x26_2).f0, (rd_T111 l1 x26_2).f1, (rd_T111 l1 x26_2).f2, (rd_T111 l1 x26_2).f3, (rd_T111 l1 x26_2).f4⟩ : S111)); (case aB => exact (by repeat (first | (with_reducible first | exact HB.out | apply bA | apply bN | apply b1 | refine bS ?_ GE361.out) | exact HB.out))); (case aF => exact (fun k_ hk => Kd.freshB (g := gb361) (o := .cells #[.int .i64 ((rd_T111 l1 x26_2).f0), .int .i64 ((rd_T111 l1 x26_2).f1), .int .i64 ((rd_T111 l1 x26_2).f2), .int .i64 ((rd_T111 l1 x26_2).f3), .int .i64 ((rd_T111 l1 x26_2).f4)] 111 (0, 0)) (qK BK361.out) k_ hk)); (case aO => exact (by (with_reducible repeat (first | apply Kd.RA | apply Kd.RN | apply Kd.RD)); exact Kd.R_mono HO_6.out (fun _ hk => hk.2))); (case aS => exact (bZ (by repeat (first | (with_reducible first | exact HB.out | apply bA | apply bN | apply b1 | refine bS ?_ GE361.out) | exact HB.out)))); (case aL => have := LMc25.out; omega); intro v365 w32 ho hb hg hat; rw [← Ny364.out] at ho; have n0_ := zK (Kd.R_over' (Kd.qR HO_5.out) (Kd.R_typed (Kd.qR HO_6.out)) (by decide) hg); have n1_ := zK (blk_grown (g := gb361) (o := .cells #[.int .i64 ((rd_T111 l1 x26_2).f0), .int .i64 ((rd_T111 l1 x26_2).f1), .int .i64 ((rd_T111 l1 x26_2).f2), .int .i64 ((rd_T111 l1 x26_2).f3), .int .i64 ((rd_T111 l1 x26_2).f4)] 111 (0, 0)) (qK BK361.out) hg (Kd.R_away HO_6.out (fun _ hk => hk.2))); have n2_ := zK (hb); have n3_ := zK (ho); clear HO_5; clear BK361; clear HB; clear HO_6; have HO_5 := n0_; have BK361 := n1_; have HB := n2_; have HO366 := n3_; clear n0_ n1_ n2_ n3_; clear ho hb hg hat))
     go_roundg k2
     case measure => have := HJ2.out; have := HK2.out; omega
     case rel => exact ⟨(y363), (y364), (wrap64 (x26_2 + 1)), (by first | rfl | (simp; done) | (simp [*]; done)), H', ⟨by have := HJ2.out; have := HK2.out; omega⟩, ⟨by exact Kd.qR HO_5.out⟩, ⟨by (with_reducible repeat (first | apply Kd.RA | apply Kd.RN | apply Kd.RD)); exact Kd.R_mono HO366.out (fun _ hk => trivial)⟩, ⟨by repeat (first | (with_reducible first | exact HB.out | apply bA | apply bN | apply b1 | refine bS ?_ GE361.out) | exact HB.out)⟩⟩
/-! ### laws_eqSlot: function 125 -/
def laws_eqSlot.f (a0_0 : Int) (a0_1 : Int) (a0_2 : Int) (a1_0 : Int) (a1_1 : Int) (a1_2 : Int) : Option (Bool) := if a0_0 = a1_0 then (if a0_1 = a1_1 then (if a0_2 = a1_2 then (some true) else (some false)) else (some false)) else (some false)
set_option maxHeartbeats 8000000 in
set_option maxRecDepth 100000 in
theorem laws_eqSlot.calls (a0_0 : Int) (a0_1 : Int) (a0_2 : Int) (a1_0 : Int) (a1_1 : Int) (a1_2 : Int) (r : Bool) (w : World) (h : laws_eqSlot.f a0_0 a0_1 a0_2 a1_0 a1_1 a1_2 = some r) :
  Calls Try.prog 125 #[.agg #[.int .i64 a0_0, .int .i64 a0_1, .int .i64 a0_2], .agg #[.int .i64 a1_0, .int .i64 a1_1, .int .i64 a1_2]] w fun e w' => e = .returned (.bool r) ∧ Below w.heap.size w w' := by
 have hu154 := Try.underlying154
 have HB := zK (Below.refl w.heap.size w)
 have H : (if a0_0 = a1_0 then (if a0_1 = a1_1 then (if a0_2 = a1_2 then (some true) else (some false)) else (some false)) else (some false)) = some r := h
 clear h
 by_cases c3 : a0_0 = a1_0
 rotate_left
 ·rw [if_neg c3] at H
  have c3b0 : (a0_0 == a1_0) = false := beq_eq_false_iff_ne.mpr c3
  have c3b1 : (a0_0 != a1_0) = true := bne_iff_ne.mpr c3
  obtain rfl := Option.some.inj H
  go_enter Try.func125, Try.ntmps125
  go_wp2_with (first | ((with_reducible refine gate_dst (N := 2) rfl ?_); refine box_event ?hg (N := 2) ?hd (cs := #[.int .i64 a0_0, .int .i64 a0_1, .int .i64 a0_2]) (t := 154) ?hr ?_; (case hd => rfl); (case hg => rfl); (case hr => first | (go_simp; done) | (go_simp; rfl)); intro gb376 hg w21 hbox hb; have n0_ := zK (bT (qB HB.out) hb); have n1_ := zK (hbox); have n2_ := zK ((by rw [hg]; exact (bZ (qB HB.out)) : w.heap.size ≤ gb376)); have n3_ := zK ((by rw [hg]; exact (bZ (qB HB.out)) : w.heap.size ≤ gb376)); clear HB; have HB := n0_; have BK376 := n1_; have GW376 := n2_; have GE376 := n3_; clear n0_ n1_ n2_ n3_; clear hb hbox hg) | ((with_reducible refine gate_dst (N := 3) rfl ?_); refine box_event ?hg (N := 3) ?hd (cs := #[.int .i64 a1_0, .int .i64 a1_1, .int .i64 a1_2]) (t := 154) ?hr ?_; (case hd => rfl); (case hg => rfl); (case hr => first | (go_simp; done) | (go_simp; rfl)); intro gb377 hg w22 hbox hb; have n0_ := zK (bB (g := gb376) (o := .cells #[.int .i64 a0_0, .int .i64 a0_1, .int .i64 a0_2] 154 (0, 0)) (qK BK376.out) hb); have n1_ := zK (bT (by repeat (first | (with_reducible first | exact HB.out | apply bA | apply bN | apply b1 | refine bS ?_ GE376.out) | exact HB.out)) hb); have n2_ := zK (hbox); have n3_ := zK ((by rw [hg]; exact (bZ (by repeat (first | (with_reducible first | exact HB.out | apply bA | apply bN | apply b1 | refine bS ?_ GE376.out) | exact HB.out))) : w.heap.size ≤ gb377)); have n4_ := zK ((by rw [hg]; exact (bZ (by repeat (first | (with_reducible first | exact HB.out | apply bA | apply bN | apply b1 | refine bS ?_ GE376.out) | exact HB.out))) : w.heap.size ≤ gb377)); have n5_ := zK ((by rw [hg]; exact Nat.ne_of_lt (blk_lt (g := gb376) (o := .cells #[.int .i64 a0_0, .int .i64 a0_1, .int .i64 a0_2] 154 (0, 0)) (qK BK376.out)) : gb376 ≠ gb377)); have n6_ := zK ((by rw [hg]; exact Nat.ne_of_gt (blk_lt (g := gb376) (o := .cells #[.int .i64 a0_0, .int .i64 a0_1, .int .i64 a0_2] 154 (0, 0)) (qK BK376.out)) : gb377 ≠ gb376)); clear BK376; clear HB; have BK376 := n0_; have HB := n1_; have BK377 := n2_; have GW377 := n3_; have GE377 := n4_; have NB376_377 := n5_; have NB377_376 := n6_; clear n0_ n1_ n2_ n3_ n4_ n5_ n6_; clear hb hbox hg; have hnb23 := NB376_377.out; have hnc23 := NB377_376.out; have hcz24_0 : w22.cell? ⟨gb376, 0, none⟩ = some (.int .i64 a0_0) := (bc BK376.out 0).trans rfl; have hcz24_1 : w22.cell? ⟨gb376, 1, none⟩ = some (.int .i64 a0_1) := (bc BK376.out 1).trans rfl; have hcz24_2 : w22.cell? ⟨gb376, 2, none⟩ = some (.int .i64 a0_2) := (bc BK376.out 2).trans rfl; have hfz24_0 := bf BK376.out 0; have hfz24_1 := bf BK376.out 1; have hfz24_2 := bf BK376.out 2; have hcz25_0 : w22.cell? ⟨gb377, 0, none⟩ = some (.int .i64 a1_0) := (bc BK377.out 0).trans rfl; have hcz25_1 : w22.cell? ⟨gb377, 1, none⟩ = some (.int .i64 a1_1) := (bc BK377.out 1).trans rfl; have hcz25_2 : w22.cell? ⟨gb377, 2, none⟩ = some (.int .i64 a1_2) := (bc BK377.out 2).trans rfl; have hfz25_0 := bf BK377.out 0; have hfz25_1 := bf BK377.out 1; have hfz25_2 := bf BK377.out 2))
  go_ret
  exact ⟨by first | rfl | (simp [errW_none, errW_some] <;> rfl) | (simp [*, errW_none, errW_some] <;> rfl), by repeat (first | (with_reducible first | exact HB.out | apply bA | apply bN | apply b1 | refine bS ?_ GE376.out | refine bS ?_ GE377.out) | exact HB.out)⟩

 rw [if_pos c3] at H
 have c3b0 : (a0_0 == a1_0) = true := beq_iff_eq.mpr c3
 have c3b1 : (a0_0 != a1_0) = false := bne_eq_false_iff_eq.mpr c3
 clear c3
 by_cases c4 : a0_1 = a1_1
 rotate_left
 ·rw [if_neg c4] at H
  have c4b0 : (a0_1 == a1_1) = false := beq_eq_false_iff_ne.mpr c4
  have c4b1 : (a0_1 != a1_1) = true := bne_iff_ne.mpr c4
  obtain rfl := Option.some.inj H
  go_enter Try.func125, Try.ntmps125
  go_wp2_with (first | ((with_reducible refine gate_dst (N := 2) rfl ?_); refine box_event ?hg (N := 2) ?hd (cs := #[.int .i64 a0_0, .int .i64 a0_1, .int .i64 a0_2]) (t := 154) ?hr ?_; (case hd => rfl); (case hg => rfl); (case hr => first | (go_simp; done) | (go_simp; rfl)); intro gb376 hg w16 hbox hb; have n0_ := zK (bT (qB HB.out) hb); have n1_ := zK (hbox); have n2_ := zK ((by rw [hg]; exact (bZ (qB HB.out)) : w.heap.size ≤ gb376)); have n3_ := zK ((by rw [hg]; exact (bZ (qB HB.out)) : w.heap.size ≤ gb376)); clear HB; have HB := n0_; have BK376 := n1_; have GW376 := n2_; have GE376 := n3_; clear n0_ n1_ n2_ n3_; clear hb hbox hg) | ((with_reducible refine gate_dst (N := 3) rfl ?_); refine box_event ?hg (N := 3) ?hd (cs := #[.int .i64 a1_0, .int .i64 a1_1, .int .i64 a1_2]) (t := 154) ?hr ?_; (case hd => rfl); (case hg => rfl); (case hr => first | (go_simp; done) | (go_simp; rfl)); intro gb377 hg w17 hbox hb; have n0_ := zK (bB (g := gb376) (o := .cells #[.int .i64 a0_0, .int .i64 a0_1, .int .i64 a0_2] 154 (0, 0)) (qK BK376.out) hb); have n1_ := zK (bT (by repeat (first | (with_reducible first | exact HB.out | apply bA | apply bN | apply b1 | refine bS ?_ GE376.out) | exact HB.out)) hb); have n2_ := zK (hbox); have n3_ := zK ((by rw [hg]; exact (bZ (by repeat (first | (with_reducible first | exact HB.out | apply bA | apply bN | apply b1 | refine bS ?_ GE376.out) | exact HB.out))) : w.heap.size ≤ gb377)); have n4_ := zK ((by rw [hg]; exact (bZ (by repeat (first | (with_reducible first | exact HB.out | apply bA | apply bN | apply b1 | refine bS ?_ GE376.out) | exact HB.out))) : w.heap.size ≤ gb377)); have n5_ := zK ((by rw [hg]; exact Nat.ne_of_lt (blk_lt (g := gb376) (o := .cells #[.int .i64 a0_0, .int .i64 a0_1, .int .i64 a0_2] 154 (0, 0)) (qK BK376.out)) : gb376 ≠ gb377)); have n6_ := zK ((by rw [hg]; exact Nat.ne_of_gt (blk_lt (g := gb376) (o := .cells #[.int .i64 a0_0, .int .i64 a0_1, .int .i64 a0_2] 154 (0, 0)) (qK BK376.out)) : gb377 ≠ gb376)); clear BK376; clear HB; have BK376 := n0_; have HB := n1_; have BK377 := n2_; have GW377 := n3_; have GE377 := n4_; have NB376_377 := n5_; have NB377_376 := n6_; clear n0_ n1_ n2_ n3_ n4_ n5_ n6_; clear hb hbox hg; have hnb18 := NB376_377.out; have hnc18 := NB377_376.out; have hcz19_0 : w17.cell? ⟨gb376, 0, none⟩ = some (.int .i64 a0_0) := (bc BK376.out 0).trans rfl; have hcz19_1 : w17.cell? ⟨gb376, 1, none⟩ = some (.int .i64 a0_1) := (bc BK376.out 1).trans rfl; have hcz19_2 : w17.cell? ⟨gb376, 2, none⟩ = some (.int .i64 a0_2) := (bc BK376.out 2).trans rfl; have hfz19_0 := bf BK376.out 0; have hfz19_1 := bf BK376.out 1; have hfz19_2 := bf BK376.out 2; have hcz20_0 : w17.cell? ⟨gb377, 0, none⟩ = some (.int .i64 a1_0) := (bc BK377.out 0).trans rfl; have hcz20_1 : w17.cell? ⟨gb377, 1, none⟩ = some (.int .i64 a1_1) := (bc BK377.out 1).trans rfl; have hcz20_2 : w17.cell? ⟨gb377, 2, none⟩ = some (.int .i64 a1_2) := (bc BK377.out 2).trans rfl; have hfz20_0 := bf BK377.out 0; have hfz20_1 := bf BK377.out 1; have hfz20_2 := bf BK377.out 2))
  go_ret
  exact ⟨by first | rfl | (simp [errW_none, errW_some] <;> rfl) | (simp [*, errW_none, errW_some] <;> rfl), by repeat (first | (with_reducible first | exact HB.out | apply bA | apply bN | apply b1 | refine bS ?_ GE376.out | refine bS ?_ GE377.out) | exact HB.out)⟩
 rw [if_pos c4] at H
 have c4b0 : (a0_1 == a1_1) = true := beq_iff_eq.mpr c4
 have c4b1 : (a0_1 != a1_1) = false := bne_eq_false_iff_eq.mpr c4
 clear c4
 by_cases c5 : a0_2 = a1_2
 ·rw [if_pos c5] at H
  have c5b0 : (a0_2 == a1_2) = true := beq_iff_eq.mpr c5
  have c5b1 : (a0_2 != a1_2) = false := bne_eq_false_iff_eq.mpr c5
  clear c5
  obtain rfl := Option.some.inj H
  go_enter Try.func125, Try.ntmps125
  go_wp2_with (first | ((with_reducible refine gate_dst (N := 2) rfl ?_); refine box_event ?hg (N := 2) ?hd (cs := #[.int .i64 a0_0, .int .i64 a0_1, .int .i64 a0_2]) (t := 154) ?hr ?_; (case hd => rfl); (case hg => rfl); (case hr => first | (go_simp; done) | (go_simp; rfl)); intro gb376 hg w6 hbox hb; have n0_ := zK (bT (qB HB.out) hb); have n1_ := zK (hbox); have n2_ := zK ((by rw [hg]; exact (bZ (qB HB.out)) : w.heap.size ≤ gb376)); have n3_ := zK ((by rw [hg]; exact (bZ (qB HB.out)) : w.heap.size ≤ gb376)); clear HB; have HB := n0_; have BK376 := n1_; have GW376 := n2_; have GE376 := n3_; clear n0_ n1_ n2_ n3_; clear hb hbox hg) | ((with_reducible refine gate_dst (N := 3) rfl ?_); refine box_event ?hg (N := 3) ?hd (cs := #[.int .i64 a1_0, .int .i64 a1_1, .int .i64 a1_2]) (t := 154) ?hr ?_; (case hd => rfl); (case hg => rfl); (case hr => first | (go_simp; done) | (go_simp; rfl)); intro gb377 hg w7 hbox hb; have n0_ := zK (bB (g := gb376) (o := .cells #[.int .i64 a0_0, .int .i64 a0_1, .int .i64 a0_2] 154 (0, 0)) (qK BK376.out) hb); have n1_ := zK (bT (by repeat (first | (with_reducible first | exact HB.out | apply bA | apply bN | apply b1 | refine bS ?_ GE376.out) | exact HB.out)) hb); have n2_ := zK (hbox); have n3_ := zK ((by rw [hg]; exact (bZ (by repeat (first | (with_reducible first | exact HB.out | apply bA | apply bN | apply b1 | refine bS ?_ GE376.out) | exact HB.out))) : w.heap.size ≤ gb377)); have n4_ := zK ((by rw [hg]; exact (bZ (by repeat (first | (with_reducible first | exact HB.out | apply bA | apply bN | apply b1 | refine bS ?_ GE376.out) | exact HB.out))) : w.heap.size ≤ gb377)); have n5_ := zK ((by rw [hg]; exact Nat.ne_of_lt (blk_lt (g := gb376) (o := .cells #[.int .i64 a0_0, .int .i64 a0_1, .int .i64 a0_2] 154 (0, 0)) (qK BK376.out)) : gb376 ≠ gb377)); have n6_ := zK ((by rw [hg]; exact Nat.ne_of_gt (blk_lt (g := gb376) (o := .cells #[.int .i64 a0_0, .int .i64 a0_1, .int .i64 a0_2] 154 (0, 0)) (qK BK376.out)) : gb377 ≠ gb376)); clear BK376; clear HB; have BK376 := n0_; have HB := n1_; have BK377 := n2_; have GW377 := n3_; have GE377 := n4_; have NB376_377 := n5_; have NB377_376 := n6_; clear n0_ n1_ n2_ n3_ n4_ n5_ n6_; clear hb hbox hg; have hnb8 := NB376_377.out; have hnc8 := NB377_376.out; have hcz9_0 : w7.cell? ⟨gb376, 0, none⟩ = some (.int .i64 a0_0) := (bc BK376.out 0).trans rfl; have hcz9_1 : w7.cell? ⟨gb376, 1, none⟩ = some (.int .i64 a0_1) := (bc BK376.out 1).trans rfl; have hcz9_2 : w7.cell? ⟨gb376, 2, none⟩ = some (.int .i64 a0_2) := (bc BK376.out 2).trans rfl; have hfz9_0 := bf BK376.out 0; have hfz9_1 := bf BK376.out 1; have hfz9_2 := bf BK376.out 2; have hcz10_0 : w7.cell? ⟨gb377, 0, none⟩ = some (.int .i64 a1_0) := (bc BK377.out 0).trans rfl; have hcz10_1 : w7.cell? ⟨gb377, 1, none⟩ = some (.int .i64 a1_1) := (bc BK377.out 1).trans rfl; have hcz10_2 : w7.cell? ⟨gb377, 2, none⟩ = some (.int .i64 a1_2) := (bc BK377.out 2).trans rfl; have hfz10_0 := bf BK377.out 0; have hfz10_1 := bf BK377.out 1; have hfz10_2 := bf BK377.out 2))
  go_ret
  exact ⟨by first | rfl | (simp [errW_none, errW_some] <;> rfl) | (simp [*, errW_none, errW_some] <;> rfl), by repeat (first | (with_reducible first | exact HB.out | apply bA | apply bN | apply b1 | refine bS ?_ GE376.out | refine bS ?_ GE377.out) | exact HB.out)⟩
 rw [if_neg c5] at H
 have c5b0 : (a0_2 == a1_2) = false := beq_eq_false_iff_ne.mpr c5
 have c5b1 : (a0_2 != a1_2) = true := bne_iff_ne.mpr c5
 obtain rfl := Option.some.inj H
 go_enter Try.func125, Try.ntmps125
 go_wp2_with (first | ((with_reducible refine gate_dst (N := 2) rfl ?_); refine box_event ?hg (N := 2) ?hd (cs := #[.int .i64 a0_0, .int .i64 a0_1, .int .i64 a0_2]) (t := 154) ?hr ?_; (case hd => rfl); (case hg => rfl); (case hr => first | (go_simp; done) | (go_simp; rfl)); intro gb376 hg w11 hbox hb; have n0_ := zK (bT (qB HB.out) hb); have n1_ := zK (hbox); have n2_ := zK ((by rw [hg]; exact (bZ (qB HB.out)) : w.heap.size ≤ gb376)); have n3_ := zK ((by rw [hg]; exact (bZ (qB HB.out)) : w.heap.size ≤ gb376)); clear HB; have HB := n0_; have BK376 := n1_; have GW376 := n2_; have GE376 := n3_; clear n0_ n1_ n2_ n3_; clear hb hbox hg) | ((with_reducible refine gate_dst (N := 3) rfl ?_); refine box_event ?hg (N := 3) ?hd (cs := #[.int .i64 a1_0, .int .i64 a1_1, .int .i64 a1_2]) (t := 154) ?hr ?_; (case hd => rfl); (case hg => rfl); (case hr => first | (go_simp; done) | (go_simp; rfl)); intro gb377 hg w12 hbox hb; have n0_ := zK (bB (g := gb376) (o := .cells #[.int .i64 a0_0, .int .i64 a0_1, .int .i64 a0_2] 154 (0, 0)) (qK BK376.out) hb); have n1_ := zK (bT (by repeat (first | (with_reducible first | exact HB.out | apply bA | apply bN | apply b1 | refine bS ?_ GE376.out) | exact HB.out)) hb); have n2_ := zK (hbox); have n3_ := zK ((by rw [hg]; exact (bZ (by repeat (first | (with_reducible first | exact HB.out | apply bA | apply bN | apply b1 | refine bS ?_ GE376.out) | exact HB.out))) : w.heap.size ≤ gb377)); have n4_ := zK ((by rw [hg]; exact (bZ (by repeat (first | (with_reducible first | exact HB.out | apply bA | apply bN | apply b1 | refine bS ?_ GE376.out) | exact HB.out))) : w.heap.size ≤ gb377)); have n5_ := zK ((by rw [hg]; exact Nat.ne_of_lt (blk_lt (g := gb376) (o := .cells #[.int .i64 a0_0, .int .i64 a0_1, .int .i64 a0_2] 154 (0, 0)) (qK BK376.out)) : gb376 ≠ gb377)); have n6_ := zK ((by rw [hg]; exact Nat.ne_of_gt (blk_lt (g := gb376) (o := .cells #[.int .i64 a0_0, .int .i64 a0_1, .int .i64 a0_2] 154 (0, 0)) (qK BK376.out)) : gb377 ≠ gb376)); clear BK376; clear HB; have BK376 := n0_; have HB := n1_; have BK377 := n2_; have GW377 := n3_; have GE377 := n4_; have NB376_377 := n5_; have NB377_376 := n6_; clear n0_ n1_ n2_ n3_ n4_ n5_ n6_; clear hb hbox hg; have hnb13 := NB376_377.out; have hnc13 := NB377_376.out; have hcz14_0 : w12.cell? ⟨gb376, 0, none⟩ = some (.int .i64 a0_0) := (bc BK376.out 0).trans rfl; have hcz14_1 : w12.cell? ⟨gb376, 1, none⟩ = some (.int .i64 a0_1) := (bc BK376.out 1).trans rfl; have hcz14_2 : w12.cell? ⟨gb376, 2, none⟩ = some (.int .i64 a0_2) := (bc BK376.out 2).trans rfl; have hfz14_0 := bf BK376.out 0; have hfz14_1 := bf BK376.out 1; have hfz14_2 := bf BK376.out 2; have hcz15_0 : w12.cell? ⟨gb377, 0, none⟩ = some (.int .i64 a1_0) := (bc BK377.out 0).trans rfl; have hcz15_1 : w12.cell? ⟨gb377, 1, none⟩ = some (.int .i64 a1_1) := (bc BK377.out 1).trans rfl; have hcz15_2 : w12.cell? ⟨gb377, 2, none⟩ = some (.int .i64 a1_2) := (bc BK377.out 2).trans rfl; have hfz15_0 := bf BK377.out 0; have hfz15_1 := bf BK377.out 1; have hfz15_2 := bf BK377.out 2))
 go_ret
 exact ⟨by first | rfl | (simp [errW_none, errW_some] <;> rfl) | (simp [*, errW_none, errW_some] <;> rfl), by repeat (first | (with_reducible first | exact HB.out | apply bA | apply bN | apply b1 | refine bS ?_ GE376.out | refine bS ?_ GE377.out) | exact HB.out)⟩
end Go.Proofs.Ytejhjenlodclpaa.PFnExactTighten
