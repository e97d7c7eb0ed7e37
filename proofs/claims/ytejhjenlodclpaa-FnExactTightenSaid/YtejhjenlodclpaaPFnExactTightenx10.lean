/- Walks of functions that FnExactTighten reaches: written by a tool of the kit for this claim, then shortened by a program of ours. -/
import Derived.Test.YtejhjenlodclpaaPFnExactTightenx0
import Derived.Test.YtejhjenlodclpaaPFnExactTightenx9
/- narrow -/
namespace Go.Proofs.Ytejhjenlodclpaa.PFnExactTighten
open Go.RowKit Go.Proofs.YtejhjenlodclpaaW.PrintWords Go.Proofs.YtejhjenlodclpaaW.PrintLast Go.Proofs.YtejhjenlodclpaaW.PrintMore
attribute [local go_sem] max2_int min2_int max_two min_two max_three min_three max_four min_four   -- for this text's walks alone
set_option linter.unusedVariables false
set_option linter.unusedSimpArgs false

/-! ### laws_toThingS: function 66 -/
def laws_toThingS.l0 : Nat → List (S122) → List (S111) → Int → Option ((List (S111)))
 | 0, _, _, _ => none
 | k + 1, x0, x3, x4 => if x4 < (x0.length : Int) then (if 0 ≤ x4 then ((laws_toThing.f ((rd_T122 x0 x4).f0) ((rd_T122 x0 x4).f1) ((rd_T122 x0 x4).f2) ((rd_T122 x0 x4).f3) ((rd_T122 x0 x4).f4)).bind fun bt267 => (if x4 < (x3.length : Int) then (laws_toThingS.l0 k x0 (x3.set (x4 : Int).toNat (⟨bt267.1, bt267.2.1, bt267.2.2.1, bt267.2.2.2.1, bt267.2.2.2.2⟩ : S111)) (wrap64 (x4 + 1))) else (none))) else (none)) else (some x3)
def laws_toThingS.f (k : Nat) (l0 : List (S122)) : Option ((List (S111))) := if 0 ≤ (l0.length : Int) then (if ((l0.length : Int) : Int).toNat ≤ 7036874417766 then (laws_toThingS.l0 k l0 (List.replicate ((l0.length : Int) : Int).toNat z111) 0) else (none)) else (none)
set_option maxHeartbeats 8000000 in
set_option maxRecDepth 100000 in
theorem laws_toThingS.calls (k : Nat) (A0 : Option Addr) (c0 : Nat) (l0 : List (S122)) (r : List (S111)) (w : World) (hr0 : Kd.C k122 w A0 l0.length l0) (hc0 : l0.length ≤ c0) (h : laws_toThingS.f k l0 = some r) :
  Calls Try.prog 66 #[.slice A0 l0.length c0] w fun e w' => ∃ v0_ : Value, e = .returned (v0_) ∧ Kd.R k111 111 w' w.heap.size (fun _ => True) v0_ r ∧ Below w.heap.size w w' := by
 have hu122 := Try.underlying122
 have hu111 := Try.underlying111
 have HR0 := zK hr0
 have HC0 := zK hc0
 clear hr0 hc0
 have HB := zK (Below.refl w.heap.size w)
 have H : (if 0 ≤ (l0.length : Int) then (if ((l0.length : Int) : Int).toNat ≤ 7036874417766 then (laws_toThingS.l0 k l0 (List.replicate ((l0.length : Int) : Int).toNat z111) 0) else (none)) else (none)) = some r := h
 clear h
 by_cases c2 : 0 ≤ (l0.length : Int)
 rotate_left
 ·rw [if_neg c2] at H
  exact absurd H (by simp)
 rw [if_pos c2] at H
 have c2b0 := eq_true c2
 have c2b1 : decide (0 ≤ (l0.length : Int)) = true := decide_eq_true c2
 clear c2
 by_cases c3 : ((l0.length : Int) : Int).toNat ≤ 7036874417766
 rotate_left
 ·rw [if_neg c3] at H
  exact absurd H (by simp)
 rw [if_pos c3] at H
 have c3b0 := eq_true c3
 have c3b1 : decide (((l0.length : Int) : Int).toNat ≤ 7036874417766) = true := decide_eq_true c3
 clear c3
 obtain ⟨y263, hy263⟩ : ∃ y_ : List (S111), y_ = (List.replicate ((l0.length : Int) : Int).toNat z111) := ⟨_, rfl⟩
 replace H : (laws_toThingS.l0 k l0 y263 0) = some r := by first | (rw [hy263]; with_reducible exact H) | (have H2_ := (Option.bind_some _ _).symm.trans H; rw [hy263]; with_reducible exact H2_) | (have H2_ := (Option.bind_some _ _).symm.trans H; with_reducible exact H2_) | with_reducible exact H | (rw [hy263]; exact H) | exact H
 have Ny263 := zK hy263
 clear hy263
 have H' := zK H
 clear H
 go_enter Try.func66, Try.ntmps66
 go_wp2_with (first | ((with_reducible refine gate_dst (N := 7) rfl ?_); refine Kd.R_make k111 _ 111 rfl (N := 7) rfl 97 _ _ rfl (l0.length : Int) rfl rfl Try.underlying97 (.agg #[(.int .i64 0), (.int .i64 0), (.int .i64 0), (.int .i64 0), (.int .i64 0)]) 40 info111 rfl (by decide) (by omega) z111 (ok := fun _ => True) (okp := fun _ => True) (k111_mkM _ _ _ z111 ) (fun _ hk => hk) trivial (oD (by first | (with_reducible assumption) | assumption)) (Nat.le_trans (Nat.mul_le_mul_right _ (oD (by first | (with_reducible assumption) | assumption) : (l0.length : Int).toNat ≤ 7036874417766)) (by omega)) (Below.refl _ _) (Nat.le_refl _) ?_; intro v264 w4 ho5 hb hg_ hnew_; clear hg_ hnew_; (first | rw [← Ny263.out] at ho5 | (simp only [Int.reduceToNat] at ho5; rw [← Ny263.out] at ho5)); have n0_ := zK (Kd.R_lower ho5 (bZ (qB HB.out))); have n1_ := zK (bT (qB HB.out) hb); clear HB; have HO265 := n0_; have HB := n1_; clear n0_ n1_; clear hb ho5))
 go_loopg [4] k (fun kq v4 w' => ∃ (x3_1 : List (S111)) (x4_1 : Int), v4 = .int .i64 x4_1 ∧ Aside0 (laws_toThingS.l0 kq l0 x3_1 x4_1 = some r) ∧ Aside0 (kq ≤ k) ∧ Aside0 (Kd.R k111 111 w' w.heap.size (fun _ => True) v264 x3_1) ∧ Aside0 (Below w.heap.size w w'))
 case atStart => exact ⟨(y263), (0), (by first | rfl | (simp; done) | (simp [*]; done)), H', ⟨Nat.le_refl _⟩, ⟨by exact Kd.qR HO265.out⟩, ⟨by exact qB HB.out⟩⟩
 case round =>
  clear H'
  try clear c2
  try clear c2b0
  try clear c2b1
  try clear p2
  try clear c3
  try clear c3b0
  try clear c3b1
  obtain ⟨x3_1, x4_1, rfl, HA, HK1, HO_3, HB⟩ := hrel
  cases gk with
  | zero => exact absurd HA.out (by simp [laws_toThingS.l0])
  | succ k1 =>
   have H := HA.out
   clear HA
   simp only [laws_toThingS.l0] at H
   by_cases c6 : x4_1 < (l0.length : Int)
   rotate_left
   ·rw [if_neg c6] at H
    have c6b0 : decide (x4_1 < (l0.length : Int)) = false := decide_eq_false c6
    clear c6
    obtain rfl := Option.some.inj H
    go_wp2
    go_ret
    exact ⟨_, by first | rfl | (simp [errW_none, errW_some] <;> rfl) | (simp [*, errW_none, errW_some] <;> rfl), by exact Kd.qR HO_3.out, by exact qB HB.out⟩
   rw [if_pos c6] at H
   have c6b0 : decide (x4_1 < (l0.length : Int)) = true := decide_eq_true c6
   clear c6
   by_cases c7 : 0 ≤ x4_1
   rotate_left
   ·rw [if_neg c7] at H
    exact absurd H (by simp)
   rw [if_pos c7] at H
   have c7b0 : decide (0 ≤ x4_1) = true := decide_eq_true c7
   clear c7
   replace H := Option.bind_eq_some_iff.mp H
   obtain ⟨⟨t267, t268, t269, t270, t271⟩, A80, H⟩ := H
   replace H : (if x4_1 < (x3_1.length : Int) then (laws_toThingS.l0 k1 l0 (x3_1.set (x4_1 : Int).toNat (⟨t267, t268, t269, t270, t271⟩ : S111)) (wrap64 (x4_1 + 1))) else (none)) = some r := H
   have A8 := zK A80
   clear A80
   by_cases c9 : x4_1 < (x3_1.length : Int)
   rotate_left
   ·rw [if_neg c9] at H
    exact absurd H (by simp)
   rw [if_pos c9] at H
   have c9b0 : decide (x4_1 < (x3_1.length : Int)) = true := decide_eq_true c9
   clear c9
   obtain ⟨y272, hy272⟩ : ∃ y_ : List (S111), y_ = (x3_1.set (x4_1 : Int).toNat (⟨t267, t268, t269, t270, t271⟩ : S111)) := ⟨_, rfl⟩
   replace H : (laws_toThingS.l0 k1 l0 y272 (wrap64 (x4_1 + 1))) = some r := by first | (rw [hy272]; with_reducible exact H) | (have H2_ := (Option.bind_some _ _).symm.trans H; rw [hy272]; with_reducible exact H2_) | (have H2_ := (Option.bind_some _ _).symm.trans H; with_reducible exact H2_) | with_reducible exact H | (rw [hy272]; exact H) | exact H
   have Ny272 := zK hy272
   clear hy272
   have H' := zK H
   clear H
   have p266 : 0 ≤ (x4_1 : Int) := oD (by first | (with_reducible assumption) | assumption)
   have q266 : x4_1 < (l0.length : Int) := oD (by first | (with_reducible assumption) | assumption)
   obtain ⟨ad266, e266, hx266_0, hx266_1, hx266_2, hx266_3, hx266_4⟩ := at_T122 HR0.out x4_1 p266 q266
   cases e266
   replace hx266_0 := (HB.out.cell (bL w hx266_0)).trans hx266_0
   replace hx266_1 := (HB.out.cell (bL w hx266_1)).trans hx266_1
   replace hx266_2 := (HB.out.cell (bL w hx266_2)).trans hx266_2
   replace hx266_3 := (HB.out.cell (bL w hx266_3)).trans hx266_3
   replace hx266_4 := (HB.out.cell (bL w hx266_4)).trans hx266_4
   replace p266 := eq_true p266
   replace q266 := eq_true q266
   go_wp2_with (first | ((with_reducible refine gate_callee (f := 119) rfl ?_); refine goesL_ (some 20) rfl rfl Try.func119 (by kernel_rfl) rfl #[.agg #[.int .i64 ((rd_T122 l0 x4_1).f0), .int .i64 ((rd_T122 l0 x4_1).f1), .int .i64 ((rd_T122 l0 x4_1).f2), .int .i64 ((rd_T122 l0 x4_1).f3), .int .i64 ((rd_T122 l0 x4_1).f4)]] rfl (by (try simp only [List.map_toArray, List.map_cons, List.map_nil]); first | done | rfl | (simp only [List.length_drop, List.length_take]; rfl)) ?_; (with_reducible refine (laws_toThing.calls ((rd_T122 l0 x4_1).f0) ((rd_T122 l0 x4_1).f1) ((rd_T122 l0 x4_1).f2) ((rd_T122 l0 x4_1).f3) ((rd_T122 l0 x4_1).f4) t267 t268 t269 t270 t271 _ A8.out).mono ?_); rintro e w11 ⟨rfl, hb⟩; refine ⟨_, rfl, ?_⟩; have n0_ := zK (Kd.R_below (Kd.qR HO_3.out) hb); have n1_ := zK (bT (qB HB.out) hb); clear HO_3; clear HB; have HO_3 := n0_; have HB := n1_; clear n0_ n1_; (try clear hb); (try clear hb2); (try clear hk); (try clear hi); have p10 : 0 ≤ (x4_1 : Int) := oD (by first | (with_reducible assumption) | assumption); have q10 : (x4_1 : Int) < ((x3_1.length : Int) : Int) := oD (by first | (with_reducible assumption) | assumption); obtain ⟨go10, co10, eo10, gb10, gl10, cl10, HG10⟩ := Kd.R_form HO_3.out (by omega); (first | cases eo10 | (injection eo10 with ea_ en_ ec_; (first | subst ea_ | (injection ea_ with ea_; subst ea_)); subst ec_; clear en_)); have GB10 := zK gb10; have GG10 := zK HG10; clear gb10 gl10 HG10; obtain ⟨ce10, hcl10, hM10, hcc10, hfr10⟩ := Kd.R_elem HO_3.out z111 (x4_1 : Int) p10 q10; obtain rfl := k111_openM hM10; have hx10_0 : w11.cell? ⟨go10, (x4_1 : Int).toNat * 5, none⟩ = some (.int .i64 ((rd_T111 x3_1 x4_1).f0)) := hcc10 0 _ rfl; have hx10_1 : w11.cell? ⟨go10, (x4_1 : Int).toNat * 5 + 1, none⟩ = some (.int .i64 ((rd_T111 x3_1 x4_1).f1)) := hcc10 1 _ rfl; have hx10_2 : w11.cell? ⟨go10, (x4_1 : Int).toNat * 5 + 2, none⟩ = some (.int .i64 ((rd_T111 x3_1 x4_1).f2)) := hcc10 2 _ rfl; have hx10_3 : w11.cell? ⟨go10, (x4_1 : Int).toNat * 5 + 3, none⟩ = some (.int .i64 ((rd_T111 x3_1 x4_1).f3)) := hcc10 3 _ rfl; have hx10_4 : w11.cell? ⟨go10, (x4_1 : Int).toNat * 5 + 4, none⟩ = some (.int .i64 ((rd_T111 x3_1 x4_1).f4)) := hcc10 4 _ rfl; have hf10_0 : w11.frozen? ⟨go10, (x4_1 : Int).toNat * 5, none⟩ = false := hfr10 0; have hf10_1 : w11.frozen? ⟨go10, (x4_1 : Int).toNat * 5 + 1, none⟩ = false := hfr10 1; have hf10_2 : w11.frozen? ⟨go10, (x4_1 : Int).toNat * 5 + 2, none⟩ = false := hfr10 2; have hf10_3 : w11.frozen? ⟨go10, (x4_1 : Int).toNat * 5 + 3, none⟩ = false := hfr10 3; have hf10_4 : w11.frozen? ⟨go10, (x4_1 : Int).toNat * 5 + 4, none⟩ = false := hfr10 4; clear hcl10 hcc10 hfr10 hM10; replace p10 := eq_true p10; replace q10 := eq_true q10; have HX12 := zK (show Kd.R k111 111 w11 w.heap.size (fun _ => True) (.slice (some ⟨go10, 0, none⟩) x3_1.length co10) x3_1 from (Kd.qR HO_3.out)); obtain ⟨ce12, hcl12, hM12, hcc12, hfr12⟩ := Kd.R_elem HX12.out z111 (x4_1 : Int) (oD (by first | (with_reducible assumption) | assumption)) (by have h_ : (x4_1 : Int) < ((x3_1.length : Int) : Int) := oD (by first | (with_reducible assumption) | assumption); first | exact h_ | (have e_ := (Kd.R_reads' HO_3.out).1; omega) | simpa using h_); obtain rfl := k111_openM hM12; have HP12 := Kd.R_seg HX12.out (x4_1 : Int) (oD (by first | (with_reducible assumption) | assumption)) (by have h_ : (x4_1 : Int) < ((x3_1.length : Int) : Int) := oD (by first | (with_reducible assumption) | assumption); first | exact h_ | (have e_ := (Kd.R_reads' HO_3.out).1; omega) | simpa using h_) (seg := [.int .i64 t267, .int .i64 t268, .int .i64 t269, .int .i64 t270, .int .i64 t271]) (j := 0) hcl12 hcc12 (show 5 ≤ 5 from by decide) (x' := (⟨t267, t268, t269, t270, t271⟩ : S111)) (k111_mkM _ _ _ (⟨t267, t268, t269, t270, t271⟩ : S111) ) (fun _ hk => hk); have hx12_0 := hcc12 0 _ rfl; (try simp only [show (k111).sz = 5 from rfl, Nat.mul_one, Nat.add_zero] at hx12_0); have hf12_0 := hfr12 0; (try simp only [show (k111).sz = 5 from rfl, Nat.mul_one, Nat.add_zero] at hf12_0); have hx12_1 := hcc12 1 _ rfl; (try simp only [show (k111).sz = 5 from rfl, Nat.mul_one, Nat.add_zero] at hx12_1); have hf12_1 := hfr12 1; (try simp only [show (k111).sz = 5 from rfl, Nat.mul_one, Nat.add_zero] at hf12_1); have hx12_2 := hcc12 2 _ rfl; (try simp only [show (k111).sz = 5 from rfl, Nat.mul_one, Nat.add_zero] at hx12_2); have hf12_2 := hfr12 2; (try simp only [show (k111).sz = 5 from rfl, Nat.mul_one, Nat.add_zero] at hf12_2); have hx12_3 := hcc12 3 _ rfl; (try simp only [show (k111).sz = 5 from rfl, Nat.mul_one, Nat.add_zero] at hx12_3); have hf12_3 := hfr12 3; (try simp only [show (k111).sz = 5 from rfl, Nat.mul_one, Nat.add_zero] at hf12_3); have hx12_4 := hcc12 4 _ rfl; (try simp only [show (k111).sz = 5 from rfl, Nat.mul_one, Nat.add_zero] at hx12_4); have hf12_4 := hfr12 4; (try simp only [show (k111).sz = 5 from rfl, Nat.mul_one, Nat.add_zero] at hf12_4); clear hcl12 hcc12 hfr12 hM12) | ((with_reducible refine gate_store (t := 111) (p := 21) rfl ?_); refine store_event (t := 111) (p := 21) (v := ?vo_w13) (w1 := (((((w11.setCell ⟨go10, (x4_1 : Int).toNat * 5, none⟩ (.int .i64 t267)).setCell ⟨go10, (x4_1 : Int).toNat * 5 + 1, none⟩ (.int .i64 t268)).setCell ⟨go10, (x4_1 : Int).toNat * 5 + 2, none⟩ (.int .i64 t269)).setCell ⟨go10, (x4_1 : Int).toNat * 5 + 3, none⟩ (.int .i64 t270)).setCell ⟨go10, (x4_1 : Int).toNat * 5 + 4, none⟩ (.int .i64 t271))) ?hg ?ho ?hn ?hr ?_; (case ho => rfl); (case hg => rfl); (case hn => rfl); (case hr => first | (go_simp; done) | (go_simp; rfl)); intro w13 hw; have hg : w11.grownBy w13 (some go10) := (by rw [hw]; exact HP12.2); have hp_ : Kd.R k111 111 w13 w.heap.size (fun _ => True) (.slice (some ⟨go10, 0, none⟩) x3_1.length co10) y272 := (by rw [hw, Ny272.out]; exact HP12.1); clear HP12; have n0_ := zK (hp_); have n1_ := zK ((by rw [hw]; exact bS (bS (bS (bS (bS (HB.out) GB10.out) GB10.out) GB10.out) GB10.out) GB10.out : Below w.heap.size w w13)); clear HO_3; clear HB; have HO_3 := n0_; have HB := n1_; clear n0_ n1_; clear hg hw hp_))
   go_roundg k1
   case measure => have := HK1.out; omega
   case rel => exact ⟨(y272), (wrap64 (x4_1 + 1)), (by first | rfl | (simp; done) | (simp [*]; done)), H', ⟨by have := HK1.out; omega⟩, ⟨by exact Kd.qR HO_3.out⟩, ⟨by exact qB HB.out⟩⟩
/-! ### impl_InRange: function 106 -/
def impl_InRange.f (a0 : Int) (a1 : Int) (a2 : Int) : Option (Bool) := if a1 ≤ a0 then (some (decide (a0 ≤ a2))) else (some false)
set_option maxHeartbeats 8000000 in
set_option maxRecDepth 100000 in
theorem impl_InRange.calls (a0 : Int) (a1 : Int) (a2 : Int) (r : Bool) (w : World) (h : impl_InRange.f a0 a1 a2 = some r) :
  Calls Try.prog 106 #[.int .i64 a0, .int .i64 a1, .int .i64 a2] w fun e w' => e = .returned (.bool r) ∧ Drawn0 w w' := by
 have H : (if a1 ≤ a0 then (some (decide (a0 ≤ a2))) else (some false)) = some r := h
 clear h
 by_cases c4 : a1 ≤ a0
 ·rw [if_pos c4] at H
  have c4b0 : decide (a1 ≤ a0) = true := decide_eq_true c4
  clear c4
  obtain rfl := Option.some.inj H
  go_enter Try.func106, Try.ntmps106
  go_wp2
  go_ret
  exact ⟨by first | rfl | (simp; done) | (simp [*]; done), by repeat (first | exact Drawn0.refl _ | apply Drawn0.step)⟩
 rw [if_neg c4] at H
 have c4b0 : decide (a1 ≤ a0) = false := decide_eq_false c4
 clear c4
 obtain rfl := Option.some.inj H
 go_enter Try.func106, Try.ntmps106
 go_wp2
 go_ret
 exact ⟨by first | rfl | (simp; done) | (simp [*]; done), by repeat (first | exact Drawn0.refl _ | apply Drawn0.step)⟩
/-! ### impl_slotWith: function 123: slices.IndexFunc with function 162 over a boxed whole number -/
theorem impl_slotWith.run_mf (fn : Fn) (first cap : Array Value) (w : World) : (Instr.makeFunc fn first cap).run Try.prog w = .ok (.func fn first cap) w := rfl
theorem impl_slotWith.events_mf (fn : Fn) (first cap : Array Value) (w : World) (es : Array Event) : (Instr.makeFunc fn first cap).events Try.prog w es = es := rfl
attribute [local go_sem] impl_slotWith.run_mf impl_slotWith.events_mf
def impl_slotWith.p (a0 : Int) (y : S154) : Bool := decide (y.f2 = a0)
def impl_slotWith.idx (q : S154 → Bool) : Nat → List (S154) → Int
 | _, [] => -1
 | i, x :: l => if q x then (i : Int) else impl_slotWith.idx q (i + 1) l
def impl_slotWith.f (l0 : List (S154)) (a0 : Int) : Option Int := some (if a0 = 0 then -1 else impl_slotWith.idx (impl_slotWith.p a0) 0 l0)
set_option maxHeartbeats 8000000 in
set_option maxRecDepth 100000 in
theorem impl_slotWith.one (y : S154) (B : Nat) (a0 : Int) (w : World) (hB : w.heap[B]? = some (.cells #[.int .i64 a0] 3 (0, 0))) :
  Calls Try.prog 162 #[.agg #[.int .i64 y.f0, .int .i64 y.f1, .int .i64 y.f2], .pointer (some ⟨B, 0, none⟩)] w fun e w' => e = .returned (.bool (impl_slotWith.p a0 y)) ∧ Below w.heap.size w w' := by
 have hc0 : ∀ o, (w.alloc o).cell? ⟨B, 0, none⟩ = some (.int .i64 a0) := fun o => (bc (kA hB o) 0).trans rfl
 have hcB : w.cell? ⟨B, 0, none⟩ = some (.int .i64 a0) := (bc hB 0).trans rfl
 rcases Bool.eq_false_or_eq_true (decide (y.f2 = a0)) with b0 | b0 <;>
 (go_enter Try.func162, Try.ntmps162
  go_wp2
  go_ret
  exact ⟨by first | rfl | (simp [impl_slotWith.p]; done) | (simp [impl_slotWith.p] <;> rfl) | (simp [impl_slotWith.p, b0]; done), by repeat (first | exact Below.refl _ _ | apply bA | apply bN | apply b1)⟩)
set_option maxHeartbeats 8000000 in
set_option maxRecDepth 100000 in
theorem impl_slotWith.at (B : Nat) (A0 : Option Addr) (c0 : Nat) (l0 : List (S154)) (a0 : Int) (w : World) (hr0 : Kd.C k154 w A0 l0.length l0) (hc0 : l0.length ≤ c0) (hB : w.heap[B]? = some (.cells #[.int .i64 a0] 3 (0, 0))) :
  Calls Try.prog 161 #[.slice A0 l0.length c0, .func (.func 162) #[] #[.pointer (some ⟨B, 0, none⟩)]] w fun e w' => e = .returned (.int .i64 (impl_slotWith.idx (impl_slotWith.p a0) 0 l0)) ∧ Below w.heap.size w w' := by
 have hlen : l0.length ≤ 9223372036854775807 := hr0.2.1
 have HR0 := zK hr0
 have HB0 := zK hB
 clear hr0 hB
 generalize hq : impl_slotWith.p a0 = q
 obtain ⟨r, hr⟩ : ∃ r, r = impl_slotWith.idx q 0 l0 := ⟨_, rfl⟩
 rw [← hr]
 have R0 := zK hr
 have HQ := zK hq
 clear hr hq
 go_enter Try.func161, Try.ntmps161
 go_wp2
 go_loopg [5, 8] l0.length (fun kq v5 v8 w' => ∃ (x8 : Int), v8 = .int .i64 x8 ∧ 0 ≤ x8 ∧ x8 ≤ (l0.length : Int) ∧ (l0.length : Int) - x8 ≤ kq ∧ Aside0 (impl_slotWith.idx q x8.toNat (l0.drop x8.toNat) = r) ∧ Aside0 (Below w.heap.size w w'))
 case atStart => exact ⟨0, rfl, by omega, by omega, by omega, ⟨R0.out.symm⟩, ⟨Below.refl _ _⟩⟩
 case round =>
  obtain ⟨x8, rfl, h0, h1, h2, HA, HB⟩ := hrel
  by_cases c3 : x8 < (l0.length : Int)
  ·have c3b0 : decide (x8 < (l0.length : Int)) = true := decide_eq_true c3
   obtain ⟨ad1, e1, hx_0, hx_1, hx_2⟩ := at_T154 HR0.out x8 h0 c3
   cases e1
   replace hx_0 := (HB.out.cell (bL w hx_0)).trans hx_0
   replace hx_1 := (HB.out.cell (bL w hx_1)).trans hx_1
   replace hx_2 := (HB.out.cell (bL w hx_2)).trans hx_2
   have hrd : l0.drop x8.toNat = rd_T154 l0 x8 :: l0.drop (x8.toNat + 1) := by
    rw [List.drop_eq_getElem_cons (by omega)]
    congr 1
    rw [rd_T154, List.getD_eq_getElem?_getD, List.getElem?_eq_getElem (by omega)]
    rfl
   have hn : (x8 + 1).toNat = x8.toNat + 1 := by omega
   have hw : wrap64 (x8 + 1) = x8 + 1 := by
    unfold wrap64
    omega
   have hD := HA.out
   rw [hrd] at hD
   have hone := fun (W : World) (hb : W.heap[B]? = some (.cells #[.int .i64 a0] 3 (0, 0))) => impl_slotWith.one (rd_T154 l0 x8) B a0 W hb
   rw [HQ.out] at hone
   have hBr := zK (bB HB0.out HB.out)
   have p8 := eq_true h0
   have q8 := eq_true c3
   by_cases hcase : q (rd_T154 l0 x8) = true
   ·rw [hcase] at hone
    have hr : (x8.toNat : Int) = r := by
     rw [← hD]
     simp [impl_slotWith.idx, hcase]
    have hr' : x8 = r := by omega
    subst hr'
    go_wp2_with (go_at_call 162; (with_reducible refine (hone _ (qK hBr.out)).mono ?_); rintro e w14 ⟨rfl, hb⟩; have HB := zK (bT (qB HB.out) hb); clear hb)
    go_ret
    exact ⟨rfl, by exact qB HB.out⟩
   ·rw [Bool.eq_false_iff.mpr hcase] at hone
    have hr : impl_slotWith.idx q (x8 + 1).toNat (l0.drop (x8 + 1).toNat) = r := by
     rw [← hD, hn]
     simp [impl_slotWith.idx, hcase]
    have HA' := zK hr
    clear hD HA
    go_wp2_with (go_at_call 162; (with_reducible refine (hone _ (qK hBr.out)).mono ?_); rintro e w14 ⟨rfl, hb⟩; have HB := zK (bT (qB HB.out) hb); clear hb)
    go_roundg (gk - 1)
    case measure => omega
    case rel => exact ⟨x8 + 1, (by first | rfl | rw [hw] | (simp [hw]; done)), by omega, by omega, by omega, HA', ⟨by exact qB HB.out⟩⟩
  ·have c3b0 : decide (x8 < (l0.length : Int)) = false := decide_eq_false c3
   have hr : r = -1 := by
    have := HA.out
    rw [List.drop_of_length_le (by omega)] at this
    exact this.symm
   subst hr
   go_wp2
   go_ret
   exact ⟨rfl, HB.out⟩
set_option maxHeartbeats 8000000 in
set_option maxRecDepth 100000 in
theorem impl_slotWith.calls (A0 : Option Addr) (c0 : Nat) (l0 : List (S154)) (a1 : Int) (r : Int) (w : World) (hr0 : Kd.C k154 w A0 l0.length l0) (hc0 : l0.length ≤ c0) (h : impl_slotWith.f l0 a1 = some r) :
  Calls Try.prog 123 #[.slice A0 l0.length c0, .int .i64 a1] w fun e w' => e = .returned (.int .i64 r) ∧ Below w.heap.size w w' := by
 have hr := Option.some.inj h
 clear h
 have HR0 := zK hr0
 have HC0 := zK hc0
 clear hr0 hc0
 by_cases h0 : a1 = 0
 ·rw [if_pos h0] at hr
  have b0 : (a1 == 0) = true := beq_iff_eq.mpr h0
  subst hr
  go_enter Try.func123, Try.ntmps123
  go_wp2
  go_ret
  exact ⟨by first | rfl | (simp; done), by repeat (first | exact Below.refl _ _ | apply bA | apply bN | apply b1)⟩
 rw [if_neg h0] at hr
 have b0 : (a1 == 0) = false := beq_eq_false_iff_ne.mpr h0
 have R0 := zK hr
 clear hr
 go_enter Try.func123, Try.ntmps123
 go_wp2_with (go_at_call 161; (with_reducible refine (impl_slotWith.at w.heap.size _ _ l0 a1 _ ?side1 ?side2 ?side3).mono ?_); (case side1 => exact Kd.qC HR0.out); (case side2 => exact HC0.out); (case side3 => exact heap_alloc_new w _); rintro e w14 ⟨rfl, hb⟩; rw [R0.out])
 go_ret
 exact ⟨by first | rfl | (simp; done), by first | exact bT (bA (Below.refl _ _) _) hb | (repeat (first | exact hb | apply bA | apply bN | apply b1))⟩
/-! ### impl_SlotOf: function 159 -/
def impl_SlotOf.f (l0 : List (S154)) (a1 : Int) : Option (Int) := (impl_slotWith.f l0 a1).bind fun t273 => (if t273 < 0 then (some 0) else (if 0 ≤ t273 then (if t273 < (l0.length : Int) then (some ((rd_T154 l0 t273).f0)) else (none)) else (none)))
set_option maxHeartbeats 8000000 in
set_option maxRecDepth 100000 in
theorem impl_SlotOf.calls (A0 : Option Addr) (c0 : Nat) (l0 : List (S154)) (a1 : Int) (r : Int) (w : World) (hr0 : Kd.C k154 w A0 l0.length l0) (hc0 : l0.length ≤ c0) (h : impl_SlotOf.f l0 a1 = some r) :
  Calls Try.prog 159 #[.slice A0 l0.length c0, .int .i64 a1] w fun e w' => e = .returned (.int .i64 r) ∧ Below w.heap.size w w' := by
 have HR0 := zK hr0
 have HC0 := zK hc0
 clear hr0 hc0
 have HB := zK (Below.refl w.heap.size w)
 have H : ((impl_slotWith.f l0 a1).bind fun t273 => (if t273 < 0 then (some 0) else (if 0 ≤ t273 then (if t273 < (l0.length : Int) then (some ((rd_T154 l0 t273).f0)) else (none)) else (none)))) = some r := h
 clear h
 replace H := Option.bind_eq_some_iff.mp H
 obtain ⟨t273, A30, H⟩ := H
 replace H : (if t273 < 0 then (some 0) else (if 0 ≤ t273 then (if t273 < (l0.length : Int) then (some ((rd_T154 l0 t273).f0)) else (none)) else (none))) = some r := H
 have A3 := zK A30
 clear A30
 by_cases c4 : t273 < 0
 ·rw [if_pos c4] at H
  have c4b0 : decide (t273 < 0) = true := decide_eq_true c4
  clear c4
  obtain rfl := Option.some.inj H
  go_enter Try.func159, Try.ntmps159
  go_wp2_with (first | ((with_reducible refine gate_callee (f := 123) rfl ?_); refine goesL_ (some 8) rfl rfl Try.func123 (by kernel_rfl) rfl #[.slice A0 l0.length c0, .int .i64 a1] rfl (by (try simp only [List.map_toArray, List.map_cons, List.map_nil]); first | done | rfl | (simp only [List.length_drop, List.length_take]; rfl)) ?_; (with_reducible refine (impl_slotWith.calls _ _ l0 a1 t273 _ ?side1 ?side2 A3.out).mono ?_); (case side1 => exact Kd.qC HR0.out); (case side2 => exact HC0.out); rintro e w5 ⟨rfl, hb⟩; refine ⟨_, rfl, ?_⟩; have n0_ := zK (bT (qB HB.out) hb); clear HB; have HB := n0_; clear n0_; (try clear hb); (try clear hb2); (try clear hk); (try clear hi)))
  go_ret
  exact ⟨by first | rfl | (simp [errW_none, errW_some] <;> rfl) | (simp [*, errW_none, errW_some] <;> rfl), by exact qB HB.out⟩
 rw [if_neg c4] at H
 have c4b0 : decide (t273 < 0) = false := decide_eq_false c4
 clear c4
 by_cases c6 : 0 ≤ t273
 rotate_left
 ·rw [if_neg c6] at H
  exact absurd H (by simp)

 rw [if_pos c6] at H
 have c6b0 : decide (0 ≤ t273) = true := decide_eq_true c6
 clear c6
 by_cases c7 : t273 < (l0.length : Int)
 rotate_left
 ·rw [if_neg c7] at H
  exact absurd H (by simp)
 rw [if_pos c7] at H
 have c7b0 : decide (t273 < (l0.length : Int)) = true := decide_eq_true c7
 clear c7
 obtain rfl := Option.some.inj H
 go_enter Try.func159, Try.ntmps159
 go_wp2_with (first | ((with_reducible refine gate_callee (f := 123) rfl ?_); refine goesL_ (some 8) rfl rfl Try.func123 (by kernel_rfl) rfl #[.slice A0 l0.length c0, .int .i64 a1] rfl (by (try simp only [List.map_toArray, List.map_cons, List.map_nil]); first | done | rfl | (simp only [List.length_drop, List.length_take]; rfl)) ?_; (with_reducible refine (impl_slotWith.calls _ _ l0 a1 t273 _ ?side1 ?side2 A3.out).mono ?_); (case side1 => exact Kd.qC HR0.out); (case side2 => exact HC0.out); rintro e w8 ⟨rfl, hb⟩; refine ⟨_, rfl, ?_⟩; have n0_ := zK (bT (qB HB.out) hb); clear HB; have HB := n0_; clear n0_; (try clear hb); (try clear hb2); (try clear hk); (try clear hi); have p274 : 0 ≤ (t273 : Int) := oD (by first | (with_reducible assumption) | assumption); have q274 : t273 < (l0.length : Int) := oD (by first | (with_reducible assumption) | assumption); obtain ⟨ad274, e274, hx274_0, hx274_1, hx274_2⟩ := at_T154 HR0.out t273 p274 q274; cases e274; replace hx274_0 := (HB.out.cell (bL w hx274_0)).trans hx274_0; replace hx274_1 := (HB.out.cell (bL w hx274_1)).trans hx274_1; replace hx274_2 := (HB.out.cell (bL w hx274_2)).trans hx274_2; replace p274 := eq_true p274; replace q274 := eq_true q274))
 go_ret
 exact ⟨by first | rfl | (simp [errW_none, errW_some] <;> rfl) | (simp [*, errW_none, errW_some] <;> rfl), by exact qB HB.out⟩
end Go.Proofs.Ytejhjenlodclpaa.PFnExactTighten
