/- Walks of functions that FnHints reaches, shortened. -/
import Derived.Test.YtejhjenlodclpaaProg
import Derived.Test.YtejhjenlodclpaaVFnHints
import Derived.Below
import Derived.Deep.Draws
import Derived.Deep.AppendLies
import Derived.Maps.AppendAt
import Derived.OwnWalk
import Derived.Laws.BytesArg
import Derived.Laws.MakeOwn
import Derived.Laws.OwnMore
import Derived.Deep.OwnRows
import Derived.Tactics
import Derived.Lib.ConvBytes
import Derived.Laws.Slices
import Derived.WalkKit
import Derived.KernelRfl
import Derived.RowKit3
import Derived.Deep.LoopGhost
import Derived.Deep.QuietTactic
import Derived.BigQuiet
import Derived.WideLaws
import Derived.Deep.DeepCutAuto
import Derived.Deep.CutBlock
import Derived.Deep.RegionHeld3
import Derived.Laws.Rows
import Derived.Lib.AppendStr
import Derived.ArgAppend
import Derived.Laws.IdiomCopy
import Derived.OrdersHeld
import Derived.Laws.BitsLemmas
import Derived.RowKit
import Derived.Lib.SliceRun
import Derived.Test.YtejhjenlodclpaaSlcFnHints
import Derived.Test.YtejhjenlodclpaaSlcUFnHints
import Derived.Test.YtejhjenlodclpaaLayUn
namespace Go.Proofs.Ytejhjenlodclpaa.PFnHints
open Go.RowKit Go.Proofs.YtejhjenlodclpaaW.PrintWords Go.Proofs.YtejhjenlodclpaaW.PrintLast Go.Proofs.YtejhjenlodclpaaW.PrintMore
attribute [local go_sem] max2_int min2_int max_two min_two max_three min_three max_four min_four
set_option linter.unusedVariables false
set_option linter.unusedSimpArgs false



def errW : Option Int → Value
 | none => .nilIface
 | some c => .iface 0 (.int .i64 c)
theorem errW_none : errW none = .nilIface := rfl
theorem errW_some (c : Int) : errW (some c) = .iface 0 (.int .i64 c) := rfl

theorem info3 : (Try.prog.info? 3).map (fun i => (i.zero, i.size, i.bytes)) = some (some (.int .i64 0), 1, 8) := by kernel_rfl
theorem info24 : (Try.prog.info? 24).map (fun i => (i.zero, i.size, i.bytes)) = some (some (.slice none 0 0), 1, 24) := by kernel_rfl
theorem info113 : (Try.prog.info? 113).map (fun i => (i.zero, i.size, i.bytes)) = some (some (.agg #[(.int .i64 0), (.int .i64 0), (.int .i64 0), (.int .i64 0), (.int .i64 0), (.int .i64 0), (.int .i64 0), (.int .i64 0)]), 8, 64) := by kernel_rfl
-- the values' own types
theorem M0 {p : Prop} (h : p := by (try simp only [List.map_toArray, List.map_cons, List.map_nil]); first | done | rfl | (simp only [List.length_drop, List.length_take]; rfl)) : p := h
section
variable {P : Program} {ops : Array Oper} {rest : List Oper} {o : Oper} {a : Act} {Q : Exit → Act → World → Prop}
theorem gc {f : FuncId} {ar : Array Operand} {ts : Array TypeId} (ho : o.op = .call { callee := .value (.func f), args := ar, argTypes := ts }) {W : World} (h : wpList P ops Q (o :: rest) a W) : wpList P ops Q (o :: rest) a W := h
theorem gd {N : Tmp} (ho : o.dst = some N) {W : World} (h : wpList P ops Q (o :: rest) a W) : wpList P ops Q (o :: rest) a W := h
theorem bE {W : World} {N : Tmp} {cs : Array Value} {t : TypeId} (h : ∀ g, g = W.heap.size → ∀ w1, w1.heap[g]? = some (.cells cs t (0, 0)) → Below W.heap.size W w1 → wpList P ops Q rest (a.put o.dst (.pointer (some ⟨g, 0, none⟩))) w1) (hd : o.dst = some N := by rfl) (hg : o.guard = none := by rfl) (hr : (execOp a.eval o).run P W = .ok (.value (.pointer (some ⟨W.heap.size, 0, none⟩))) (W.alloc (.cells cs t (0, 0))) := by first | (go_simp; done) | (go_simp; rfl)) : wpList P ops Q (o :: rest) a W := box_event hg hd hr h
theorem gL {w : World} (N : Option Tmp) {f : FuncId} {fn : Func} {ar : Array Operand} {ts : Array TypeId} (hf : P.funcs[f]? = some fn) (args : Array Value) (h : Calls P f args w fun e w' => ∃ v, e = .returned v ∧ wpList P ops Q rest (a.put N v) w') (hd : o.dst = N := by rfl) (hg : o.guard = none := by rfl) (hname : (fn.name == "runtime.NumGoroutine") = false := by kernel_rfl) (hb : fn.body.isSome = true := by rfl) (hop : o.op = .call { callee := .value (.func f), args := ar, argTypes := ts } := by rfl) (hargs : ar.map a.eval = args := by exact M0) : wpList P ops Q (o :: rest) a w := goesL_ N hd hg hf hname hb args hop hargs h
end
theorem rH {p : Prop} (h : p := by first | (rw [he_]; with_reducible exact H) | (have H2_ := (Option.bind_some _ _).symm.trans H; rw [he_]; with_reducible exact H2_) | (have H2_ := (Option.bind_some _ _).symm.trans H; with_reducible exact H2_) | with_reducible exact H | (rw [he_]; exact H) | exact H) : p := h
theorem J0 {p : Prop} (h : p := by repeat (first | (with_reducible first | exact HB.o | apply bA | apply bN | apply b1 | refine bS ?_ (IsS173.ge HI0.o) | refine bS ?_ GE463.o) | exact HB.o)) : p := h
theorem J1 {p : Prop} (h : p := by repeat (first | exact (Kd.C_below HR0_5.o M11) | (with_reducible refine Kd.CA ?_ _) | (with_reducible refine Kd.CN ?_ _) | (with_reducible refine Kd.CD ?_))) : p := h
theorem J2 {p : Prop} (h : p := by repeat (first | (with_reducible first | exact HI0.o | apply IsS173.alloc | apply IsS173.drewN | apply IsS173.drew | apply IsS173.set_1 | apply IsS173.set_2 | refine IsS173.far ?_ NB0_319.o _) | exact HI0.o)) : p := h
theorem J3 {p : Prop} (h : p := by repeat (first | (with_reducible first | exact HB.o | apply bA | apply bN | apply b1 | refine bS ?_ (IsS173.ge HI0.o) | refine bS ?_ GE319.o) | exact HB.o)) : p := h
theorem J4 {p : Prop} (h : p := by repeat (first | exact (Kd.C_below HR0_2.o M11) | (with_reducible refine Kd.CA ?_ _) | (with_reducible refine Kd.CN ?_ _) | (with_reducible refine Kd.CD ?_))) : p := h
theorem J5 {p : Prop} (h : p := by repeat (first | (with_reducible first | exact HI0.o | apply IsS173.alloc | apply IsS173.drewN | apply IsS173.drew | apply IsS173.set_1 | apply IsS173.set_2 | refine IsS173.far ?_ NB0_306.o _) | exact HI0.o)) : p := h
theorem J6 {p : Prop} (h : p := by repeat (first | (with_reducible first | exact HB.o | apply bA | apply bN | apply b1 | refine bS ?_ (IsS173.ge HI0.o) | refine bS ?_ GE306.o) | exact HB.o)) : p := h
theorem J7 {p : Prop} (h : p := by repeat (first | exact (Kd.V_reads' HO900.o).2.2 | (with_reducible refine Kd.CA ?_ _) | (with_reducible refine Kd.CN ?_ _) | (with_reducible refine Kd.CD ?_))) : p := h
theorem J8 {p : Prop} (h : p := by repeat (first | exact (Kd.V_reads' HO903.o).2.2 | (with_reducible refine Kd.CA ?_ _) | (with_reducible refine Kd.CN ?_ _) | (with_reducible refine Kd.CD ?_))) : p := h
theorem J9 {p : Prop} (h : p := by repeat (first | (with_reducible first | exact HI0.o | apply IsS173.alloc | apply IsS173.drewN | apply IsS173.drew | apply IsS173.set_1 | apply IsS173.set_2 | refine IsS173.far ?_ NB0_456.o _) | exact HI0.o)) : p := h
theorem J10 {p : Prop} (h : p := by repeat (first | (with_reducible first | exact HB.o | apply bA | apply bN | apply b1 | refine bS ?_ (IsS173.ge HI0.o) | refine bS ?_ GE456.o) | exact HB.o)) : p := h
theorem J11 {p : Prop} (h : p := by repeat (first | (with_reducible first | exact HB.o | apply bA | apply bN | apply b1 | refine bS ?_ (IsS173.ge HI0.o) | refine bS ?_ GE487.o) | exact HB.o)) : p := h
theorem J12 {p : Prop} (h : p := by repeat (first | (with_reducible first | exact HB.o | apply bA | apply bN | apply b1) | exact HB.o)) : p := h
theorem J13 {p : Prop} (h : p := by repeat (first | exact (Kd.N_reads' HO886.o).2.2 | (with_reducible refine Kd.CA ?_ _) | (with_reducible refine Kd.CN ?_ _) | (with_reducible refine Kd.CD ?_))) : p := h
theorem J14 {p : Prop} (h : p := by repeat (first | exact M76 | (with_reducible refine Kd.CA ?_ _) | (with_reducible refine Kd.CN ?_ _) | (with_reducible refine Kd.CD ?_))) : p := h
theorem o0 {p : Prop} (h : p := by first | rfl | (simp [errW_none, errW_some] <;> rfl) | (simp [*, errW_none, errW_some] <;> rfl)) : p := h
theorem o1 {p : Prop} (h : p := by rintro w' ⟨s0, s1, s2, s3, s4, s5, s6, s7, s8, s9, s10, s11, s12, s13, s14, s15, s16, s17, s18, s19, s20, s21, s22, s23, s24, s25, s26, s27, s28, s29, s30, s31⟩; go_simp; with_reducible rfl) : p := h
theorem o2 {p : Prop} (h : p := by first | rfl | (simp; done) | (simp [*]; done)) : p := h
theorem o3 {p : Prop} (h : p := by exact qX HB.o) : p := h
theorem o4 {p : Prop} (h : p := by rintro w' ⟨s0, s1, s2, s3, s4, s5, s6, s7, s8, s9, s10, s11, s12, s13, s14, s15, s16, s17, s18, s19, s20, s21, s22, s23⟩; go_simp; with_reducible rfl) : p := h
theorem o5 {p : Prop} (h : p := by rintro w' ⟨s0, s1, s2, s3, s4, s5, s6, s7⟩; go_simp; with_reducible rfl) : p := h
theorem o6 {p : Prop} (h : p := by have := HK1.o; omega) : p := h
theorem o7 {p : Prop} (h : p := by rintro w' ⟨s0, s1, s2, s3, s4, s5, s6, s7, s8, s9, s10, s11, s12, s13, s14, s15⟩; go_simp; with_reducible rfl) : p := h
theorem o8 {p : Prop} (h : p := by exact qB HB.o) : p := h
theorem o9 {p : Prop} (h : p := by have := HK1.o; first | omega | exact Nat.le_refl _) : p := h
theorem o10 {p : Prop} (h : p := by exact Kd.qR HO_5.o) : p := h
theorem o11 {p : Prop} (h : p := by rintro w' ⟨s0, s1, s2, s3, s4, s5, s6, s7, s8⟩; go_simp; with_reducible rfl) : p := h
theorem M1 {p : Prop} (h : p := by repeat (first | (with_reducible first | exact HK.o | apply KeepBut.set_ | apply keep_drewN | apply keep_drew | apply keep_alloc) | exact HK.o)) : p := h
theorem M2 {p : Prop} (h : p := by repeat (first | (with_reducible first | exact HB.o | apply bA | apply bN | apply b1 | refine bS ?_ (IsS173.ge HI782.o) | refine bS ?_ GE761.o | refine bS ?_ GE778.o) | exact HB.o)) : p := h
theorem M3 {p : Prop} (h : p := by repeat (first | (with_reducible first | exact HK.o | apply KeepBut.set_ | apply keep_drewN | apply keep_drew | apply keep_alloc | refine keep_far ?_ GW505.o _) | exact HK.o)) : p := h
theorem M4 {p : Prop} (h : p := by first | (with_reducible assumption) | assumption) : p := h
theorem M5 {p : Prop} (h : p := by repeat (first | (with_reducible first | exact HI782.o | apply IsS173.alloc | apply IsS173.drewN | apply IsS173.drew | apply IsS173.set_1 | apply IsS173.set_2 | refine IsS173.far ?_ NB782_761.o _ | refine IsS173.far ?_ NB782_778.o _) | exact HI782.o)) : p := h
theorem M7 {p : Prop} (h : p := by repeat (first | (with_reducible first | exact HI0.o | apply IsS173.alloc | apply IsS173.drewN | apply IsS173.drew | apply IsS173.set_1 | apply IsS173.set_2) | exact HI0.o)) : p := h
theorem M8 {p : Prop} (h : p := by repeat (first | (with_reducible first | exact HK.o | apply KeepBut.set_ | apply keep_drewN | apply keep_drew | apply keep_alloc | refine keep_far ?_ GW505.o _ | refine keep_far ?_ GW523.o _) | exact HK.o)) : p := h
theorem M10 {p : Prop} (h : p := by repeat (first | (with_reducible first | exact HK.o | apply KeepBut.set_ | apply keep_drewN | apply keep_drew | apply keep_alloc | refine keep_far ?_ GW365.o _) | exact HK.o)) : p := h
theorem M11 {p : Prop} (h : p := by exact qX HB.o) : p := h
theorem M12 {p : Prop} (h : p := by first | rfl | (simp; done) | (simp [*]; done)) : p := h
theorem M13 {p : Prop} (h : p := by repeat (first | (with_reducible first | exact HB.o | apply bA | apply bN | apply b1 | refine bS ?_ (IsS173.ge HI0.o)) | exact HB.o)) : p := h
theorem M14 {p : Prop} (h : p := by repeat (first | (with_reducible first | exact HK.o | apply KeepBut.set_ | apply keep_drewN | apply keep_drew | apply keep_alloc | refine keep_far ?_ GW365.o _ | refine keep_far ?_ GW376.o _) | exact HK.o)) : p := h
theorem M17 {p : Prop} (h : p := by repeat (first | (with_reducible first | exact HK.o | apply KeepBut.set_ | apply keep_drewN | apply keep_drew | apply keep_alloc | refine keep_far ?_ GW567.o _ | refine keep_far ?_ GW568.o _ | refine keep_far ?_ GW583.o _) | exact HK.o)) : p := h
theorem M20 {p : Prop} (h : p := by exact Kd.R_mono (Kd.qF HO766.o BK761.o) (fun _ hk => by (try dsimp only at hk); simp only [hk, ne_eq, not_false_eq_true, and_self])) : p := h
theorem M21 {p : Prop} (h : p := by exact Kd.R_mono (Kd.qF HO771.o BK761.o) (fun _ hk => by (try dsimp only at hk); simp only [hk, ne_eq, not_false_eq_true, and_self])) : p := h
theorem M22 {p : Prop} (h : p := by exact Kd.R_mono (Kd.qF HO785.o BK761.o) (fun _ hk => by (try dsimp only at hk); simp only [hk, ne_eq, not_false_eq_true, and_self])) : p := h
theorem M23 {p : Prop} (h : p := by exact Kd.R_mono (Kd.qF HO796.o BK761.o) (fun _ hk => by (try dsimp only at hk); simp only [hk, ne_eq, not_false_eq_true, and_self])) : p := h
theorem M24 {p : Prop} (h : p := by repeat (first | (with_reducible first | exact HB.o | apply bA | apply bN | apply b1 | refine bS ?_ (IsS173.ge HI808.o)) | exact HB.o)) : p := h
theorem M25 {p : Prop} (h : p := by (with_reducible repeat (first | apply Kd.RA | apply Kd.RN | apply Kd.RD)); exact Kd.R_mono HO766.o (fun _ hk => by (try dsimp only at hk); simp only [hk, ne_eq, not_false_eq_true, and_self])) : p := h
theorem M26 {p : Prop} (h : p := by (with_reducible repeat (first | apply Kd.RA | apply Kd.RN | apply Kd.RD)); exact Kd.R_mono HO771.o (fun _ hk => by (try dsimp only at hk); simp only [hk, ne_eq, not_false_eq_true, and_self])) : p := h
theorem M31 {p : Prop} (h : p := by repeat (first | (with_reducible first | exact HK.o | apply KeepBut.set_ | apply keep_drewN | apply keep_drew | apply keep_alloc | refine keep_far ?_ GW487.o _) | exact HK.o)) : p := h
theorem M32 {p : Prop} (h : p := by first | (simp only [putAll, Act.put, sA, sZ, sS]; done) | (simp only [putAll, Act.put, sA, sZ, sS]; rfl)) : p := h
theorem M33 {p : Prop} (h : p := by repeat (first | (with_reducible first | exact HB.o | apply bA | apply bN | apply b1 | refine bS ?_ (IsS173.ge HI708.o) | refine bS ?_ GE704.o) | exact HB.o)) : p := h
theorem M34 {p : Prop} (h : p := by (with_reducible repeat (first | apply Kd.RA | apply Kd.RN | apply Kd.RD)); exact Kd.R_mono HO776.o (fun _ hk => by (try dsimp only at hk); simp only [hk, ne_eq, not_false_eq_true, and_self])) : p := h
theorem M35 {p : Prop} (h : p := by repeat (first | (with_reducible first | exact HI0.o | apply IsS173.alloc | apply IsS173.drewN | apply IsS173.drew | apply IsS173.set_1 | apply IsS173.set_2 | refine IsS173.far ?_ NB0_505.o _) | exact HI0.o)) : p := h
theorem M39 {p : Prop} (h : p := by exact Kd.R_mono (Kd.qF HO776.o BK761.o) (fun _ hk => by (try dsimp only at hk); simp only [hk, ne_eq, not_false_eq_true, and_self])) : p := h
theorem M40 {p : Prop} (h : p := by exact Kd.R_mono (Kd.qF HO790.o BK761.o) (fun _ hk => by (try dsimp only at hk); simp only [hk, ne_eq, not_false_eq_true, and_self])) : p := h
theorem M41 {p : Prop} (h : p := by exact Kd.R_mono (Kd.qF HO801.o BK761.o) (fun _ hk => by (try dsimp only at hk); simp only [hk, ne_eq, not_false_eq_true, and_self])) : p := h
theorem M42 {p : Prop} (h : p := by (with_reducible repeat (first | apply Kd.N_alloc | apply Kd.N_drewN | apply Kd.N_drew)); exact HO_9.o) : p := h
theorem M43 {p : Prop} (h : p := by (with_reducible repeat (first | apply Kd.N_alloc | apply Kd.N_drewN | apply Kd.N_drew)); exact (Kd.N_mono (Kd.N_far (p := ⟨gb888, 7, none⟩) (Kd.N_far (p := ⟨gb888, 6, none⟩) (Kd.N_far (p := ⟨gb888, 5, none⟩) (Kd.N_far (p := ⟨gb888, 4, none⟩) (Kd.N_far (p := ⟨gb888, 3, none⟩) (Kd.N_far (p := ⟨gb888, 2, none⟩) (Kd.N_far (p := ⟨gb888, 1, none⟩) (Kd.N_far (p := ⟨gb888, 0, none⟩) (Kd.N_mono HO886.o (fun k_ hk => (⟨hk, hk.2⟩ : _ ∧ k_ ≠ gb888))) (fun _ hk => hk.2) _) (fun _ hk => hk.2) _) (fun _ hk => hk.2) _) (fun _ hk => hk.2) _) (fun _ hk => hk.2) _) (fun _ hk => hk.2) _) (fun _ hk => hk.2) _) (fun _ hk => hk.2) _) (fun _ h_ => h_.1))) : p := h
theorem M44 {p : Prop} (h : p := by (with_reducible repeat (first | apply Kd.N_alloc | apply Kd.N_drewN | apply Kd.N_drew)); exact (Kd.N_mono (Kd.N_far (p := ⟨gb888, 7, none⟩) (Kd.N_far (p := ⟨gb888, 6, none⟩) (Kd.N_far (p := ⟨gb888, 5, none⟩) (Kd.N_far (p := ⟨gb888, 4, none⟩) (Kd.N_far (p := ⟨gb888, 3, none⟩) (Kd.N_far (p := ⟨gb888, 2, none⟩) (Kd.N_far (p := ⟨gb888, 1, none⟩) (Kd.N_far (p := ⟨gb888, 0, none⟩) (Kd.N_mono HO886.o (fun k_ hk => (⟨hk, hk.2⟩ : _ ∧ k_ ≠ gb888))) (fun _ hk => hk.2) _) (fun _ hk => hk.2) _) (fun _ hk => hk.2) _) (fun _ hk => hk.2) _) (fun _ hk => hk.2) _) (fun _ hk => hk.2) _) (fun _ hk => hk.2) _) (fun _ hk => hk.2) _) (fun _ h_ => h_.1))) : p := h
theorem M46 {p : Prop} (h : p := by (with_reducible repeat (first | apply Kd.RA | apply Kd.RN | apply Kd.RD)); exact Kd.R_mono HO790.o (fun _ hk => by (try dsimp only at hk); simp only [hk, ne_eq, not_false_eq_true, and_self])) : p := h
theorem M47 {p : Prop} (h : p := by (with_reducible repeat (first | apply Kd.RA | apply Kd.RN | apply Kd.RD)); exact Kd.R_mono HO793.o (fun _ hk => by (try dsimp only at hk); simp only [hk, ne_eq, not_false_eq_true, and_self])) : p := h
theorem M50 {p : Prop} (h : p := by repeat (first | (with_reducible first | exact HI0.o | apply IsS173.alloc | apply IsS173.drewN | apply IsS173.drew | apply IsS173.set_1 | apply IsS173.set_2 | refine IsS173.far ?_ NB0_505.o _ | refine IsS173.far ?_ NB0_523.o _) | exact HI0.o)) : p := h
theorem M53 {p : Prop} (h : p := by repeat (first | (with_reducible first | exact HK.o | apply KeepBut.set_ | apply keep_drewN | apply keep_drew | apply keep_alloc | refine keep_far ?_ GW487.o _ | refine keep_far ?_ GW492.o _) | exact HK.o)) : p := h
theorem M54 {p : Prop} (h : p := by repeat (first | (with_reducible first | exact HB.o | apply bA | apply bN | apply b1 | refine bS ?_ (IsS173.ge HI0.o) | refine bS ?_ GE505.o) | exact HB.o)) : p := h
theorem M55 {p : Prop} (h : p := by repeat (first | (with_reducible first | exact HK.o | apply KeepBut.set_ | apply keep_drewN | apply keep_drew | apply keep_alloc | refine keep_far ?_ GW463.o _) | exact HK.o)) : p := h
theorem M60 {p : Prop} (h : p := by repeat (first | (with_reducible first | exact HI0.o | apply IsS173.alloc | apply IsS173.drewN | apply IsS173.drew | apply IsS173.set_1 | apply IsS173.set_2 | refine IsS173.far ?_ NB0_365.o _) | exact HI0.o)) : p := h
theorem M61 {p : Prop} (h : p := by repeat (first | (with_reducible first | exact HK.o | apply KeepBut.set_ | apply keep_drewN | apply keep_drew | apply keep_alloc | refine keep_far ?_ GW567.o _ | refine keep_far ?_ GW568.o _) | exact HK.o)) : p := h
theorem M63 {p : Prop} (h : p := by repeat (first | (with_reducible first | exact HB.o | apply bA | apply bN | apply b1 | refine bS ?_ (IsS173.ge HI0.o) | refine bS ?_ GE505.o | refine bS ?_ GE523.o) | exact HB.o)) : p := h
theorem M64 {p : Prop} (h : p := by repeat (first | (with_reducible first | exact HI0.o | apply IsS173.alloc | apply IsS173.drewN | apply IsS173.drew | apply IsS173.set_1 | apply IsS173.set_2 | refine IsS173.far ?_ NB0_365.o _ | refine IsS173.far ?_ NB0_376.o _) | exact HI0.o)) : p := h
theorem M65 {p : Prop} (h : p := by repeat (first | (with_reducible first | exact HB.o | apply bA | apply bN | apply b1 | refine bS ?_ (IsS173.ge HI619.o) | refine bS ?_ GE615.o) | exact HB.o)) : p := h
theorem M66 {p : Prop} (h : p := by repeat (first | (with_reducible first | exact HB.o | apply bA | apply bN | apply b1 | refine bS ?_ (IsS173.ge HI0.o) | refine bS ?_ GE365.o) | exact HB.o)) : p := h
theorem M69 {p : Prop} (h : p := by repeat (first | (with_reducible first | exact HI0.o | apply IsS173.alloc | apply IsS173.drewN | apply IsS173.drew | apply IsS173.set_1 | apply IsS173.set_2 | refine IsS173.far ?_ NB0_567.o _ | refine IsS173.far ?_ NB0_568.o _ | refine IsS173.far ?_ NB0_583.o _) | exact HI0.o)) : p := h
theorem M73 {p : Prop} (h : p := by (with_reducible repeat (first | apply Kd.RA | apply Kd.RN | apply Kd.RD)); exact Kd.R_mono HO801.o (fun _ hk => by (try dsimp only at hk); simp only [hk, ne_eq, not_false_eq_true, and_self])) : p := h
theorem M75 {p : Prop} (h : p := by repeat (first | (with_reducible first | exact HB.o | apply bA | apply bN | apply b1 | refine bS ?_ (IsS173.ge HI0.o) | refine bS ?_ GE365.o | refine bS ?_ GE376.o) | exact HB.o)) : p := h
theorem M76 {p : Prop} (h : p := by repeat (first | (with_reducible exact HR896_0.o) | (with_reducible refine Kd.CA ?_ _) | (with_reducible refine Kd.CN ?_ _) | (with_reducible refine Kd.CD ?_) | exact HR896_0.o)) : p := h
theorem M77 {p : Prop} (h : p := by repeat (first | (with_reducible first | exact HK.o | apply KeepBut.set_ | apply keep_drewN | apply keep_drew | apply keep_alloc | refine keep_far ?_ GW319.o _) | exact HK.o)) : p := h
theorem M78 {p : Prop} (h : p := by repeat (first | (with_reducible first | exact HK.o | apply KeepBut.set_ | apply keep_drewN | apply keep_drew | apply keep_alloc | refine keep_far ?_ GW306.o _) | exact HK.o)) : p := h
theorem Q0 {p : Prop} (h : p := by repeat (first | (with_reducible first | exact HI0.o | apply IsS173.alloc | apply IsS173.drewN | apply IsS173.drew | apply IsS173.set_1 | apply IsS173.set_2) | exact HI0.o)) : p := h
theorem Q1 {p : Prop} (h : p := by repeat (first | (with_reducible first | exact HI0.o | apply IsS173.alloc | apply IsS173.drewN | apply IsS173.drew | apply IsS173.set_1 | apply IsS173.set_2 | refine IsS173.far ?_ NB0_505.o _ | refine IsS173.far ?_ NB0_523.o _) | exact HI0.o)) : p := h
theorem Q2 {p : Prop} (h : p := by repeat (first | (with_reducible first | exact HI0.o | apply IsS173.alloc | apply IsS173.drewN | apply IsS173.drew | apply IsS173.set_1 | apply IsS173.set_2 | refine IsS173.far ?_ NB0_567.o _ | refine IsS173.far ?_ NB0_568.o _ | refine IsS173.far ?_ NB0_583.o _) | exact HI0.o)) : p := h
theorem Q3 {p : Prop} (h : p := by repeat (first | (with_reducible first | exact HI782.o | apply IsS173.alloc | apply IsS173.drewN | apply IsS173.drew | apply IsS173.set_1 | apply IsS173.set_2 | refine IsS173.far ?_ NB782_761.o _ | refine IsS173.far ?_ NB782_778.o _) | exact HI782.o)) : p := h
theorem Q4 {p : Prop} (h : p := by repeat (first | exact Drawn0.refl _ | apply Drawn0.step)) : p := h
theorem Q5 {p : Prop} (h : p := by repeat (first | (with_reducible first | exact HI0.o | apply IsS173.alloc | apply IsS173.drewN | apply IsS173.drew | apply IsS173.set_1 | apply IsS173.set_2 | refine IsS173.far ?_ NB0_365.o _ | refine IsS173.far ?_ NB0_376.o _) | exact HI0.o)) : p := h
theorem Q6 {p : Prop} (h : p := by repeat (first | (with_reducible first | exact HB.o | apply bA | apply bN | apply b1 | refine bS ?_ (IsS173.ge HI0.o) | refine bS ?_ GE567.o | refine bS ?_ GE568.o | refine bS ?_ GE583.o) | exact HB.o)) : p := h
theorem Q7 {p : Prop} (h : p := by repeat (first | (with_reducible first | exact HK.o | apply KeepBut.set_ | apply keep_drewN | apply keep_drew | apply keep_alloc | refine keep_far ?_ GW567.o _ | refine keep_far ?_ GW568.o _ | refine keep_far ?_ GW583.o _) | exact HK.o)) : p := h
theorem Q8 {p : Prop} (h : p := by repeat (first | (with_reducible first | exact HI708.o | apply IsS173.alloc | apply IsS173.drewN | apply IsS173.drew | apply IsS173.set_1 | apply IsS173.set_2 | refine IsS173.far ?_ NB708_704.o _) | exact HI708.o)) : p := h
theorem Q9 {p : Prop} (h : p := by repeat (first | (with_reducible first | exact HK.o | apply KeepBut.set_ | apply keep_drewN | apply keep_drew | apply keep_alloc) | exact HK.o)) : p := h
theorem Q10 {p : Prop} (h : p := by repeat (first | (with_reducible first | exact HB.o | apply bA | apply bN | apply b1 | refine bS ?_ (IsS173.ge HI0.o)) | exact HB.o)) : p := h
theorem Q11 {p : Prop} (h : p := by repeat (first | (with_reducible first | exact HK.o | apply KeepBut.set_ | apply keep_drewN | apply keep_drew | apply keep_alloc | refine keep_far ?_ GW505.o _ | refine keep_far ?_ GW523.o _) | exact HK.o)) : p := h
theorem Q12 {p : Prop} (h : p := by repeat (first | (with_reducible first | exact HB.o | apply bA | apply bN | apply b1 | refine bS ?_ (IsS173.ge HI0.o) | refine bS ?_ GE505.o | refine bS ?_ GE523.o) | exact HB.o)) : p := h
theorem Q13 {p : Prop} (h : p := by repeat (first | (with_reducible first | exact HK.o | apply KeepBut.set_ | apply keep_drewN | apply keep_drew | apply keep_alloc | refine keep_far ?_ GW365.o _ | refine keep_far ?_ GW376.o _) | exact HK.o)) : p := h
theorem Q14 {p : Prop} (h : p := by repeat (first | (with_reducible first | exact HB.o | apply bA | apply bN | apply b1 | refine bS ?_ (IsS173.ge HI0.o) | refine bS ?_ GE365.o | refine bS ?_ GE376.o) | exact HB.o)) : p := h
theorem Q15 {p : Prop} (h : p := by repeat (first | (with_reducible first | exact HI0.o | apply IsS173.alloc | apply IsS173.drewN | apply IsS173.drew | apply IsS173.set_1 | apply IsS173.set_2 | refine IsS173.far ?_ NB0_487.o _) | exact HI0.o)) : p := h
theorem Q16 {p : Prop} (h : p := by repeat (first | (with_reducible first | exact HI0.o | apply IsS173.alloc | apply IsS173.drewN | apply IsS173.drew | apply IsS173.set_1 | apply IsS173.set_2 | refine IsS173.far ?_ NB0_487.o _ | refine IsS173.far ?_ NB0_492.o _) | exact HI0.o)) : p := h
theorem Q17 {p : Prop} (h : p := by repeat (first | (with_reducible first | exact HI0.o | apply IsS173.alloc | apply IsS173.drewN | apply IsS173.drew | apply IsS173.set_1 | apply IsS173.set_2 | refine IsS173.far ?_ NB0_505.o _) | exact HI0.o)) : p := h
theorem Q18 {p : Prop} (h : p := by repeat (first | (with_reducible first | exact HI0.o | apply IsS173.alloc | apply IsS173.drewN | apply IsS173.drew | apply IsS173.set_1 | apply IsS173.set_2 | refine IsS173.far ?_ NB0_365.o _) | exact HI0.o)) : p := h
theorem Q19 {p : Prop} (h : p := by repeat (first | (with_reducible first | exact HI0.o | apply IsS173.alloc | apply IsS173.drewN | apply IsS173.drew | apply IsS173.set_1 | apply IsS173.set_2 | refine IsS173.far ?_ NB0_463.o _) | exact HI0.o)) : p := h
theorem Q20 {p : Prop} (h : p := by repeat (first | (with_reducible first | exact HI808.o | apply IsS173.alloc | apply IsS173.drewN | apply IsS173.drew | apply IsS173.set_1 | apply IsS173.set_2) | exact HI808.o)) : p := h
theorem Q21 {p : Prop} (h : p := by repeat (first | (with_reducible first | exact HK.o | apply KeepBut.set_ | apply keep_drewN | apply keep_drew | apply keep_alloc | refine keep_far ?_ GW487.o _ | refine keep_far ?_ GW492.o _) | exact HK.o)) : p := h
theorem Q22 {p : Prop} (h : p := by repeat (first | (with_reducible first | exact HI0.o | apply IsS173.alloc | apply IsS173.drewN | apply IsS173.drew | apply IsS173.set_1 | apply IsS173.set_2 | refine IsS173.far ?_ NB0_567.o _ | refine IsS173.far ?_ NB0_568.o _) | exact HI0.o)) : p := h
theorem Q23 {p : Prop} (h : p := by repeat (first | (with_reducible first | exact HB.o | apply bA | apply bN | apply b1 | refine bS ?_ (IsS173.ge HI0.o) | refine bS ?_ GE487.o | refine bS ?_ GE492.o) | exact HB.o)) : p := h
theorem Q24 {p : Prop} (h : p := by repeat (first | (with_reducible first | exact HI619.o | apply IsS173.alloc | apply IsS173.drewN | apply IsS173.drew | apply IsS173.set_1 | apply IsS173.set_2 | refine IsS173.far ?_ NB619_615.o _) | exact HI619.o)) : p := h
theorem Q25 {p : Prop} (h : p := by repeat (first | (with_reducible first | exact HI0.o | apply IsS173.alloc | apply IsS173.drewN | apply IsS173.drew | apply IsS173.set_1 | apply IsS173.set_2 | refine IsS173.far ?_ NB0_567.o _) | exact HI0.o)) : p := h
theorem Q26 {p : Prop} (h : p := by repeat (first | (with_reducible first | exact HK.o | apply KeepBut.set_ | apply keep_drewN | apply keep_drew | apply keep_alloc | refine keep_far ?_ GW456.o _) | exact HK.o)) : p := h
theorem Q27 {p : Prop} (h : p := by repeat (first | (with_reducible first | exact HK.o | apply KeepBut.set_ | apply keep_drewN | apply keep_drew | apply keep_alloc | refine keep_far ?_ GW567.o _) | exact HK.o)) : p := h
theorem Q28 {p : Prop} (h : p := by repeat (first | (with_reducible first | exact HB.o | apply bA | apply bN | apply b1 | refine bS ?_ (IsS173.ge HI708.o) | refine bS ?_ GE704.o) | exact HB.o)) : p := h
theorem Q29 {p : Prop} (h : p := by repeat (first | (with_reducible first | exact HB.o | apply bA | apply bN | apply b1 | refine bS ?_ (IsS173.ge HI619.o) | refine bS ?_ GE615.o) | exact HB.o)) : p := h
theorem Q30 {p : Prop} (h : p := by repeat (first | (with_reducible first | exact HB.o | apply bA | apply bN | apply b1 | refine bS ?_ (IsS173.ge HI808.o)) | exact HB.o)) : p := h
/-! #### struct type 111 -/
structure S111 where
 f0 : Int
 f1 : Int
 f2 : Int
 f3 : Int
 f4 : Int
def z111 : S111 := ⟨(0 : Int), (0 : Int), (0 : Int), (0 : Int), (0 : Int)⟩
def k111 : Kd S111 := Kd.iso (Kd.pair (Kd.int .i64) (Kd.pair (Kd.int .i64) (Kd.pair (Kd.int .i64) (Kd.pair (Kd.int .i64) (Kd.int .i64))))) (fun x : S111 => (x.f0, x.f1, x.f2, x.f3, x.f4))
theorem k111_open {w : World} {x : S111} {cs : List Value} (h : k111.K w x cs) : cs = [.int .i64 x.f0, .int .i64 x.f1, .int .i64 x.f2, .int .i64 x.f3, .int .i64 x.f4] := by
 obtain ⟨_, _, rfl, rfl, ⟨_, _, rfl, rfl, ⟨_, _, rfl, rfl, ⟨_, _, rfl, rfl, rfl⟩⟩⟩⟩ := h
 exact rfl
theorem k111_openM {w : World} {base : Nat} {ok : Nat → Prop} {x : S111} {cs : List Value} (h : k111.M w base ok x cs) : cs = [.int .i64 x.f0, .int .i64 x.f1, .int .i64 x.f2, .int .i64 x.f3, .int .i64 x.f4] := by
 obtain ⟨_, _, rfl, rfl, ⟨_, _, rfl, rfl, ⟨_, _, rfl, rfl, ⟨_, _, rfl, rfl, rfl⟩⟩⟩⟩ := h
 exact rfl
theorem k111_mk (w : World) (x : S111)  : k111.K w x [.int .i64 x.f0, .int .i64 x.f1, .int .i64 x.f2, .int .i64 x.f3, .int .i64 x.f4] := ⟨[.int .i64 x.f0], [.int .i64 x.f1, .int .i64 x.f2, .int .i64 x.f3, .int .i64 x.f4], rfl, rfl, ⟨[.int .i64 x.f1], [.int .i64 x.f2, .int .i64 x.f3, .int .i64 x.f4], rfl, rfl, ⟨[.int .i64 x.f2], [.int .i64 x.f3, .int .i64 x.f4], rfl, rfl, ⟨[.int .i64 x.f3], [.int .i64 x.f4], rfl, rfl, rfl⟩⟩⟩⟩
theorem k111_mkM (w : World) (base : Nat) (ok : Nat → Prop) (x : S111)  : k111.M w base ok x [.int .i64 x.f0, .int .i64 x.f1, .int .i64 x.f2, .int .i64 x.f3, .int .i64 x.f4] := ⟨[.int .i64 x.f0], [.int .i64 x.f1, .int .i64 x.f2, .int .i64 x.f3, .int .i64 x.f4], rfl, rfl, ⟨[.int .i64 x.f1], [.int .i64 x.f2, .int .i64 x.f3, .int .i64 x.f4], rfl, rfl, ⟨[.int .i64 x.f2], [.int .i64 x.f3, .int .i64 x.f4], rfl, rfl, ⟨[.int .i64 x.f3], [.int .i64 x.f4], rfl, rfl, rfl⟩⟩⟩⟩
theorem k111_mkF (W : World) (ok : Nat → Prop) (x : S111) : Kd.FK k111 W ok x [.int .i64 x.f0, .int .i64 x.f1, .int .i64 x.f2, .int .i64 x.f3, .int .i64 x.f4] := fun W2 _ => k111_mk W2 x
def rd_T111 (xs : List S111) (i : Int) : S111 := xs.getD i.toNat z111
theorem at_T111 {w : World} {A : Option Addr} {n : Nat} {xs : List S111} (h : Kd.C k111 w A n xs) (i : Int) (h0 : 0 ≤ i) (h1 : i < n) : ∃ ad , A = some ad ∧ w.cell? (ad.add (i.toNat * 5)) = some (.int .i64 (rd_T111 xs i).f0) ∧ w.cell? ⟨(ad.add (i.toNat * 5)).block, (ad.add (i.toNat * 5)).off + 1, none⟩ = some (.int .i64 (rd_T111 xs i).f1) ∧ w.cell? ⟨(ad.add (i.toNat * 5)).block, (ad.add (i.toNat * 5)).off + 2, none⟩ = some (.int .i64 (rd_T111 xs i).f2) ∧ w.cell? ⟨(ad.add (i.toNat * 5)).block, (ad.add (i.toNat * 5)).off + 3, none⟩ = some (.int .i64 (rd_T111 xs i).f3) ∧ w.cell? ⟨(ad.add (i.toNat * 5)).block, (ad.add (i.toNat * 5)).off + 4, none⟩ = some (.int .i64 (rd_T111 xs i).f4) := by
 obtain ⟨ad, c, e, _, hK, hc0⟩ := Kd.C_get h z111 i h0 h1
 have hc : ∀ j u, c[j]? = some u → w.cell? (ad.add (i.toNat * 5 + j)) = some u := hc0
 obtain rfl := k111_open hK
 exact ⟨ad, e, hc 0 _ rfl, by rw [← add_field _ _ 1 (by omega)]; exact hc 1 _ rfl, by rw [← add_field _ _ 2 (by omega)]; exact hc 2 _ rfl, by rw [← add_field _ _ 3 (by omega)]; exact hc 3 _ rfl, by rw [← add_field _ _ 4 (by omega)]; exact hc 4 _ rfl⟩

/-! #### struct type 113 -/
structure S113 where
 f0 : S111
 f1 : Int
 f2 : Int
 f3 : Int
def z113 : S113 := ⟨z111, (0 : Int), (0 : Int), (0 : Int)⟩
def k113 : Kd S113 := Kd.iso (Kd.pair k111 (Kd.pair (Kd.int .i64) (Kd.pair (Kd.int .i64) (Kd.int .i64)))) (fun x : S113 => (x.f0, x.f1, x.f2, x.f3))
theorem k113_open {w : World} {x : S113} {cs : List Value} (h : k113.K w x cs) : cs = [.int .i64 x.f0.f0, .int .i64 x.f0.f1, .int .i64 x.f0.f2, .int .i64 x.f0.f3, .int .i64 x.f0.f4, .int .i64 x.f1, .int .i64 x.f2, .int .i64 x.f3] := by
 obtain ⟨_, _, rfl, s0, ⟨_, _, rfl, rfl, ⟨_, _, rfl, rfl, rfl⟩⟩⟩ := h
 obtain rfl := k111_open s0
 exact rfl
theorem k113_openM {w : World} {base : Nat} {ok : Nat → Prop} {x : S113} {cs : List Value} (h : k113.M w base ok x cs) : cs = [.int .i64 x.f0.f0, .int .i64 x.f0.f1, .int .i64 x.f0.f2, .int .i64 x.f0.f3, .int .i64 x.f0.f4, .int .i64 x.f1, .int .i64 x.f2, .int .i64 x.f3] := by
 obtain ⟨_, _, rfl, s0, ⟨_, _, rfl, rfl, ⟨_, _, rfl, rfl, rfl⟩⟩⟩ := h
 obtain rfl := k111_openM s0
 exact rfl
theorem k113_mk (w : World) (x : S113)  : k113.K w x [.int .i64 x.f0.f0, .int .i64 x.f0.f1, .int .i64 x.f0.f2, .int .i64 x.f0.f3, .int .i64 x.f0.f4, .int .i64 x.f1, .int .i64 x.f2, .int .i64 x.f3] := ⟨[.int .i64 x.f0.f0, .int .i64 x.f0.f1, .int .i64 x.f0.f2, .int .i64 x.f0.f3, .int .i64 x.f0.f4], [.int .i64 x.f1, .int .i64 x.f2, .int .i64 x.f3], rfl, (k111_mk w x.f0 ), ⟨[.int .i64 x.f1], [.int .i64 x.f2, .int .i64 x.f3], rfl, rfl, ⟨[.int .i64 x.f2], [.int .i64 x.f3], rfl, rfl, rfl⟩⟩⟩
theorem k113_mkM (w : World) (base : Nat) (ok : Nat → Prop) (x : S113)  : k113.M w base ok x [.int .i64 x.f0.f0, .int .i64 x.f0.f1, .int .i64 x.f0.f2, .int .i64 x.f0.f3, .int .i64 x.f0.f4, .int .i64 x.f1, .int .i64 x.f2, .int .i64 x.f3] := ⟨[.int .i64 x.f0.f0, .int .i64 x.f0.f1, .int .i64 x.f0.f2, .int .i64 x.f0.f3, .int .i64 x.f0.f4], [.int .i64 x.f1, .int .i64 x.f2, .int .i64 x.f3], rfl, (k111_mkM w base ok x.f0 ), ⟨[.int .i64 x.f1], [.int .i64 x.f2, .int .i64 x.f3], rfl, rfl, ⟨[.int .i64 x.f2], [.int .i64 x.f3], rfl, rfl, rfl⟩⟩⟩
theorem k113_mkF (W : World) (ok : Nat → Prop) (x : S113) : Kd.FK k113 W ok x [.int .i64 x.f0.f0, .int .i64 x.f0.f1, .int .i64 x.f0.f2, .int .i64 x.f0.f3, .int .i64 x.f0.f4, .int .i64 x.f1, .int .i64 x.f2, .int .i64 x.f3] := fun W2 _ => k113_mk W2 x
def rd_T113 (xs : List S113) (i : Int) : S113 := xs.getD i.toNat z113
theorem at_T113 {w : World} {A : Option Addr} {n : Nat} {xs : List S113} (h : Kd.C k113 w A n xs) (i : Int) (h0 : 0 ≤ i) (h1 : i < n) : ∃ ad , A = some ad ∧ w.cell? (ad.add (i.toNat * 8)) = some (.int .i64 (rd_T113 xs i).f0.f0) ∧ w.cell? ⟨(ad.add (i.toNat * 8)).block, (ad.add (i.toNat * 8)).off + 1, none⟩ = some (.int .i64 (rd_T113 xs i).f0.f1) ∧ w.cell? ⟨(ad.add (i.toNat * 8)).block, (ad.add (i.toNat * 8)).off + 2, none⟩ = some (.int .i64 (rd_T113 xs i).f0.f2) ∧ w.cell? ⟨(ad.add (i.toNat * 8)).block, (ad.add (i.toNat * 8)).off + 3, none⟩ = some (.int .i64 (rd_T113 xs i).f0.f3) ∧ w.cell? ⟨(ad.add (i.toNat * 8)).block, (ad.add (i.toNat * 8)).off + 4, none⟩ = some (.int .i64 (rd_T113 xs i).f0.f4) ∧ w.cell? ⟨(ad.add (i.toNat * 8)).block, (ad.add (i.toNat * 8)).off + 5, none⟩ = some (.int .i64 (rd_T113 xs i).f1) ∧ w.cell? ⟨(ad.add (i.toNat * 8)).block, (ad.add (i.toNat * 8)).off + 6, none⟩ = some (.int .i64 (rd_T113 xs i).f2) ∧ w.cell? ⟨(ad.add (i.toNat * 8)).block, (ad.add (i.toNat * 8)).off + 7, none⟩ = some (.int .i64 (rd_T113 xs i).f3) := by
 obtain ⟨ad, c, e, _, hK, hc0⟩ := Kd.C_get h z113 i h0 h1
 have hc : ∀ j u, c[j]? = some u → w.cell? (ad.add (i.toNat * 8 + j)) = some u := hc0
 obtain rfl := k113_open hK
 exact ⟨ad, e, hc 0 _ rfl, by rw [← add_field _ _ 1 (by omega)]; exact hc 1 _ rfl, by rw [← add_field _ _ 2 (by omega)]; exact hc 2 _ rfl, by rw [← add_field _ _ 3 (by omega)]; exact hc 3 _ rfl, by rw [← add_field _ _ 4 (by omega)]; exact hc 4 _ rfl, by rw [← add_field _ _ 5 (by omega)]; exact hc 5 _ rfl, by rw [← add_field _ _ 6 (by omega)]; exact hc 6 _ rfl, by rw [← add_field _ _ 7 (by omega)]; exact hc 7 _ rfl⟩

def rd_L4 (xs : List (List Int)) (i : Int) : (List Int) := xs.getD i.toNat ([] : List Int)
theorem at_L4 {w : World} {A : Option Addr} {n : Nat} {xs : List (List Int)} (h : Kd.C (Kd.slice 3 (Kd.int .i64)) w A n xs) (i : Int) (h0 : 0 ≤ i) (h1 : i < n) : ∃ ad A0 c0, A = some ad ∧ w.cell? (ad.add i.toNat) = some (.slice A0 (rd_L4 xs i).length c0) ∧ (rd_L4 xs i).length ≤ c0 ∧ (Kd.int .i64).C w A0 (rd_L4 xs i).length (rd_L4 xs i) := by
 obtain ⟨ad, c, e, _, hK, hc0⟩ := Kd.C_get h ([] : List Int) i h0 h1
 have hc : ∀ j u, c[j]? = some u → w.cell? (ad.add (i.toNat * 1 + j)) = some u := hc0
 obtain ⟨A0, c0, rfl, l0, g0⟩ := hK
 exact ⟨ad, A0, c0, e, by have hq := hc 0 _ rfl; rwa [Nat.mul_one, Nat.add_zero] at hq, l0, g0⟩

end Go.Proofs.Ytejhjenlodclpaa.PFnHints
