/- RetryLonger and RetryAhead: what they come to, and that it is true. -/
import Derived.Test.YtleflholgkcmkaaFns
import Derived.OpenShut
namespace Go.Proofs.Ytleflholgkcmkaa
open Go Go.Vm Go.RowKit
set_option linter.unusedVariables false
/-- A statement that the elaborator is not to look into. -/
structure Holds (p : Prop) : Prop where
  go : p
theorem law_of_holds {P : Program} {F : PureF} {lim n : Nat} (hm : P.follows .mixedOrders = true) (hF : PureOk P F) {lk : Nat → Trans → Trans} {g : FuncId} (hl : FnLoops P lk g) {args : List V} {rargs : List Value} (h : Holds (runK P F lim n lk g args (fun u => u = .bool true))) (ha : realL [] args = some rargs) (w : World) :
    Calls P g rargs.toArray w (fun e w' => e = .returned (.bool true) ∧ Below w.heap.size w w') := law_of_sat (runK_ok hm hF hl h.go) ha w
theorem of_eq_false {p : Prop} {h : Decidable p} (hd : decide p = false) : ¬ p := of_decide_eq_false hd
theorem waitF_range (t r m : Int) : 0 ≤ waitF t r m ∧ waitF t r m ≤ 1073741824 ∧ waitF t r m ≤ clamp 1073741824 m := by
  have hA := clamp_range (h := 32) t (by omega)
  have hp := pow_range (clamp 32 t).toNat (by omega)
  have hr := clamp_range (h := 1073741824) r (by omega)
  have hm := mul_range hr.1 hr.2 hp.1 hp.2
  have := clamp_range (h := 1073741824) m (by omega)
  unfold waitF
  omega
theorem clamp_mono {h a b : Int} (hh : 0 ≤ h) (hab : a ≤ b) : clamp h a ≤ clamp h b := by unfold clamp; split <;> split <;> (try split) <;> (try split) <;> omega
theorem waitF_mono {t t' r r' m m' : Int} (ht : t ≤ t') (hr : r ≤ r') (hm : m ≤ m') : waitF t r m ≤ waitF t' r' m' := by
  have h1 := clamp_mono (h := 32) (by omega) ht
  have h2 := clamp_mono (h := 1073741824) (by omega) hr
  have h3 := clamp_mono (h := 1073741824) (by omega) hm
  have g1 := clamp_range (h := 32) t (by omega)
  have g2 := clamp_range (h := 1073741824) r (by omega)
  have p1 := pow_range (clamp 32 t).toNat (by omega)
  have p2 : (2 : Int) ^ (clamp 32 t).toNat ≤ 2 ^ (clamp 32 t').toNat := by
    have h : 2 ^ (clamp 32 t).toNat ≤ 2 ^ (clamp 32 t').toNat := Nat.pow_le_pow_right (by omega) (by omega)
    have e1 : ((2 ^ (clamp 32 t).toNat : Nat) : Int) = (2 : Int) ^ (clamp 32 t).toNat := by simp
    have e2 : ((2 ^ (clamp 32 t').toNat : Nat) : Int) = (2 : Int) ^ (clamp 32 t').toNat := by simp
    omega
  have p3 : clamp 1073741824 r * 2 ^ (clamp 32 t).toNat ≤ clamp 1073741824 r' * 2 ^ (clamp 32 t').toNat := Int.mul_le_mul h2 p2 (by omega) (by omega)
  unfold waitF
  omega
theorem waitF_least {t r m : Int} (h0 : 0 ≤ r) (h1 : r ≤ 1073741824) (h2 : r ≤ m) : r ≤ waitF t r m := by
  have hA := clamp_range (h := 32) t (by omega)
  have hp := pow_range (clamp 32 t).toNat (by omega)
  have hr : clamp 1073741824 r = r := by unfold clamp; split <;> (try split) <;> omega
  have hm := mul_range h0 h1 hp.1 hp.2
  have : r ≤ clamp 1073741824 m := by unfold clamp; split <;> (try split) <;> omega
  unfold waitF
  rw [hr]
  omega
theorem more_range (o : Int) : 0 ≤ IntKind.i64.wrap ((IntKind.u64.wrap o).tmod 1000) ∧ IntKind.i64.wrap ((IntKind.u64.wrap o).tmod 1000) < 1000 := by
  have h : 0 ≤ IntKind.u64.wrap o := by rw [IntKind.wrap_u64]; omega
  rw [Int.tmod_eq_emod_of_nonneg h, IntWalk.i64_in _ ⟨by omega, by omega⟩]
  omega
theorem more_wrap {x o : Int} (h1 : -9223372036854775808 ≤ x) (h2 : x < 1152921504606846976) : x ≤ IntKind.i64.wrap (x + IntKind.i64.wrap ((IntKind.u64.wrap o).tmod 1000)) := by
  have := more_range o
  rw [IntWalk.i64_in (x + _) ⟨by omega, by omega⟩]
  omega
theorem longer_tree (t g m o : Int) (R : V → Prop) : runK Try.prog F2 100 10 (rounds 100) 3 [.int .i64 t, .int .i64 g, .int .i64 m, .int .i64 o] R =
   (
    bif decide (t < 1152921504606846976) then
      bif decide (waitF (IntKind.i64.wrap (t + IntKind.i64.wrap ((IntKind.u64.wrap o).tmod 1000))) g m < waitF t g m) then
        R (V.bool false)
      else
        bif decide (g < 1152921504606846976) then
          bif
              decide
                (waitF t (IntKind.i64.wrap (g + IntKind.i64.wrap ((IntKind.u64.wrap o).tmod 1000))) m < waitF t g m) then
            R (V.bool false)
          else
            bif decide (m < 1152921504606846976) then
              bif
                  decide
                    (waitF t g (IntKind.i64.wrap (m + IntKind.i64.wrap ((IntKind.u64.wrap o).tmod 1000))) <
                      waitF t g m) then
                R (V.bool false)
              else
                bif decide (g < 0) then
                  bif decide (waitF t g m ≥ 0) then R (V.bool (decide (waitF t g m ≤ 1073741824))) else R (V.bool false)
                else
                  bif decide (g > 1073741824) then
                    bif decide (waitF t g m ≥ 0) then R (V.bool (decide (waitF t g m ≤ 1073741824))) else R (V.bool false)
                  else
                    bif decide (m < 0) then
                      bif decide (waitF t g m ≥ 0) then R (V.bool (decide (waitF t g m ≤ 1073741824))) else R (V.bool false)
                    else
                      bif decide (m > 1073741824) then
                        bif decide (waitF t g m ≥ 0) then R (V.bool (decide (waitF t g m ≤ 1073741824)))
                        else R (V.bool false)
                      else
                        bif decide (waitF t g m ≤ m) then
                          bif decide (g > m) then R (V.bool true) else R (V.bool (decide (waitF t g m ≥ g)))
                        else R (V.bool false)
            else
              bif decide (g < 0) then
                bif decide (waitF t g m ≥ 0) then R (V.bool (decide (waitF t g m ≤ 1073741824))) else R (V.bool false)
              else
                bif decide (g > 1073741824) then
                  bif decide (waitF t g m ≥ 0) then R (V.bool (decide (waitF t g m ≤ 1073741824))) else R (V.bool false)
                else
                  bif decide (m < 0) then
                    bif decide (waitF t g m ≥ 0) then R (V.bool (decide (waitF t g m ≤ 1073741824))) else R (V.bool false)
                  else
                    bif decide (m > 1073741824) then
                      bif decide (waitF t g m ≥ 0) then R (V.bool (decide (waitF t g m ≤ 1073741824))) else R (V.bool false)
                    else
                      bif decide (waitF t g m ≤ m) then
                        bif decide (g > m) then R (V.bool true) else R (V.bool (decide (waitF t g m ≥ g)))
                      else R (V.bool false)
        else
          bif decide (m < 1152921504606846976) then
            bif
                decide
                  (waitF t g (IntKind.i64.wrap (m + IntKind.i64.wrap ((IntKind.u64.wrap o).tmod 1000))) < waitF t g m) then
              R (V.bool false)
            else
              bif decide (g < 0) then
                bif decide (waitF t g m ≥ 0) then R (V.bool (decide (waitF t g m ≤ 1073741824))) else R (V.bool false)
              else
                bif decide (g > 1073741824) then
                  bif decide (waitF t g m ≥ 0) then R (V.bool (decide (waitF t g m ≤ 1073741824))) else R (V.bool false)
                else
                  bif decide (m < 0) then
                    bif decide (waitF t g m ≥ 0) then R (V.bool (decide (waitF t g m ≤ 1073741824))) else R (V.bool false)
                  else
                    bif decide (m > 1073741824) then
                      bif decide (waitF t g m ≥ 0) then R (V.bool (decide (waitF t g m ≤ 1073741824))) else R (V.bool false)
                    else
                      bif decide (waitF t g m ≤ m) then
                        bif decide (g > m) then R (V.bool true) else R (V.bool (decide (waitF t g m ≥ g)))
                      else R (V.bool false)
          else
            bif decide (g < 0) then
              bif decide (waitF t g m ≥ 0) then R (V.bool (decide (waitF t g m ≤ 1073741824))) else R (V.bool false)
            else
              bif decide (g > 1073741824) then
                bif decide (waitF t g m ≥ 0) then R (V.bool (decide (waitF t g m ≤ 1073741824))) else R (V.bool false)
              else
                bif decide (m < 0) then
                  bif decide (waitF t g m ≥ 0) then R (V.bool (decide (waitF t g m ≤ 1073741824))) else R (V.bool false)
                else
                  bif decide (m > 1073741824) then
                    bif decide (waitF t g m ≥ 0) then R (V.bool (decide (waitF t g m ≤ 1073741824))) else R (V.bool false)
                  else
                    bif decide (waitF t g m ≤ m) then
                      bif decide (g > m) then R (V.bool true) else R (V.bool (decide (waitF t g m ≥ g)))
                    else R (V.bool false)
    else
      bif decide (g < 1152921504606846976) then
        bif decide (waitF t (IntKind.i64.wrap (g + IntKind.i64.wrap ((IntKind.u64.wrap o).tmod 1000))) m < waitF t g m) then
          R (V.bool false)
        else
          bif decide (m < 1152921504606846976) then
            bif
                decide
                  (waitF t g (IntKind.i64.wrap (m + IntKind.i64.wrap ((IntKind.u64.wrap o).tmod 1000))) < waitF t g m) then
              R (V.bool false)
            else
              bif decide (g < 0) then
                bif decide (waitF t g m ≥ 0) then R (V.bool (decide (waitF t g m ≤ 1073741824))) else R (V.bool false)
              else
                bif decide (g > 1073741824) then
                  bif decide (waitF t g m ≥ 0) then R (V.bool (decide (waitF t g m ≤ 1073741824))) else R (V.bool false)
                else
                  bif decide (m < 0) then
                    bif decide (waitF t g m ≥ 0) then R (V.bool (decide (waitF t g m ≤ 1073741824))) else R (V.bool false)
                  else
                    bif decide (m > 1073741824) then
                      bif decide (waitF t g m ≥ 0) then R (V.bool (decide (waitF t g m ≤ 1073741824))) else R (V.bool false)
                    else
                      bif decide (waitF t g m ≤ m) then
                        bif decide (g > m) then R (V.bool true) else R (V.bool (decide (waitF t g m ≥ g)))
                      else R (V.bool false)
          else
            bif decide (g < 0) then
              bif decide (waitF t g m ≥ 0) then R (V.bool (decide (waitF t g m ≤ 1073741824))) else R (V.bool false)
            else
              bif decide (g > 1073741824) then
                bif decide (waitF t g m ≥ 0) then R (V.bool (decide (waitF t g m ≤ 1073741824))) else R (V.bool false)
              else
                bif decide (m < 0) then
                  bif decide (waitF t g m ≥ 0) then R (V.bool (decide (waitF t g m ≤ 1073741824))) else R (V.bool false)
                else
                  bif decide (m > 1073741824) then
                    bif decide (waitF t g m ≥ 0) then R (V.bool (decide (waitF t g m ≤ 1073741824))) else R (V.bool false)
                  else
                    bif decide (waitF t g m ≤ m) then
                      bif decide (g > m) then R (V.bool true) else R (V.bool (decide (waitF t g m ≥ g)))
                    else R (V.bool false)
      else
        bif decide (m < 1152921504606846976) then
          bif
              decide
                (waitF t g (IntKind.i64.wrap (m + IntKind.i64.wrap ((IntKind.u64.wrap o).tmod 1000))) < waitF t g m) then
            R (V.bool false)
          else
            bif decide (g < 0) then
              bif decide (waitF t g m ≥ 0) then R (V.bool (decide (waitF t g m ≤ 1073741824))) else R (V.bool false)
            else
              bif decide (g > 1073741824) then
                bif decide (waitF t g m ≥ 0) then R (V.bool (decide (waitF t g m ≤ 1073741824))) else R (V.bool false)
              else
                bif decide (m < 0) then
                  bif decide (waitF t g m ≥ 0) then R (V.bool (decide (waitF t g m ≤ 1073741824))) else R (V.bool false)
                else
                  bif decide (m > 1073741824) then
                    bif decide (waitF t g m ≥ 0) then R (V.bool (decide (waitF t g m ≤ 1073741824))) else R (V.bool false)
                  else
                    bif decide (waitF t g m ≤ m) then
                      bif decide (g > m) then R (V.bool true) else R (V.bool (decide (waitF t g m ≥ g)))
                    else R (V.bool false)
        else
          bif decide (g < 0) then
            bif decide (waitF t g m ≥ 0) then R (V.bool (decide (waitF t g m ≤ 1073741824))) else R (V.bool false)
          else
            bif decide (g > 1073741824) then
              bif decide (waitF t g m ≥ 0) then R (V.bool (decide (waitF t g m ≤ 1073741824))) else R (V.bool false)
            else
              bif decide (m < 0) then
                bif decide (waitF t g m ≥ 0) then R (V.bool (decide (waitF t g m ≤ 1073741824))) else R (V.bool false)
              else
                bif decide (m > 1073741824) then
                  bif decide (waitF t g m ≥ 0) then R (V.bool (decide (waitF t g m ≤ 1073741824))) else R (V.bool false)
                else
                  bif decide (waitF t g m ≤ m) then
                    bif decide (g > m) then R (V.bool true) else R (V.bool (decide (waitF t g m ≥ g)))
                  else R (V.bool false)) := by kernel_rfl
theorem longer_run (t g m o : Int) (ht : -9223372036854775808 ≤ t ∧ t ≤ 9223372036854775807) (hg : -9223372036854775808 ≤ g ∧ g ≤ 9223372036854775807) (hm : -9223372036854775808 ≤ m ∧ m ≤ 9223372036854775807) :
    Holds (runK Try.prog F2 100 10 (rounds 100) 3 [.int .i64 t, .int .i64 g, .int .i64 m, .int .i64 o] (fun u => u = .bool true)) := by
  refine ⟨?_⟩
  rw [longer_tree]
  have w0 := waitF_range t g m
  have f1 : t < 1152921504606846976 → waitF t g m ≤ waitF (IntKind.i64.wrap (t + IntKind.i64.wrap ((IntKind.u64.wrap o).tmod 1000))) g m := fun h => waitF_mono (more_wrap ht.1 h) (Int.le_refl _) (Int.le_refl _)
  have f2 : g < 1152921504606846976 → waitF t g m ≤ waitF t (IntKind.i64.wrap (g + IntKind.i64.wrap ((IntKind.u64.wrap o).tmod 1000))) m := fun h => waitF_mono (Int.le_refl _) (more_wrap hg.1 h) (Int.le_refl _)
  have f3 : m < 1152921504606846976 → waitF t g m ≤ waitF t g (IntKind.i64.wrap (m + IntKind.i64.wrap ((IntKind.u64.wrap o).tmod 1000))) := fun h => waitF_mono (Int.le_refl _) (Int.le_refl _) (more_wrap hm.1 h)
  have f4 : 0 ≤ g → g ≤ 1073741824 → g ≤ m → g ≤ waitF t g m := fun h1 h2 h3 => waitF_least h1 h2 h3
  have f5 : 0 ≤ m → m ≤ 1073741824 → clamp 1073741824 m = m := fun h1 h2 => by unfold clamp; split <;> (try split) <;> omega
  generalize waitF (IntKind.i64.wrap (t + IntKind.i64.wrap ((IntKind.u64.wrap o).tmod 1000))) g m = x1 at *
  generalize waitF t (IntKind.i64.wrap (g + IntKind.i64.wrap ((IntKind.u64.wrap o).tmod 1000))) m = x2 at *
  generalize waitF t g (IntKind.i64.wrap (m + IntKind.i64.wrap ((IntKind.u64.wrap o).tmod 1000))) = x3 at *
  generalize waitF t g m = w at *
  generalize clamp 1073741824 m = c at *
  repeat' (refine bif_intro (fun h => ?_) (fun h => ?_))
  all_goals simp only [decide_eq_true_eq, decide_eq_false_iff_not, V.bool.injEq] at *
  all_goals omega
theorem ahead_tree (now later at_ tries again most expiry : Int) (R : V → Prop) : runK Try.prog F3 100 10 (rounds 100) 6 [.int .i64 now, .int .i64 later, .int .i64 at_, .int .i64 tries, .int .i64 again, .int .i64 most, .int .i64 expiry] R =
   (
    bif decide (now ≥ 0) then
      bif decide (now ≤ 1099511627776) then
        bif decide (dueF now tries again most < now) then R (V.bool false)
        else
          bif decide (later ≥ now) then
            bif decide (dueF later tries again most < dueF now tries again most) then R (V.bool false)
            else
              bif decide (dueF now tries again most < 0) then R (V.bool false)
              else
                bif decide (dueF now tries again most > 1099511627776) then R (V.bool false)
                else
                  bif overF now at_ expiry then R (V.bool true)
                  else R (V.bool (decide (dueF now tries again most ≤ latF at_ expiry most)))
          else
            bif decide (dueF now tries again most < 0) then R (V.bool false)
            else
              bif decide (dueF now tries again most > 1099511627776) then R (V.bool false)
              else
                bif overF now at_ expiry then R (V.bool true)
                else R (V.bool (decide (dueF now tries again most ≤ latF at_ expiry most)))
      else
        bif decide (later ≥ now) then
          bif decide (dueF later tries again most < dueF now tries again most) then R (V.bool false)
          else
            bif decide (dueF now tries again most < 0) then R (V.bool false)
            else
              bif decide (dueF now tries again most > 1099511627776) then R (V.bool false)
              else
                bif overF now at_ expiry then R (V.bool true)
                else R (V.bool (decide (dueF now tries again most ≤ latF at_ expiry most)))
        else
          bif decide (dueF now tries again most < 0) then R (V.bool false)
          else
            bif decide (dueF now tries again most > 1099511627776) then R (V.bool false)
            else
              bif overF now at_ expiry then R (V.bool true)
              else R (V.bool (decide (dueF now tries again most ≤ latF at_ expiry most)))
    else
      bif decide (later ≥ now) then
        bif decide (dueF later tries again most < dueF now tries again most) then R (V.bool false)
        else
          bif decide (dueF now tries again most < 0) then R (V.bool false)
          else
            bif decide (dueF now tries again most > 1099511627776) then R (V.bool false)
            else
              bif overF now at_ expiry then R (V.bool true)
              else R (V.bool (decide (dueF now tries again most ≤ latF at_ expiry most)))
      else
        bif decide (dueF now tries again most < 0) then R (V.bool false)
        else
          bif decide (dueF now tries again most > 1099511627776) then R (V.bool false)
          else
            bif overF now at_ expiry then R (V.bool true)
            else R (V.bool (decide (dueF now tries again most ≤ latF at_ expiry most)))) := by kernel_rfl
theorem ahead_run (now later at_ tries again most expiry : Int) :
    Holds (runK Try.prog F3 100 10 (rounds 100) 6 [.int .i64 now, .int .i64 later, .int .i64 at_, .int .i64 tries, .int .i64 again, .int .i64 most, .int .i64 expiry] (fun u => u = .bool true)) := by
  refine ⟨?_⟩
  rw [ahead_tree]
  have w0 := waitF_range tries again most
  have d0 : dueF now tries again most = clamp 1099511627776 (clamp 1099511627776 now + waitF tries again most) := rfl
  have d1 := clamp_range (h := 1099511627776) (clamp 1099511627776 now + waitF tries again most) (by omega)
  have d2 : 0 ≤ now → now ≤ 1099511627776 → now ≤ dueF now tries again most := by
    intro h1 h2
    have e : clamp 1099511627776 now = now := by unfold clamp; split <;> (try split) <;> omega
    rw [d0, e]
    unfold clamp; split <;> (try split) <;> omega
  have d3 : now ≤ later → dueF now tries again most ≤ dueF later tries again most := by
    intro h
    have := clamp_mono (h := 1099511627776) (by omega) h
    unfold dueF
    exact clamp_mono (by omega) (by omega)
  have d4 : overF now at_ expiry = false → dueF now tries again most ≤ latF at_ expiry most := by
    intro h
    have h := of_decide_eq_false h
    unfold dueF latF
    exact clamp_mono (by omega) (by omega)
  rw [← d0] at d1
  generalize dueF now tries again most = d at *
  generalize dueF later tries again most = e at *
  generalize latF at_ expiry most = l at *
  generalize overF now at_ expiry = v at *
  repeat' (refine bif_intro (fun h => ?_) (fun h => ?_))
  all_goals simp only [decide_eq_true_eq, decide_eq_false_iff_not, V.bool.injEq] at *
  all_goals first | (simp_all; done) | omega | (simp_all; omega)
theorem retryLonger_walk (a0 a1 a2 a3 : Int) (w0 : (Lit.int .i64 a0).wf = true) (w1 : (Lit.int .i64 a1).wf = true) (w2 : (Lit.int .i64 a2).wf = true) (w3 : (Lit.int .i64 a3).wf = true) (w : World) :
    Calls Try.prog 3 #[.int .i64 a0, .int .i64 a1, .int .i64 a2, .int .i64 a3] w (fun e w' => e = .returned (.bool true) ∧ Below w.heap.size w w') := by
  exact law_of_holds (args := [.int .i64 a0, .int .i64 a1, .int .i64 a2, .int .i64 a3]) (rargs := [.int .i64 a0, .int .i64 a1, .int .i64 a2, .int .i64 a3]) mixed F2_ok (rds 3) (longer_run a0 a1 a2 a3 (bounds_i64 w0) (bounds_i64 w1) (bounds_i64 w2)) (by simp only [realL, real]) w
theorem retryAhead_walk (a0 a1 a2 a3 a4 a5 a6 : Int) (w0 : (Lit.int .i64 a0).wf = true) (w1 : (Lit.int .i64 a1).wf = true) (w2 : (Lit.int .i64 a2).wf = true) (w3 : (Lit.int .i64 a3).wf = true) (w4 : (Lit.int .i64 a4).wf = true) (w5 : (Lit.int .i64 a5).wf = true) (w6 : (Lit.int .i64 a6).wf = true) (w : World) :
    Calls Try.prog 6 #[.int .i64 a0, .int .i64 a1, .int .i64 a2, .int .i64 a3, .int .i64 a4, .int .i64 a5, .int .i64 a6] w (fun e w' => e = .returned (.bool true) ∧ Below w.heap.size w w') := by
  exact law_of_holds (args := [.int .i64 a0, .int .i64 a1, .int .i64 a2, .int .i64 a3, .int .i64 a4, .int .i64 a5, .int .i64 a6]) (rargs := [.int .i64 a0, .int .i64 a1, .int .i64 a2, .int .i64 a3, .int .i64 a4, .int .i64 a5, .int .i64 a6]) mixed F3_ok (rds 6) (ahead_run a0 a1 a2 a3 a4 a5 a6) (by simp only [realL, real]) w
end Go.Proofs.Ytleflholgkcmkaa
