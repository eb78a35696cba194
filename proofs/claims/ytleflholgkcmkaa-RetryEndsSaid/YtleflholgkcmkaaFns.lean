/- The functions of retry and of the document, each by what it comes to. -/
import Derived.Test.YtleflholgkcmkaaVmc
import Derived.Test.YtleflholgkcmkaaProg
import Derived.KernelRfl
import Derived.IntWalk
namespace Go.Proofs.Ytleflholgkcmkaa
open Go Go.Vm Go.RowKit
set_option linter.unusedVariables false
theorem mixed : Try.prog.follows .mixedOrders = true := by kernel_rfl

def clamp (h n : Int) : Int := if n < 0 then 0 else if h < n then h else n
def waitF (t r m : Int) : Int := min (clamp 1073741824 r * 2 ^ (clamp 32 t).toNat) (clamp 1073741824 m)
def dueF (now t r m : Int) : Int := clamp 1099511627776 (clamp 1099511627776 now + waitF t r m)
def overF (now at_ e : Int) : Bool := decide (clamp 1099511627776 now - clamp 1099511627776 at_ ≥ clamp 1073741824 e)
def latF (at_ e m : Int) : Int := clamp 1099511627776 (clamp 1099511627776 at_ + clamp 1073741824 e + clamp 1073741824 m)
def one (f : Int → Int) : List V → Option V
  | [.int .i64 a] => some (.int .i64 (f a))
  | _ => none
def three (f : Int → Int → Int → Int) : List V → Option V
  | [.int .i64 a, .int .i64 b, .int .i64 c] => some (.int .i64 (f a b c))
  | _ => none
def four (f : Int → Int → Int → Int → Int) : List V → Option V
  | [.int .i64 a, .int .i64 b, .int .i64 c, .int .i64 d] => some (.int .i64 (f a b c d))
  | _ => none
def ovr : List V → Option V
  | [.int .i64 a, .int .i64 b, .int .i64 c] => some (.bool (overF a b c))
  | _ => none
def aw : List V → Option V
  | [] => some (.bool true)
  | _ => none
def F1 : PureF := addF (addF (addF (addF noF 21 (one (clamp 1073741824))) 22 (one (clamp 1099511627776))) 24 (one (clamp 1073741824))) 25 (one (clamp 1099511627776))
def F2 : PureF := addF (addF (addF F1 9 (three waitF)) 15 (three waitF)) 8 aw
def F3 : PureF := addF (addF (addF (addF (addF (addF F2 10 (four dueF)) 16 (four dueF)) 11 ovr) 17 ovr) 12 (three latF)) 18 (three latF)

theorem one_spec {f : Int → Int} {args : List V} {v : V} (h : one f args = some v) : ∃ a, args = [.int .i64 a] ∧ v = .int .i64 (f a) := by
  unfold one at h
  split at h
  · cases h; exact ⟨_, rfl, rfl⟩
  · cases h
theorem three_spec {f : Int → Int → Int → Int} {args : List V} {v : V} (h : three f args = some v) : ∃ a b c, args = [.int .i64 a, .int .i64 b, .int .i64 c] ∧ v = .int .i64 (f a b c) := by
  unfold three at h
  split at h
  · cases h; exact ⟨_, _, _, rfl, rfl⟩
  · cases h
theorem four_spec {f : Int → Int → Int → Int → Int} {args : List V} {v : V} (h : four f args = some v) : ∃ a b c d, args = [.int .i64 a, .int .i64 b, .int .i64 c, .int .i64 d] ∧ v = .int .i64 (f a b c d) := by
  unfold four at h
  split at h
  · cases h; exact ⟨_, _, _, _, rfl, rfl⟩
  · cases h
theorem ovr_spec {args : List V} {v : V} (h : ovr args = some v) : ∃ a b c, args = [.int .i64 a, .int .i64 b, .int .i64 c] ∧ v = .bool (overF a b c) := by
  unfold ovr at h
  split at h
  · cases h; exact ⟨_, _, _, rfl, rfl⟩
  · cases h

theorem clamp_eq {h n : Int} (hh : 0 ≤ h) : (if (if h < n then h else n) > 0 then if h < n then h else n else 0) = clamp h n := by
  unfold clamp; split <;> split <;> split <;> omega
theorem clamp_range {h : Int} (n : Int) (hh : 0 ≤ h) : 0 ≤ clamp h n ∧ clamp h n ≤ h := by unfold clamp; split <;> (try split) <;> omega

theorem rds (g : FuncId) : FnLoops Try.prog (rounds 100) g := fnRounds 100 g
theorem pure1 {F : PureF} (hF : PureOk Try.prog F) {g : FuncId} {args : List V} {v : V} (ha : flatL args = true) (hv : v.flat = true) (h : runK Try.prog F 100 10 (rounds 100) g args (fun u => u = v)) : FnSat Try.prog g args [] (Is (v, [])) :=
  pure_of mixed hF (rds g) ha hv h
theorem secs_tree (a : Int) (R : V → Prop) : runK Try.prog noF 100 10 (rounds 100) 21 [.int .i64 a] R =
   (
    R
      (V.int IntKind.i64
        (if (if 1073741824 < a then 1073741824 else a) > 0 then if 1073741824 < a then 1073741824 else a else 0))) := by kernel_rfl
theorem clock_tree (a : Int) (R : V → Prop) : runK Try.prog noF 100 10 (rounds 100) 22 [.int .i64 a] R =
   (
    R
      (V.int IntKind.i64
        (if (if 1099511627776 < a then 1099511627776 else a) > 0 then if 1099511627776 < a then 1099511627776 else a
        else 0))) := by kernel_rfl
theorem rsecs_tree (a : Int) (R : V → Prop) : runK Try.prog noF 100 10 (rounds 100) 24 [.int .i64 a] R =
   (
    bif decide (a < 0) then R (V.int IntKind.i64 0)
    else bif decide (a > 1073741824) then R (V.int IntKind.i64 1073741824) else R (V.int IntKind.i64 a)) := by kernel_rfl
theorem rclock_tree (a : Int) (R : V → Prop) : runK Try.prog noF 100 10 (rounds 100) 25 [.int .i64 a] R =
   (
    bif decide (a < 0) then R (V.int IntKind.i64 0)
    else bif decide (a > 1099511627776) then R (V.int IntKind.i64 1099511627776) else R (V.int IntKind.i64 a)) := by kernel_rfl
theorem F1_ok : PureOk Try.prog F1 := by
  refine addF_ok (addF_ok (addF_ok (addF_ok noF_ok ?_) ?_) ?_) ?_
  · intro args v h
    obtain ⟨a, rfl, rfl⟩ := one_spec h
    refine pure1 noF_ok rfl rfl ?_
    rw [secs_tree, clamp_eq (by omega)]
  · intro args v h
    obtain ⟨a, rfl, rfl⟩ := one_spec h
    refine pure1 noF_ok rfl rfl ?_
    rw [clock_tree, clamp_eq (by omega)]
  · intro args v h
    obtain ⟨a, rfl, rfl⟩ := one_spec h
    refine pure1 noF_ok rfl rfl ?_
    rw [rsecs_tree]
    refine bif_intro (fun h => ?_) (fun h => bif_intro (fun h1 => ?_) (fun h1 => ?_)) <;> simp only [decide_eq_true_eq, decide_eq_false_iff_not, clamp, V.int.injEq, true_and] at * <;> split <;> (try split) <;> omega
  · intro args v h
    obtain ⟨a, rfl, rfl⟩ := one_spec h
    refine pure1 noF_ok rfl rfl ?_
    rw [rclock_tree]
    refine bif_intro (fun h => ?_) (fun h => bif_intro (fun h1 => ?_) (fun h1 => ?_)) <;> simp only [decide_eq_true_eq, decide_eq_false_iff_not, clamp, V.int.injEq, true_and] at * <;> split <;> (try split) <;> omega
theorem wait_tree (a b c : Int) (R : V → Prop) : runK Try.prog F1 100 10 (rounds 100) 9 [.int .i64 a, .int .i64 b, .int .i64 c] R =
   (
    bif decide (0 ≤ if (if 32 < a then 32 else a) > 0 then if 32 < a then 32 else a else 0) then
      R
        (V.int IntKind.i64
          (if
              clamp 1073741824 c <
                IntKind.i64.wrap
                  (clamp 1073741824 b *
                    2 ^ min (if (if 32 < a then 32 else a) > 0 then if 32 < a then 32 else a else 0).toNat 64) then
            clamp 1073741824 c
          else
            IntKind.i64.wrap
              (clamp 1073741824 b *
                2 ^ min (if (if 32 < a then 32 else a) > 0 then if 32 < a then 32 else a else 0).toNat 64)))
    else False) := by kernel_rfl
theorem round_tree (t r m w i : Int) (R : Exit → List (Option V) → St → Prop) : roundR Try.prog F1 100 10 15 58 [0,1,2,7,8] [.int .i64 t, .int .i64 r, .int .i64 m, .int .i64 w, .int .i64 i] [] R =
   (
    bif decide (i < t) then
      bif decide (i < 40) then
        bif decide (w < clamp 1073741824 m) then
          R Exit.normal
            [some (V.int IntKind.i64 t), some (V.int IntKind.i64 r), some (V.int IntKind.i64 m),
              some (V.int IntKind.i64 (IntKind.i64.wrap (2 * w))), some (V.int IntKind.i64 (IntKind.i64.wrap (i + 1)))]
            []
        else
          R (Exit.exit 0)
            [some (V.int IntKind.i64 t), some (V.int IntKind.i64 r), some (V.int IntKind.i64 m), some (V.int IntKind.i64 w),
              some (V.int IntKind.i64 i)]
            []
      else
        R (Exit.exit 0)
          [some (V.int IntKind.i64 t), some (V.int IntKind.i64 r), some (V.int IntKind.i64 m), some (V.int IntKind.i64 w),
            some (V.int IntKind.i64 i)]
          []
    else
      R (Exit.exit 0)
        [some (V.int IntKind.i64 t), some (V.int IntKind.i64 r), some (V.int IntKind.i64 m), some (V.int IntKind.i64 w),
          some (V.int IntKind.i64 i)]
        []) := by kernel_rfl

/-- The document's loop: so many rounds. -/
def dbl (t m : Int) : Nat → Int → Int → Int × Int
  | 0, w, i => (w, i)
  | k + 1, w, i => if i < t ∧ i < 40 ∧ w < clamp 1073741824 m then dbl t m k (IntKind.i64.wrap (2 * w)) (IntKind.i64.wrap (i + 1)) else (w, i)
structure WS where
  t : Int
  r : Int
  m : Int
  w : Int
  i : Int
  h : 0 ≤ i
def wsV (x : WS) : List V := [.int .i64 x.t, .int .i64 x.r, .int .i64 x.m, .int .i64 x.w, .int .i64 x.i]
def wsDec : List (Option V) → St → Option WS
  | [some (.int .i64 t), some (.int .i64 r), some (.int .i64 m), some (.int .i64 w), some (.int .i64 i)], [] => if h : 0 ≤ i then some ⟨t, r, m, w, i, h⟩ else none
  | _, _ => none
def wsOut (x : WS) : List (Bool × Out) := [(true, (.exit 0, [.int .i64 x.t, .int .i64 x.r, .int .i64 x.m, .int .i64 (dbl x.t x.m (40 - x.i).toNat x.w x.i).1, .int .i64 (dbl x.t x.m (40 - x.i).toNat x.w x.i).2], []))]
theorem wsDec_ok (l : List (Option V)) (s : St) (x : WS) (h : wsDec l s = some x) : l = (wsV x).map some ∧ ([] : St) = s := by
  unfold wsDec at h
  split at h
  · split at h
    · cases h; exact ⟨rfl, rfl⟩
    · cases h
  · cases h
theorem ws_stop (x : WS) (h : ¬ (x.i < x.t ∧ x.i < 40 ∧ x.w < clamp 1073741824 x.m)) : dbl x.t x.m (40 - x.i).toNat x.w x.i = (x.w, x.i) := by
  cases hk : (40 - x.i).toNat with
  | zero => rfl
  | succ k => simp only [dbl]; rw [if_neg h]
theorem ws_round (x : WS) : roundR Try.prog F1 100 10 15 58 [0,1,2,7,8] (wsV x) [] (RoundOk wsV (fun _ => []) (fun x => (40 - x.i).toNat) wsOut x) := by
  unfold wsV
  rw [round_tree]
  have stop : ∀ h : ¬ (x.i < x.t ∧ x.i < 40 ∧ x.w < clamp 1073741824 x.m), RoundOk wsV (fun _ => []) (fun x => (40 - x.i).toNat) wsOut x (.exit 0) [some (.int .i64 x.t), some (.int .i64 x.r), some (.int .i64 x.m), some (.int .i64 x.w), some (.int .i64 x.i)] [] := by
    intro h
    refine ⟨_, rfl, ?_⟩
    simp only [ws_stop x h, List.map_cons, List.map_nil]
  refine bif_intro (fun h1 => bif_intro (fun h2 => bif_intro (fun h3 => ?_) (fun h3 => ?_)) (fun h2 => ?_)) (fun h1 => ?_)
  · have h1 := of_decide_eq_true h1
    have h2 := of_decide_eq_true h2
    have h3 := of_decide_eq_true h3
    have hx := x.h
    have e : IntKind.i64.wrap (x.i + 1) = x.i + 1 := IntWalk.i64_in _ ⟨by omega, by omega⟩
    refine ⟨⟨x.t, x.r, x.m, IntKind.i64.wrap (2 * x.w), IntKind.i64.wrap (x.i + 1), by omega⟩, rfl, rfl, by simp only [e]; omega, ?_⟩
    have e2 : (40 - x.i).toNat = (40 - IntKind.i64.wrap (x.i + 1)).toNat + 1 := by rw [e]; omega
    have e3 : dbl x.t x.m (40 - x.i).toNat x.w x.i = dbl x.t x.m (40 - IntKind.i64.wrap (x.i + 1)).toNat (IntKind.i64.wrap (2 * x.w)) (IntKind.i64.wrap (x.i + 1)) := by
      rw [e2]; simp only [dbl]; rw [if_pos ⟨h1, h2, h3⟩]
    simp only [wsOut, e3]
  · exact stop fun hh => by have := of_decide_eq_false h3; exact this hh.2.2
  · exact stop fun hh => by have := of_decide_eq_false h2; exact this hh.2.1
  · exact stop fun hh => by have := of_decide_eq_false h1; exact this hh.1
def lk15 : Nat → Trans → Trans := withLoop 58 (loopT 35 [0,1,2,7,8] wsDec wsOut) (rounds 100)
theorem lk15_ok : FnLoops Try.prog lk15 15 :=
  fnLoop (rds 15) (by kernel_rfl) fun f st Q h => loopT_ok (P := Try.prog) (lim := 100) (n := 10) (g := 15) mixed F1_ok wsV (fun _ => []) (fun x => (40 - x.i).toNat) wsDec_ok ws_round h
theorem rwait_tree (t r m : Int) (R : V → Prop) : runK Try.prog F1 100 10 lk15 15 [.int .i64 t, .int .i64 r, .int .i64 m] R =
   (
    bif decide ((dbl t m 40 (clamp 1073741824 r) 0).fst > clamp 1073741824 m) then
      R (V.int IntKind.i64 (clamp 1073741824 m))
    else R (V.int IntKind.i64 (dbl t m 40 (clamp 1073741824 r) 0).fst)) := by kernel_rfl
theorem pow_range (k : Nat) (h : k ≤ 32) : (1 : Int) ≤ 2 ^ k ∧ (2 : Int) ^ k ≤ 4294967296 := by
  have h1 : 2 ^ k ≤ 2 ^ 32 := Nat.pow_le_pow_right (by omega) h
  have h2 : 1 ≤ 2 ^ k := Nat.one_le_two_pow
  have e : ((2 ^ k : Nat) : Int) = (2 : Int) ^ k := by simp
  omega
theorem mul_range {s k : Int} (h0 : 0 ≤ s) (h1 : s ≤ 1073741824) (k1 : 1 ≤ k) (k2 : k ≤ 4294967296) : 0 ≤ s * k ∧ s ≤ s * k ∧ s * k ≤ 4611686018427387904 := by
  have a1 : s * 1 ≤ s * k := Int.mul_le_mul_of_nonneg_left k1 h0
  have a2 : s * k ≤ s * 4294967296 := Int.mul_le_mul_of_nonneg_left k2 h0
  omega
theorem dbl_min (t m : Int) : ∀ (k : Nat) (w i : Int), k = (40 - i).toNat → 0 ≤ i → 0 ≤ w →
    min (dbl t m k w i).1 (clamp 1073741824 m) = min (w * 2 ^ (min t 40 - i).toNat) (clamp 1073741824 m)
  | 0, w, i, hk, hi, hw => by
    have : (min t 40 - i).toNat = 0 := by omega
    simp [dbl, this]
  | k + 1, w, i, hk, hi, hw => by
    have hM := clamp_range (h := 1073741824) m (by omega)
    simp only [dbl]
    by_cases hc : i < t ∧ i < 40 ∧ w < clamp 1073741824 m
    · rw [if_pos hc]
      have e1 : IntKind.i64.wrap (2 * w) = 2 * w := IntWalk.i64_in _ ⟨by omega, by omega⟩
      have e2 : IntKind.i64.wrap (i + 1) = i + 1 := IntWalk.i64_in _ ⟨by omega, by omega⟩
      rw [e1, e2, dbl_min t m k (2 * w) (i + 1) (by omega) (by omega) (by omega)]
      have e3 : (min t 40 - i).toNat = (min t 40 - (i + 1)).toNat + 1 := by omega
      rw [e3, Int.pow_succ]
      congr 1
      rw [Int.mul_comm 2 w, Int.mul_assoc, Int.mul_comm 2]
    · rw [if_neg hc]
      by_cases hx : i < t ∧ i < 40
      · have hge : clamp 1073741824 m ≤ w := by
          rcases Int.lt_or_le w (clamp 1073741824 m) with h | h
          · exact absurd ⟨hx.1, hx.2, h⟩ hc
          · exact h
        have hp : (1 : Int) ≤ 2 ^ (min t 40 - i).toNat := by
          have h2 : 1 ≤ 2 ^ (min t 40 - i).toNat := Nat.one_le_two_pow
          have e : ((2 ^ (min t 40 - i).toNat : Nat) : Int) = (2 : Int) ^ (min t 40 - i).toNat := by simp
          omega
        have a1 : w * 1 ≤ w * 2 ^ (min t 40 - i).toNat := Int.mul_le_mul_of_nonneg_left hp hw
        rw [Int.mul_one] at a1
        generalize w * 2 ^ (min t 40 - i).toNat = z at a1
        omega
      · have : (min t 40 - i).toNat = 0 := by omega
        simp [this]
theorem rwait_eq (t r m : Int) : min (clamp 1073741824 r * 2 ^ (min t 40 - 0).toNat) (clamp 1073741824 m) = waitF t r m := by
  unfold waitF
  have hM := clamp_range (h := 1073741824) m (by omega)
  have hS := clamp_range (h := 1073741824) r (by omega)
  by_cases ht : t ≤ 32
  · have : (min t 40 - 0).toNat = (clamp 32 t).toNat := by unfold clamp; split <;> (try split) <;> omega
    rw [this]
  · have e1 : (clamp 32 t).toNat = 32 := by unfold clamp; split <;> (try split) <;> omega
    obtain ⟨d, hd⟩ : ∃ d, (min t 40 - 0).toNat = 32 + d := ⟨(min t 40 - 0).toNat - 32, by omega⟩
    rw [e1, hd]
    generalize clamp 1073741824 r = s at hS
    by_cases hs : s = 0
    · subst hs; simp
    · have b1 : (4294967296 : Int) ≤ 2 ^ (32 + d) := by
        have h2 : 2 ^ 32 ≤ 2 ^ (32 + d) := Nat.pow_le_pow_right (by omega) (by omega)
        have e : ((2 ^ (32 + d) : Nat) : Int) = (2 : Int) ^ (32 + d) := by simp
        omega
      have a1 : s * 4294967296 ≤ s * 2 ^ (32 + d) := Int.mul_le_mul_of_nonneg_left b1 hS.1
      have a2 : (2 : Int) ^ 32 = 4294967296 := by decide
      rw [a2]
      generalize s * 2 ^ (32 + d) = z at a1
      omega
theorem wait_eq (a b c : Int) : (if clamp 1073741824 c < IntKind.i64.wrap (clamp 1073741824 b * 2 ^ min (clamp 32 a).toNat 64) then clamp 1073741824 c else IntKind.i64.wrap (clamp 1073741824 b * 2 ^ min (clamp 32 a).toNat 64)) = waitF a b c := by
  have hA := clamp_range (h := 32) a (by omega)
  have hb := clamp_range (h := 1073741824) b (by omega)
  have hk : min (clamp 32 a).toNat 64 = (clamp 32 a).toNat := by omega
  have hp := pow_range (clamp 32 a).toNat (by omega)
  have hm := mul_range hb.1 hb.2 hp.1 hp.2
  rw [hk, IntWalk.i64_in _ ⟨by omega, by omega⟩]
  unfold waitF
  split <;> omega
theorem closed_pure {P : Program} {F : PureF} {lim n : Nat} (hm : P.follows .mixedOrders = true) (hF : PureOk P F) {g : FuncId} (h : isTrue (E P (tabC F) lim n (.fn g) [] []) = true) : FnSat P g [] [] (Is (.bool true, [])) := by
  obtain ⟨s, hs⟩ := isTrue_spec h
  refine FnSat.flatK rfl ((E_ok hm (tabC_ok hF) lim n (.fn g) [] [] _ hs).mono ?_)
  rintro v s' hq
  cases hq
  rfl
theorem F2_ok : PureOk Try.prog F2 := by
  refine addF_ok (addF_ok (addF_ok F1_ok ?_) ?_) ?_
  · intro args v h
    obtain ⟨a, b, c, rfl, rfl⟩ := three_spec h
    refine pure1 F1_ok rfl rfl ?_
    rw [wait_tree]
    simp only [clamp_eq (h := 32) (by omega)]
    refine bif_intro (fun h => ?_) (fun h => ?_)
    · rw [wait_eq]
    · have := of_decide_eq_false h
      have := clamp_range (h := 32) a (by omega)
      omega
  · intro args v h
    obtain ⟨t, r, m, rfl, rfl⟩ := three_spec h
    refine pure_of (lim := 100) (n := 10) mixed F1_ok lk15_ok rfl rfl ?_
    rw [rwait_tree]
    have h1 := dbl_min t m 40 (clamp 1073741824 r) 0 (by decide) (by decide) (clamp_range r (by omega)).1
    rw [rwait_eq] at h1
    generalize (dbl t m 40 (clamp 1073741824 r) 0).1 = z at h1
    rw [← h1]
    refine bif_intro (fun h => ?_) (fun h => ?_)
    · have h := of_decide_eq_true h
      have : min z (clamp 1073741824 m) = clamp 1073741824 m := by omega
      rw [this]
    · have h := of_decide_eq_false h
      have : min z (clamp 1073741824 m) = z := by omega
      rw [this]
  · intro args v h
    unfold aw at h
    split at h
    · cases h
      exact closed_pure (n := 20) (lim := 100) mixed F1_ok (by kernel_rfl)
    · cases h
theorem due_tree (a b c d : Int) (R : V → Prop) : runK Try.prog F2 100 10 (rounds 100) 10 [.int .i64 a, .int .i64 b, .int .i64 c, .int .i64 d] R =
   (
    R (V.int IntKind.i64 (clamp 1099511627776 (IntKind.i64.wrap (clamp 1099511627776 a + waitF b c d))))) := by kernel_rfl
theorem rdue_tree (a b c d : Int) (R : V → Prop) : runK Try.prog F2 100 10 (rounds 100) 16 [.int .i64 a, .int .i64 b, .int .i64 c, .int .i64 d] R =
   (
    R (V.int IntKind.i64 (clamp 1099511627776 (IntKind.i64.wrap (clamp 1099511627776 a + waitF b c d))))) := by kernel_rfl
theorem over_tree (a b c : Int) (R : V → Prop) : runK Try.prog F2 100 10 (rounds 100) 11 [.int .i64 a, .int .i64 b, .int .i64 c] R =
   (
    R (V.bool (decide (IntKind.i64.wrap (clamp 1099511627776 a - clamp 1099511627776 b) ≥ clamp 1073741824 c)))) := by kernel_rfl
theorem rover_tree (a b c : Int) (R : V → Prop) : runK Try.prog F2 100 10 (rounds 100) 17 [.int .i64 a, .int .i64 b, .int .i64 c] R =
   (
    R (V.bool (decide (clamp 1099511627776 a ≥ IntKind.i64.wrap (clamp 1099511627776 b + clamp 1073741824 c))))) := by kernel_rfl
theorem lat_tree (a b c : Int) (R : V → Prop) : runK Try.prog F2 100 10 (rounds 100) 12 [.int .i64 a, .int .i64 b, .int .i64 c] R =
   (
    R
      (V.int IntKind.i64
        (clamp 1099511627776
          (IntKind.i64.wrap (IntKind.i64.wrap (clamp 1099511627776 a + clamp 1073741824 b) + clamp 1073741824 c))))) := by kernel_rfl
theorem rlat_tree (a b c : Int) (R : V → Prop) : runK Try.prog F2 100 10 (rounds 100) 18 [.int .i64 a, .int .i64 b, .int .i64 c] R =
   (
    R
      (V.int IntKind.i64
        (clamp 1099511627776
          (IntKind.i64.wrap (IntKind.i64.wrap (clamp 1099511627776 a + clamp 1073741824 b) + clamp 1073741824 c))))) := by kernel_rfl
theorem F3_ok : PureOk Try.prog F3 := by
  have hc := fun n => clamp_range (h := 1099511627776) n (by omega)
  have hs := fun n => clamp_range (h := 1073741824) n (by omega)
  have hw : ∀ t r m, 0 ≤ waitF t r m ∧ waitF t r m ≤ 1073741824 := by
    intro t r m
    have hA := clamp_range (h := 32) t (by omega)
    have hp := pow_range (clamp 32 t).toNat (by omega)
    have hm := mul_range (hs r).1 (hs r).2 hp.1 hp.2
    have := hs m
    unfold waitF
    omega
  refine addF_ok (addF_ok (addF_ok (addF_ok (addF_ok (addF_ok F2_ok ?_) ?_) ?_) ?_) ?_) ?_
  · intro args v h
    obtain ⟨a, b, c, d, rfl, rfl⟩ := four_spec h
    refine pure1 F2_ok rfl rfl ?_
    rw [due_tree, IntWalk.i64_in _ ⟨by have := hc a; have := hw b c d; omega, by have := hc a; have := hw b c d; omega⟩]; rfl
  · intro args v h
    obtain ⟨a, b, c, d, rfl, rfl⟩ := four_spec h
    refine pure1 F2_ok rfl rfl ?_
    rw [rdue_tree, IntWalk.i64_in _ ⟨by have := hc a; have := hw b c d; omega, by have := hc a; have := hw b c d; omega⟩]; rfl
  · intro args v h
    obtain ⟨a, b, c, rfl, rfl⟩ := ovr_spec h
    refine pure1 F2_ok rfl rfl ?_
    rw [over_tree, IntWalk.i64_in _ ⟨by have := hc a; have := hc b; omega, by have := hc a; have := hc b; omega⟩]; rfl
  · intro args v h
    obtain ⟨a, b, c, rfl, rfl⟩ := ovr_spec h
    refine pure1 F2_ok rfl rfl ?_
    rw [rover_tree, IntWalk.i64_in _ ⟨by have := hs c; have := hc b; omega, by have := hs c; have := hc b; omega⟩]
    simp only [overF, V.bool.injEq, decide_eq_decide]
    omega
  · intro args v h
    obtain ⟨a, b, c, rfl, rfl⟩ := three_spec h
    refine pure1 F2_ok rfl rfl ?_
    rw [lat_tree, IntWalk.i64_in (clamp 1099511627776 a + clamp 1073741824 b) ⟨by have := hs b; have := hc a; omega, by have := hs b; have := hc a; omega⟩, IntWalk.i64_in _ ⟨by have := hs b; have := hc a; have := hs c; omega, by have := hs b; have := hc a; have := hs c; omega⟩]; rfl
  · intro args v h
    obtain ⟨a, b, c, rfl, rfl⟩ := three_spec h
    refine pure1 F2_ok rfl rfl ?_
    rw [rlat_tree, IntWalk.i64_in (clamp 1099511627776 a + clamp 1073741824 b) ⟨by have := hs b; have := hc a; omega, by have := hs b; have := hc a; omega⟩, IntWalk.i64_in _ ⟨by have := hs b; have := hc a; have := hs c; omega, by have := hs b; have := hc a; have := hs c; omega⟩]; rfl
end Go.Proofs.Ytleflholgkcmkaa
