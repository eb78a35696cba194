/- Certificates: whether one is large; one's bytes, as tables tell them. -/
import Derived.Test.YtakfcajmfgnchaaDoorLaw14
namespace Go.Proofs.YtakfcajmfgnchaaDoor
open Go Go.Vm Go.RowKit
set_option linter.unusedVariables false
set_option linter.unusedSectionVars false
set_option maxRecDepth 100000
variable [Φ : Frz]
def mn (n : Nat) : Nat := min 9000 n
def largeC (k g : List UInt8) (l : List (List UInt8)) : Bool := decide (((lgN (mn k.length + mn g.length) l : Nat) : Int) ≥ 9000)
def largeV (k g : List UInt8) (cs : List V) : Bool := largeC k g (cs.map strOfV)
def largeP : List V → Option (List (Bool × (V × St)))
  | [.agg [.str k, .str g, .lst _ n cs, .int .i64 _, .int .i64 _, .bool _]] => some [(okS n cs, (.bool (largeV k g cs), []))]
  | _ => none
theorem mn_eq (n : Nat) : (if (n : Int) < 9000 then (n : Int) else 9000) = ((mn n : Nat) : Int) := by
  unfold mn; split <;> omega
theorem mn_le (n : Nat) : mn n ≤ 9000 := by unfold mn; omega
theorem largeP_ok (args : List V) (l : List (Bool × (V × St))) (o : V × St) (h : largeP args = some l) (ho : pickO l = some o) : FnSat Tryd.prog 10 args [] (Is o) := by
  unfold largeP at h
  split at h
  · rename_i k g x n cs f u ca
    cases h
    obtain ⟨hb, rfl⟩ := pickO_one ho
    obtain ⟨l, rfl, rfl, p2, p3⟩ := okS_spec hb
    refine pureW_of (lim := 9) (n := 10) mixed G3_ok rfl rfl ?_
    rw [lg_tree]
    have a1 := mn_le k.length
    have a2 := mn_le g.length
    have e : IntKind.i64.wrap ((if (k.length : Int) < 9000 then (k.length : Int) else 9000) + if (g.length : Int) < 9000 then (g.length : Int) else 9000) = ((mn k.length + mn g.length : Nat) : Int) := by
      rw [mn_eq, mn_eq, IntWalk.i64_in _ ⟨by omega, by omega⟩]; omega
    simp only [e, Int.toNat_natCast]
    refine ⟨lg_fits ⟨k, g, x, l.length, strs l, f, u, ca⟩ _ 0, must_intro ?_ (fun j => ?_)⟩
    · unfold lgPre; simp only [Bool.and_eq_true]
      exact ⟨hb, Nat.ble_eq_true_of_le (Nat.zero_le _), Nat.ble_eq_true_of_le (show mn k.length + mn g.length ≤ 20000 by omega)⟩
    · unfold largeV largeC lgS; rfl
  · cases h
def encG : List V → St → Option (List (Bool × (V × St)))
  | [.agg [.str k, .str g, p, .int .i64 f, .int .i64 u, .bool ca]], st => match viewS st p with
    | some (b, l) => some [(b && Nat.ble l.length 9223372036854775807, (.tuple [.str (encB k g l f u ca), .int .i64 (encE k g l f u ca)], st))]
    | none => none
  | _, _ => none
theorem encG_ok (args : List V) (s : St) (l : List (Bool × (V × St))) (o : V × St) (h : encG args s = some l) (ho : pickO l = some o) : FnSat Tryd.prog 13 args s (Is o) := by
  unfold encG at h
  split at h
  · rename_i k g p f u ca
    split at h
    · rename_i b ls hv
      cases h
      obtain ⟨hb, rfl⟩ := pickO_one ho
      simp only [Bool.and_eq_true] at hb
      obtain ⟨rfl, h1⟩ := hb
      refine frz_sat rfl fun B W0 w m rargs hr ha => ?_
      obtain ⟨a, r, q1, q2, rfl⟩ := realL_cons ha
      simp only [realL, Option.some.injEq] at q2
      subst q2
      obtain ⟨y, hy⟩ := cert_frz hr hv q1
      exact ⟨[.agg [.str k, .str g, lstS y ls, .int .i64 f, .int .i64 u, .bool ca]], by simp only [realL, hy], @en_sat (Frz.of w) k g y ls f u ca (Nat.le_of_ble_eq_true h1)⟩
    · cases h
  · cases h
end Go.Proofs.YtakfcajmfgnchaaDoor
