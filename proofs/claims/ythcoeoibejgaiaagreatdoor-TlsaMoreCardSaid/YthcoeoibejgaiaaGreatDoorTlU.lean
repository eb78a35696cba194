/- Lists of records among the arguments: their numbers are bytes. -/
import Derived.Test.YthcoeoibejgaiaaGreatDoorAnyC
import Derived.Test.YthcoeoibejgaiaaGreatDoorVmc
namespace Go.Proofs.YthcoeoibejgaiaaGreatDoor
open Go Go.Vm Go.RowKit
set_option linter.unusedVariables false
theorem u8_wf {n : Int} (h : (Lit.int .u8 n).wf = true) : u8B n = true := by
 have h1 : IntKind.u8.min ≤ n ∧ n ≤ IntKind.u8.max := by simpa [Lit.wf] using h
 have h2 : IntKind.u8.min = 0 := by decide
 have h3 : IntKind.u8.max = 255 := by decide
 rw [h2, h3] at h1
 unfold u8B
 simp only [Bool.and_eq_true, decide_eq_true_eq]
 omega
theorem tlsDU : ∀ (f : Nat) (l : List DD), (∀ y ∈ l, OfSh (f + 2) tlSh y) → ∃ rs : List TL, l.length = rs.length ∧ cellsDs l = tls rs ∧ rs.all inU = true
 | f, [], _ => ⟨[], rfl, rfl, rfl⟩
 | f, d :: r, h => by
  obtain ⟨l0, e0, g0⟩ := ofAgg (h d (by simp))
  obtain ⟨d0, l1, e1, a0, g1⟩ := all2_cons g0
  obtain ⟨d1, l2, e2, a1, g2⟩ := all2_cons g1
  obtain ⟨d2, l3, e3, a2, g3⟩ := all2_cons g2
  obtain ⟨d3, l4, e4, a3, g4⟩ := all2_cons g3
  have e5 := all2_nil g4
  obtain ⟨u, hu⟩ := ofInt a0
  obtain ⟨s, hs⟩ := ofInt a1
  obtain ⟨m, hm⟩ := ofInt a2
  obtain ⟨b, hb⟩ := ofStr a3
  have q0 := hu.1
  have q1 := hs.1
  have q2 := hm.1
  have q3 := hb.1
  subst e0 e1 e2 e3 e4 e5 q0 q1 q2 q3
  obtain ⟨rs, h1, h2, h3⟩ := tlsDU f r (fun y hy => h y (by simp [hy]))
  exact ⟨⟨u, s, m, b⟩ :: rs, by simp [h1], by simp only [cellsDs, cellsD, h2, tls]; rfl, by rw [List.all_cons, h3]; unfold inU; rw [u8_wf hs.2, u8_wf hm.2]; rfl⟩
end Go.Proofs.YthcoeoibejgaiaaGreatDoor
