/- The certificates of a chain, of whatever number: one form. -/
import Derived.Test.YthcoeoibejgaiaaDoorReadC
namespace Go.Proofs.YthcoeoibejgaiaaDoor
open Go Go.Vm Go.RowKit
set_option linter.unusedVariables false
set_option maxRecDepth 100000
set_option linter.unusedSectionVars false
variable [Φ : Frz]
theorem add_ro {B : Nat} {W0 w : World} {m : List MB} {st : St} (h : Rel B W0 m st w) {i : Nat} {cs : List V} (hi : st[i]? = some (.ro true cs)) : ∃ e, Rel B W0 (m ++ [e]) (st ++ [.ro true []]) w := by
 obtain ⟨e, he, hk⟩ := h.at hi
 refine ⟨e, by simp [h.len], h.base, h.below, fun j b d hb hd => ?_, fun j k b c d f hjk hb hrw hc hl hd hf => ?_, h.glob⟩
 ·rcases Nat.lt_or_ge j st.length with hlt | hge
  ·rw [List.getElem?_append_left hlt] at hb
   rw [List.getElem?_append_left (by rw [h.len]; exact hlt)] at hd
   exact (h.blk j b d hb hd).mono (fun b x hb => by rw [List.getElem?_append_left (List.getElem?_eq_some_iff.1 hb).1]; exact hb)
  ·have hj : j = st.length := by
    have := (List.getElem?_eq_some_iff.1 hb).1
    simp at this; omega
   subst hj
   rw [List.getElem?_append_right (Nat.le_refl _), Nat.sub_self] at hb
   rw [List.getElem?_append_right (by rw [h.len]; exact Nat.le_refl _), h.len, Nat.sub_self] at hd
   simp only [List.getElem?_cons_zero, Option.some.injEq] at hb hd
   subst hb hd
   obtain ⟨g1, arr, t, fz, g2, _⟩ := hk
   exact ⟨g1, arr, t, fz, g2, fun i v hv => by simp at hv⟩
 ·have old : ∀ {j : Nat} {b : Blk} {d : MB}, (st ++ [Blk.ro true []])[j]? = some b → (m ++ [e])[j]? = some d → (st[j]? = some b ∧ m[j]? = some d) ∨ (j = st.length ∧ b = .ro true [] ∧ d = e) := by
   intro j b d hb hd
   rcases Nat.lt_or_ge j st.length with hlt | hge
   ·rw [List.getElem?_append_left hlt] at hb
    rw [List.getElem?_append_left (by rw [h.len]; exact hlt)] at hd
    exact .inl ⟨hb, hd⟩
   ·have hj : j = st.length := by
     have := (List.getElem?_eq_some_iff.1 hb).1
     simp at this; omega
    subst hj
    rw [List.getElem?_append_right (Nat.le_refl _), Nat.sub_self] at hb
    rw [List.getElem?_append_right (by rw [h.len]; exact Nat.le_refl _), h.len, Nat.sub_self] at hd
    simp only [List.getElem?_cons_zero, Option.some.injEq] at hb hd
    exact .inr ⟨rfl, hb.symm, hd.symm⟩
  rcases old hb hd with ⟨h1, h2⟩ | ⟨_, rfl, _⟩
  ·rcases old hc hf with ⟨h3, h4⟩ | ⟨_, rfl, rfl⟩
   ·exact h.inj j k b c d f hjk h1 hrw h3 hl h2 h4
   ·have hji : j ≠ i := fun e1 => by
     subst e1
     rw [hi] at h1
     cases h1; cases hrw
    exact h.inj j i b _ d f hji h1 hrw hi rfl h2 he
  ·cases hrw
def rdT (l : List (List UInt8)) : List V := match rdN l with
 | 2 => rdA (rdG l 1) 2 []
 | 3 => rdA (rdG l 1) 2 (rdA (rdG l 2) 3 [])
 | 4 => rdA (rdG l 1) 2 (rdA (rdG l 2) 3 (rdA (rdG l 3) 4 []))
 | _ => []
def nmR (l : List (List UInt8)) (i : Nat) : List V := bif Nat.blt i (rdN l) then strs (dL (rdG l i)) else []
def rdU (l : List (List UInt8)) : V × St := (.slice 0 0 (rdN l) false 0 0, [.row (rdA (rdG l 0) 1 (rdT l)) 34 6, .ro true (strs (dL (rdG l 0))), .ro true (nmR l 1), .ro true (nmR l 2), .ro true (nmR l 3)])
def readU : List V → Option (List (Bool × (V × St)))
 | [.lst _ n cs] => some [(okS n cs && Nat.beq (rdN (cs.map strOfV)) 0, (.nilSlice, [])), (okS n cs, rdU (cs.map strOfV))]
 | _ => none
theorem add_sat {P : Program} {g : FuncId} {args : List V} {v : V} {st : St} {i : Nat} {cs : List V} (hi : st[i]? = some (.ro true cs)) (h : FnSat P g args [] (Is (v, st))) : FnSat P g args [] (Is (v, st ++ [.ro true []])) :=
 weak_sat h fun B W0 w m x hr hx => by
  obtain ⟨e, h2⟩ := add_ro hr hi
  exact ⟨m ++ [e], h2, real_mono (fun b x hb => by rw [List.getElem?_append_left (List.getElem?_eq_some_iff.1 hb).1]; exact hb) v x hx⟩
theorem readU_ok (args : List V) (L : List (Bool × (V × St))) (o : V × St) (h : readU args = some L) (ho : pickO L = some o) : FnSat Tryd.prog 8 args [] (Is o) := by
 unfold readU at h
 split at h
 ·rename_i x n cs
  cases h
  cases hk : okS n cs with
  | false => rw [hk] at ho; simp [pickO] at ho
  | true =>
  rw [hk, Bool.true_and] at ho
  have get : ∀ j, rdN (cs.map strOfV) = j → FnSat Tryd.prog 8 [.lst x n cs] [] (Is (rdO (cs.map strOfV) j)) := by
   intro j hj
   refine readT_ok [.lst x n cs] _ _ rfl ?_
   have h4 := (rdN_le (cs.map strOfV)).1
   rw [hk, hj]
   rw [hj] at h4
   match j, h4 with
   | 0, _ | 1, _ | 2, _ | 3, _ | 4, _ => rfl
  have h4 := (rdN_le (cs.map strOfV)).1
  rcases (by omega : rdN (cs.map strOfV) = 0 ∨ rdN (cs.map strOfV) = 1 ∨ rdN (cs.map strOfV) = 2 ∨ rdN (cs.map strOfV) = 3 ∨ rdN (cs.map strOfV) = 4) with hj | hj | hj | hj | hj
  ·rw [hj] at ho
   cases ho
   exact get 0 hj
  ·rw [hj] at ho
   cases ho
   have := add_sat (i := 1) rfl (add_sat (i := 1) rfl (add_sat (i := 1) rfl (get 1 hj)))
   unfold rdU rdT nmR
   rw [hj]
   exact this
  ·rw [hj] at ho
   cases ho
   have := add_sat (i := 1) rfl (add_sat (i := 1) rfl (get 2 hj))
   unfold rdU rdT nmR
   rw [hj]
   exact this
  ·rw [hj] at ho
   cases ho
   have := add_sat (i := 1) rfl (get 3 hj)
   unfold rdU rdT nmR
   rw [hj]
   exact this
  ·rw [hj] at ho
   cases ho
   have := get 4 hj
   unfold rdU rdT nmR
   rw [hj]
   exact this
 ·cases h
structure RdAt (st : St) (l : List (List UInt8)) : Prop where
 b0 : st[0]? = some (.row (rdA (rdG l 0) 1 (rdT l)) 34 6)
 b1 : st[1]? = some (.ro true (strs (dL (rdG l 0))))
 b2 : st[2]? = some (.ro true (nmR l 1))
 b3 : st[3]? = some (.ro true (nmR l 2))
 b4 : st[4]? = some (.ro true (nmR l 3))
end Go.Proofs.YthcoeoibejgaiaaDoor
