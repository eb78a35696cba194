/- TrustRight: what it comes to. -/
import Derived.Test.YtakfcajmfgnchaaDoorTTimes
namespace Go.Proofs.YtakfcajmfgnchaaDoor
open Go Go.Vm Go.RowKit
set_option linter.unusedVariables false
set_option maxRecDepth 100000
set_option linter.unusedSectionVars false
variable [Φ : Frz]
/-- One place more, that is only looked at. -/
theorem add_ro {B : Nat} {W0 w : World} {m : List MB} {st : St} (h : Rel B W0 m st w) {i : Nat} {cs : List V} (hi : st[i]? = some (.ro true cs)) : ∃ e, Rel B W0 (m ++ [e]) (st ++ [.ro true []]) w := by
  obtain ⟨e, he, hk⟩ := h.at hi
  refine ⟨e, by simp [h.len], h.base, h.below, fun j b d hb hd => ?_, fun j k b c d f hjk hb hrw hc hl hd hf => ?_, h.glob⟩
  · rcases Nat.lt_or_ge j st.length with hlt | hge
    · rw [List.getElem?_append_left hlt] at hb
      rw [List.getElem?_append_left (by rw [h.len]; exact hlt)] at hd
      exact (h.blk j b d hb hd).mono (fun b x hb => by rw [List.getElem?_append_left (List.getElem?_eq_some_iff.1 hb).1]; exact hb)
    · have hj : j = st.length := by
        have := (List.getElem?_eq_some_iff.1 hb).1
        simp at this; omega
      subst hj
      rw [List.getElem?_append_right (Nat.le_refl _), Nat.sub_self] at hb
      rw [List.getElem?_append_right (by rw [h.len]; exact Nat.le_refl _), h.len, Nat.sub_self] at hd
      simp only [List.getElem?_cons_zero, Option.some.injEq] at hb hd
      subst hb hd
      obtain ⟨g1, arr, t, fz, g2, _⟩ := hk
      exact ⟨g1, arr, t, fz, g2, fun i v hv => by simp at hv⟩
  · have old : ∀ {j : Nat} {b : Blk} {d : MB}, (st ++ [Blk.ro true []])[j]? = some b → (m ++ [e])[j]? = some d → (st[j]? = some b ∧ m[j]? = some d) ∨ (j = st.length ∧ b = .ro true [] ∧ d = e) := by
      intro j b d hb hd
      rcases Nat.lt_or_ge j st.length with hlt | hge
      · rw [List.getElem?_append_left hlt] at hb
        rw [List.getElem?_append_left (by rw [h.len]; exact hlt)] at hd
        exact .inl ⟨hb, hd⟩
      · have hj : j = st.length := by
          have := (List.getElem?_eq_some_iff.1 hb).1
          simp at this; omega
        subst hj
        rw [List.getElem?_append_right (Nat.le_refl _), Nat.sub_self] at hb
        rw [List.getElem?_append_right (by rw [h.len]; exact Nat.le_refl _), h.len, Nat.sub_self] at hd
        simp only [List.getElem?_cons_zero, Option.some.injEq] at hb hd
        exact .inr ⟨rfl, hb.symm, hd.symm⟩
    rcases old hb hd with ⟨h1, h2⟩ | ⟨_, rfl, _⟩
    · rcases old hc hf with ⟨h3, h4⟩ | ⟨_, rfl, rfl⟩
      · exact h.inj j k b c d f hjk h1 hrw h3 hl h2 h4
      · have hji : j ≠ i := fun e1 => by
          subst e1
          rw [hi] at h1
          cases h1; cases hrw
        exact h.inj j i b _ d f hji h1 hrw hi rfl h2 he
    · cases hrw
def cc (cs : List V) : List (List UInt8) := List.map strOfV cs
def rdT (l : List (List UInt8)) : List V := match rdN l with
  | 2 => rdA (rdG l 1) 2 []
  | 3 => rdA (rdG l 1) 2 (rdA (rdG l 2) 3 [])
  | 4 => rdA (rdG l 1) 2 (rdA (rdG l 2) 3 (rdA (rdG l 3) 4 []))
  | _ => []
def nmR (l : List (List UInt8)) (i : Nat) : List V := bif Nat.blt i (rdN l) then strs (dL (rdG l i)) else []
def rdU (l : List (List UInt8)) : V × St := (.slice 0 0 (rdN l) false 0 0, [.row (rdA (rdG l 0) 1 (rdT l)) 24 6, .ro true (strs (dL (rdG l 0))), .ro true (nmR l 1), .ro true (nmR l 2), .ro true (nmR l 3)])
def readU : List V → Option (List (Bool × (V × St)))
  | [.lst _ n cs] => some [(okS n cs && Nat.beq (rdN (cs.map strOfV)) 0, (.nilSlice, [])), (okS n cs, rdU (cs.map strOfV))]
  | _ => none
theorem add_sat {P : Program} {g : FuncId} {args : List V} {v : V} {st : St} {i : Nat} {cs : List V} (hi : st[i]? = some (.ro true cs)) (h : FnSat P g args [] (Is (v, st))) : FnSat P g args [] (Is (v, st ++ [.ro true []])) :=
  weak_sat h fun B W0 w m x hr hx => by
    obtain ⟨e, h2⟩ := add_ro hr hi
    exact ⟨m ++ [e], h2, real_mono (fun b x hb => by rw [List.getElem?_append_left (List.getElem?_eq_some_iff.1 hb).1]; exact hb) v x hx⟩
theorem readU_ok (args : List V) (L : List (Bool × (V × St))) (o : V × St) (h : readU args = some L) (ho : pickO L = some o) : FnSat Tryd.prog 18 args [] (Is o) := by
  unfold readU at h
  split at h
  · rename_i x n cs
    cases h
    cases hk : okS n cs with
    | false => rw [hk] at ho; simp [pickO] at ho
    | true =>
    rw [hk, Bool.true_and] at ho
    have get : ∀ j, rdN (cs.map strOfV) = j → FnSat Tryd.prog 18 [.lst x n cs] [] (Is (rdO (cs.map strOfV) j)) := by
      intro j hj
      refine readT_ok [.lst x n cs] _ _ rfl ?_
      have h4 := (rdN_le (cs.map strOfV)).1
      rw [hk, hj]
      rw [hj] at h4
      match j, h4 with
      | 0, _ | 1, _ | 2, _ | 3, _ | 4, _ => rfl
    have h4 := (rdN_le (cs.map strOfV)).1
    rcases (by omega : rdN (cs.map strOfV) = 0 ∨ rdN (cs.map strOfV) = 1 ∨ rdN (cs.map strOfV) = 2 ∨ rdN (cs.map strOfV) = 3 ∨ rdN (cs.map strOfV) = 4) with hj | hj | hj | hj | hj
    · rw [hj] at ho
      cases ho
      exact get 0 hj
    · rw [hj] at ho
      cases ho
      have := add_sat (i := 1) rfl (add_sat (i := 1) rfl (add_sat (i := 1) rfl (get 1 hj)))
      unfold rdU rdT nmR
      rw [hj]
      exact this
    · rw [hj] at ho
      cases ho
      have := add_sat (i := 1) rfl (add_sat (i := 1) rfl (get 2 hj))
      unfold rdU rdT nmR
      rw [hj]
      exact this
    · rw [hj] at ho
      cases ho
      have := add_sat (i := 1) rfl (get 3 hj)
      unfold rdU rdT nmR
      rw [hj]
      exact this
    · rw [hj] at ho
      cases ho
      have := get 4 hj
      unfold rdU rdT nmR
      rw [hj]
      exact this
  · cases h
def judgeH : List V → St → Option (List (Bool × (V × St)))
  | [p, .str h, .int .i64 now, q], st => match viewS st p, viewS st q with
    | some (b, l), some (c, r) => some [(b && (c && (Nat.ble l.length 9223372036854775807 && Nat.ble r.length 9223372036854775807)), (.int .u8 (judgeC h now r (readC l)), st))]
    | _, _ => none
  | _, _ => none
theorem judgeH_ok (args : List V) (s : St) (l : List (Bool × (V × St))) (o : V × St) (h : judgeH args s = some l) (ho : pickO l = some o) : FnSat Tryd.prog 17 args s (Is o) := by
  unfold judgeH at h
  split at h
  · rename_i p hh now q
    split at h
    · rename_i b l c r hv hw
      cases h
      refine judgeG_ok [p, .str hh, .int .i64 now, q] s _ o rfl ?_
      unfold jOK jV
      rw [hv, hw]
      exact ho
    · cases h
  · cases h
/-- Anchored, of whatever lists: whether they are known, what it comes to. -/
def aOK (p q : V) (st : St) : Bool := match viewR st p, viewS st q with
  | some (b, l), some (b', an) => b && (b' && (Nat.ble l.length 9223372036854775807 && Nat.ble an.length 9223372036854775807))
  | _, _ => false
def aV (p : V) (now : Int) (q : V) (st : St) : Bool := match viewR st p, viewS st q with
  | some (_, l), some (_, an) => anchP now an none l
  | _, _ => false
def anGV (OK : V → V → St → Bool) (AV : V → Int → V → St → Bool) : List V → St → Option (List (Bool × (V × St)))
  | [p, .int .i64 now, q], st => some [(OK p q st, (.bool (AV p now q st), st))]
  | _, _ => none
theorem anGV_ok (args : List V) (s : St) (l : List (Bool × (V × St))) (o : V × St) (h : anGV aOK aV args s = some l) (ho : pickO l = some o) : FnSat Tryd.prog 21 args s (Is o) := by
  unfold anGV at h
  split at h
  · rename_i p now q
    cases h
    unfold aOK aV at ho
    cases hv : viewR s p with
    | none => rw [hv] at ho; simp [pickO] at ho
    | some a =>
      cases hw : viewS s q with
      | none => rw [hv, hw] at ho; simp [pickO] at ho
      | some c =>
        rw [hv, hw] at ho
        exact anG_ok [p, .int .i64 now, q] s _ o (by simp only [anG, hv, hw]) ho
  · cases h
noncomputable def TR (AOK : V → V → St → Bool) (AV : V → Int → V → St → Bool) : Tab := ⟨addT (addP noT 16 awakeF) 18 readU, addS (addS (addS (addS (addS noL 15 (loGV loOK loB)) 17 judgeH) 19 datesG) 20 hostG) 21 (anGV AOK AV), noLks 9⟩
theorem TR_ok : TabOk3 Tryd.prog (TR aOK aV) := ⟨addT_ok (addP_ok noT_ok awakeF_ok) readU_ok, addS_ok (addS_ok (addS_ok (addS_ok (addS_ok noL_ok loG_ok) judgeH_ok) datesG_ok) hostG_ok) anGV_ok, noLks_ok 9⟩
theorem right_law (AOK : V → V → St → Bool) (AV : V → Int → V → St → Bool) (x : Value) (n : Nat) (cs : List V) (h : List UInt8) (now : Int) (y : Value) (m : Nat) (ds : List V) (z : Value) (k : Nat) (es : List V) (u : Value) (j : Nat) (fs : List V) (R : V → Prop) : runW Tryd.prog (TR AOK AV) 9 10 4 [.lst x n cs, .str h, .int .i64 now, .lst y m ds, .lst z k es, .lst u j fs] R =
   (
 bif loOK (V.lst x n cs) [] then bif loB (V.lst x n cs) [] then R (V.bool true) else bif loOK (V.lst y m ds) [] then bif loB (V.lst y m ds) [] then R (V.bool true) else
 bif loOK (V.lst z k es) [] then bif loB (V.lst z k es) [] then R (V.bool true) else bif loOK (V.lst u j fs) [] then bif loB (V.lst u j fs) [] then R (V.bool true) else
 bif decide ((↑h.length : Int) > 3000) then R (V.bool true) else bif cs.length.beq (n * 1) && (cs.all isStrV && cs.length.beq n) && (ds.length.beq (m * 1) && (ds.all
 isStrV && ds.length.beq m) && ((cc cs).length.ble 9223372036854775807 && (List.map strOfV ds).length.ble 9223372036854775807)) then bif okS n cs && (rdN (cc cs)).beq 0
 then bif !(judgeC h now (List.map strOfV ds) (readC (cc cs)) == 0) == false then R (V.bool false) else bif decide (judgeC h now (List.map strOfV ds) (readC (cc cs)) > 3)
 then R (V.bool false) else R (V.bool true) else bif okS n cs then bif decide ((↑(rdN (cc cs)) : Int) > 0) then bif true && decide (0 < (↑(rdN (cc cs)) : Int)) then bif
 (dN (rdG (cc cs) 0) * 1).ble (strs (dL (rdG (cc cs) 0))).length && ((List.take (dN (rdG (cc cs) 0) * 1) (strs (dL (rdG (cc cs) 0)))).all isStrV && (List.take (dN (rdG (cc
 cs) 0) * 1) (strs (dL (rdG (cc cs) 0)))).length.beq (dN (rdG (cc cs) 0))) then bif datesB (dF (rdG (cc cs) 0)) (dU (rdG (cc cs) 0)) now then bif true && decide (0 <
 (↑(rdN (cc cs)) : Int)) then bif (dN (rdG (cc cs) 0) * 1).ble (strs (dL (rdG (cc cs) 0))).length && ((List.take (dN (rdG (cc cs) 0) * 1) (strs (dL (rdG (cc cs) 0)))).all
 isStrV && (List.take (dN (rdG (cc cs) 0) * 1) (strs (dL (rdG (cc cs) 0)))).length.beq (dN (rdG (cc cs) 0))) && (List.map strOfV (List.take (dN (rdG (cc cs) 0) * 1) (strs
 (dL (rdG (cc cs) 0))))).length.ble 9223372036854775807 then bif hasH (List.map strOfV (List.take (dN (rdG (cc cs) 0) * 1) (strs (dL (rdG (cc cs) 0))))) h then bif AOK
 (V.slice 0 0 (rdN (cc cs)) false 0 0) (V.lst y m ds) [Blk.row (V.str (dK (rdG (cc cs) 0)) :: V.str (dG (rdG (cc cs) 0)) :: V.nos 1 (dN (rdG (cc cs) 0)) :: V.int
 IntKind.i64 (dF (rdG (cc cs) 0)) :: V.int IntKind.i64 (dU (rdG (cc cs) 0)) :: V.bool (dCa (rdG (cc cs) 0)) :: rdT (cc cs)) 24 6, Blk.ro true (strs (dL (rdG (cc cs) 0))),
 Blk.ro true (nmR (cc cs) 1), Blk.ro true (nmR (cc cs) 2), Blk.ro true (nmR (cc cs) 3)] then bif !(judgeC h now (List.map strOfV ds) (readC (cc cs)) == 0) == AV (V.slice 0
 0 (rdN (cc cs)) false 0 0) now (V.lst y m ds) [Blk.row (V.str (dK (rdG (cc cs) 0)) :: V.str (dG (rdG (cc cs) 0)) :: V.nos 1 (dN (rdG (cc cs) 0)) :: V.int IntKind.i64 (dF
 (rdG (cc cs) 0)) :: V.int IntKind.i64 (dU (rdG (cc cs) 0)) :: V.bool (dCa (rdG (cc cs) 0)) :: rdT (cc cs)) 24 6, Blk.ro true (strs (dL (rdG (cc cs) 0))), Blk.ro true (nmR
 (cc cs) 1), Blk.ro true (nmR (cc cs) 2), Blk.ro true (nmR (cc cs) 3)] then R (V.bool false) else bif decide (judgeC h now (List.map strOfV ds) (readC (cc cs)) > 3) then R
 (V.bool false) else bif decide ((↑(rdN (cc cs)) : Int) > 0) then bif true && decide (0 < (↑(rdN (cc cs)) : Int)) then bif (dN (rdG (cc cs) 0) * 1).ble (strs (dL (rdG (cc
 cs) 0))).length && ((List.take (dN (rdG (cc cs) 0) * 1) (strs (dL (rdG (cc cs) 0)))).all isStrV && (List.take (dN (rdG (cc cs) 0) * 1) (strs (dL (rdG (cc cs)
 0)))).length.beq (dN (rdG (cc cs) 0))) then bif (judgeC h now (List.map strOfV ds) (readC (cc cs)) == 1) == datesB (dF (rdG (cc cs) 0)) (dU (rdG (cc cs) 0)) now then R
 (V.bool false) else bif !AV (V.slice 0 0 (rdN (cc cs)) false 0 0) now (V.lst y m ds) [Blk.row (V.str (dK (rdG (cc cs) 0)) :: V.str (dG (rdG (cc cs) 0)) :: V.nos 1 (dN
 (rdG (cc cs) 0)) :: V.int IntKind.i64 (dF (rdG (cc cs) 0)) :: V.int IntKind.i64 (dU (rdG (cc cs) 0)) :: V.bool (dCa (rdG (cc cs) 0)) :: rdT (cc cs)) 24 6, Blk.ro true
 (strs (dL (rdG (cc cs) 0))), Blk.ro true (nmR (cc cs) 1), Blk.ro true (nmR (cc cs) 2), Blk.ro true (nmR (cc cs) 3)] then R (V.bool true) else bif k.beq 0 then bif m.beq 0
 then bif n.beq 0 then bif j.beq 0 then bif cs.length.beq (n * 1) && (cs.all isStrV && cs.length.beq n) && (true && ((cc cs).length.ble 9223372036854775807 && true)) then
 bif judgeC h now [] (readC (cc cs)) == 0 then bif true && (ds.length.beq (m * 1) && (ds.all isStrV && ds.length.beq m) && (true && (List.map strOfV ds).length.ble
 9223372036854775807)) then R (V.bool false) else False else R (V.bool false) else False else bif fs.length.beq (j * 1) && fs.all V.one then bif (0 + j).ble
 9223372036854775807 && ((0 + j) * 16).ble 140737488355328 then bif cs.length.beq (n * 1) && (cs.all isStrV && cs.length.beq n) && (true && ((cc cs).length.ble
 9223372036854775807 && true)) then bif judgeC h now [] (readC (cc cs)) == 0 then bif (0 + (0 + j) * 1).ble fs.length && ((List.take ((0 + j) * 1) fs).all isStrV &&
 (List.take ((0 + j) * 1) fs).length.beq (0 + j)) && (ds.length.beq (m * 1) && (ds.all isStrV && ds.length.beq m) && ((List.map strOfV (List.take ((0 + j) * 1)
 fs)).length.ble 9223372036854775807 && (List.map strOfV ds).length.ble 9223372036854775807)) then bif judgeC h now (List.map strOfV ds) (readC (List.map strOfV (List.take
 ((0 + j) * 1) fs))) == 0 then bif AOK (V.slice 0 0 (rdN (cc cs)) false 0 0) (V.slice 5 0 0 false 0 0) [Blk.row (V.str (dK (rdG (cc cs) 0)) :: V.str (dG (rdG (cc cs) 0))
 :: V.nos 1 (dN (rdG (cc cs) 0)) :: V.int IntKind.i64 (dF (rdG (cc cs) 0)) :: V.int IntKind.i64 (dU (rdG (cc cs) 0)) :: V.bool (dCa (rdG (cc cs) 0)) :: rdT (cc cs)) 24 6,
 Blk.ro true (strs (dL (rdG (cc cs) 0))), Blk.ro true (nmR (cc cs) 1), Blk.ro true (nmR (cc cs) 2), Blk.ro true (nmR (cc cs) 3), Blk.row [] 9 1, Blk.dead, Blk.row fs 9 1]
 then R (V.bool (AV (V.slice 0 0 (rdN (cc cs)) false 0 0) now (V.slice 5 0 0 false 0 0) [Blk.row (V.str (dK (rdG (cc cs) 0)) :: V.str (dG (rdG (cc cs) 0)) :: V.nos 1 (dN
 (rdG (cc cs) 0)) :: V.int IntKind.i64 (dF (rdG (cc cs) 0)) :: V.int IntKind.i64 (dU (rdG (cc cs) 0)) :: V.bool (dCa (rdG (cc cs) 0)) :: rdT (cc cs)) 24 6, Blk.ro true
 (strs (dL (rdG (cc cs) 0))), Blk.ro true (nmR (cc cs) 1), Blk.ro true (nmR (cc cs) 2), Blk.ro true (nmR (cc cs) 3), Blk.row [] 9 1, Blk.dead, Blk.row fs 9 1])) else False
 else R (V.bool false) else False else R (V.bool false) else False else False else False else bif cs.length.beq (n * 1) && cs.all V.one then bif (0 + n).ble
 9223372036854775807 && ((0 + n) * 16).ble 140737488355328 then bif j.beq 0 then bif cs.length.beq (n * 1) && (cs.all isStrV && cs.length.beq n) && (true && ((cc
 cs).length.ble 9223372036854775807 && true)) then bif judgeC h now [] (readC (cc cs)) == 0 then bif (0 + (0 + n) * 1).ble cs.length && ((List.take ((0 + n) * 1) cs).all
 isStrV && (List.take ((0 + n) * 1) cs).length.beq (0 + n)) && (ds.length.beq (m * 1) && (ds.all isStrV && ds.length.beq m) && ((List.map strOfV (List.take ((0 + n) * 1)
 cs)).length.ble 9223372036854775807 && (List.map strOfV ds).length.ble 9223372036854775807)) then bif judgeC h now (List.map strOfV ds) (readC (List.map strOfV (List.take
 ((0 + n) * 1) cs))) == 0 then bif AOK (V.slice 0 0 (rdN (cc cs)) false 0 0) (V.slice 5 0 0 false 0 0) [Blk.row (V.str (dK (rdG (cc cs) 0)) :: V.str (dG (rdG (cc cs) 0))
 :: V.nos 1 (dN (rdG (cc cs) 0)) :: V.int IntKind.i64 (dF (rdG (cc cs) 0)) :: V.int IntKind.i64 (dU (rdG (cc cs) 0)) :: V.bool (dCa (rdG (cc cs) 0)) :: rdT (cc cs)) 24 6,
 Blk.ro true (strs (dL (rdG (cc cs) 0))), Blk.ro true (nmR (cc cs) 1), Blk.ro true (nmR (cc cs) 2), Blk.ro true (nmR (cc cs) 3), Blk.row [] 9 1, Blk.dead, Blk.row cs 9 1]
 then R (V.bool (AV (V.slice 0 0 (rdN (cc cs)) false 0 0) now (V.slice 5 0 0 false 0 0) [Blk.row (V.str (dK (rdG (cc cs) 0)) :: V.str (dG (rdG (cc cs) 0)) :: V.nos 1 (dN
 (rdG (cc cs) 0)) :: V.int IntKind.i64 (dF (rdG (cc cs) 0)) :: V.int IntKind.i64 (dU (rdG (cc cs) 0)) :: V.bool (dCa (rdG (cc cs) 0)) :: rdT (cc cs)) 24 6, Blk.ro true
 (strs (dL (rdG (cc cs) 0))), Blk.ro true (nmR (cc cs) 1), Blk.ro true (nmR (cc cs) 2), Blk.ro true (nmR (cc cs) 3), Blk.row [] 9 1, Blk.dead, Blk.row cs 9 1])) else False
 else R (V.bool false) else False else R (V.bool false) else False else bif fs.length.beq (j * 1) && fs.all V.one then bif cs.length.beq ((0 + n) * 1) then bif (0 + n +
 j).ble 9223372036854775807 && ((0 + n + j) * 16).ble 140737488355328 then bif cs.length.beq (n * 1) && (cs.all isStrV && cs.length.beq n) && (true && ((cc cs).length.ble
 9223372036854775807 && true)) then bif judgeC h now [] (readC (cc cs)) == 0 then bif (0 + (0 + n + j) * 1).ble (cs ++ fs).length && ((List.take ((0 + n + j) * 1)
 (List.drop 0 (cs ++ fs))).all isStrV && (List.take ((0 + n + j) * 1) (List.drop 0 (cs ++ fs))).length.beq (0 + n + j)) && (ds.length.beq (m * 1) && (ds.all isStrV &&
 ds.length.beq m) && ((List.map strOfV (List.take ((0 + n + j) * 1) (List.drop 0 (cs ++ fs)))).length.ble 9223372036854775807 && (List.map strOfV ds).length.ble
 9223372036854775807)) then bif judgeC h now (List.map strOfV ds) (readC (List.map strOfV (List.take ((0 + n + j) * 1) (List.drop 0 (cs ++ fs))))) == 0 then bif AOK
 (V.slice 0 0 (rdN (cc cs)) false 0 0) (V.slice 5 0 0 false 0 0) [Blk.row (V.str (dK (rdG (cc cs) 0)) :: V.str (dG (rdG (cc cs) 0)) :: V.nos 1 (dN (rdG (cc cs) 0)) ::
 V.int IntKind.i64 (dF (rdG (cc cs) 0)) :: V.int IntKind.i64 (dU (rdG (cc cs) 0)) :: V.bool (dCa (rdG (cc cs) 0)) :: rdT (cc cs)) 24 6, Blk.ro true (strs (dL (rdG (cc cs)
 0))), Blk.ro true (nmR (cc cs) 1), Blk.ro true (nmR (cc cs) 2), Blk.ro true (nmR (cc cs) 3), Blk.row [] 9 1, Blk.dead, Blk.dead, Blk.row (cs ++ fs) 9 1] then R (V.bool
 (AV (V.slice 0 0 (rdN (cc cs)) false 0 0) now (V.slice 5 0 0 false 0 0) [Blk.row (V.str (dK (rdG (cc cs) 0)) :: V.str (dG (rdG (cc cs) 0)) :: V.nos 1 (dN (rdG (cc cs) 0))
 :: V.int IntKind.i64 (dF (rdG (cc cs) 0)) :: V.int IntKind.i64 (dU (rdG (cc cs) 0)) :: V.bool (dCa (rdG (cc cs) 0)) :: rdT (cc cs)) 24 6, Blk.ro true (strs (dL (rdG (cc
 cs) 0))), Blk.ro true (nmR (cc cs) 1), Blk.ro true (nmR (cc cs) 2), Blk.ro true (nmR (cc cs) 3), Blk.row [] 9 1, Blk.dead, Blk.dead, Blk.row (cs ++ fs) 9 1])) else False
 else R (V.bool false) else False else R (V.bool false) else False else False else False else False else False else False else bif ds.length.beq (m * 1) && ds.all V.one
 then bif (0 + m).ble 9223372036854775807 && ((0 + m) * 16).ble 140737488355328 then bif n.beq 0 then bif j.beq 0 then bif cs.length.beq (n * 1) && (cs.all isStrV &&
 cs.length.beq n) && ((0 + (0 + m) * 1).ble ds.length && ((List.take ((0 + m) * 1) ds).all isStrV && (List.take ((0 + m) * 1) ds).length.beq (0 + m)) && ((cc
 cs).length.ble 9223372036854775807 && (List.map strOfV (List.take ((0 + m) * 1) ds)).length.ble 9223372036854775807)) then bif judgeC h now (List.map strOfV (List.take
 ((0 + m) * 1) ds)) (readC (cc cs)) == 0 then bif true && (ds.length.beq (m * 1) && (ds.all isStrV && ds.length.beq m) && (true && (List.map strOfV ds).length.ble
 9223372036854775807)) then R (V.bool false) else False else R (V.bool false) else False else bif fs.length.beq (j * 1) && fs.all V.one then bif (0 + j).ble
 9223372036854775807 && ((0 + j) * 16).ble 140737488355328 then bif cs.length.beq (n * 1) && (cs.all isStrV && cs.length.beq n) && ((0 + (0 + m) * 1).ble ds.length &&
 ((List.take ((0 + m) * 1) ds).all isStrV && (List.take ((0 + m) * 1) ds).length.beq (0 + m)) && ((cc cs).length.ble 9223372036854775807 && (List.map strOfV (List.take ((0
 + m) * 1) ds)).length.ble 9223372036854775807)) then bif judgeC h now (List.map strOfV (List.take ((0 + m) * 1) ds)) (readC (cc cs)) == 0 then bif (0 + (0 + j) * 1).ble
 fs.length && ((List.take ((0 + j) * 1) fs).all isStrV && (List.take ((0 + j) * 1) fs).length.beq (0 + j)) && (ds.length.beq (m * 1) && (ds.all isStrV && ds.length.beq m)
 && ((List.map strOfV (List.take ((0 + j) * 1) fs)).length.ble 9223372036854775807 && (List.map strOfV ds).length.ble 9223372036854775807)) then bif judgeC h now (List.map
 strOfV ds) (readC (List.map strOfV (List.take ((0 + j) * 1) fs))) == 0 then bif AOK (V.slice 0 0 (rdN (cc cs)) false 0 0) (V.slice 6 0 (0 + m) false 0 0) [Blk.row (V.str
 (dK (rdG (cc cs) 0)) :: V.str (dG (rdG (cc cs) 0)) :: V.nos 1 (dN (rdG (cc cs) 0)) :: V.int IntKind.i64 (dF (rdG (cc cs) 0)) :: V.int IntKind.i64 (dU (rdG (cc cs) 0)) ::
 V.bool (dCa (rdG (cc cs) 0)) :: rdT (cc cs)) 24 6, Blk.ro true (strs (dL (rdG (cc cs) 0))), Blk.ro true (nmR (cc cs) 1), Blk.ro true (nmR (cc cs) 2), Blk.ro true (nmR (cc
 cs) 3), Blk.dead, Blk.row ds 9 1, Blk.dead, Blk.row fs 9 1] then R (V.bool (AV (V.slice 0 0 (rdN (cc cs)) false 0 0) now (V.slice 6 0 (0 + m) false 0 0) [Blk.row (V.str
 (dK (rdG (cc cs) 0)) :: V.str (dG (rdG (cc cs) 0)) :: V.nos 1 (dN (rdG (cc cs) 0)) :: V.int IntKind.i64 (dF (rdG (cc cs) 0)) :: V.int IntKind.i64 (dU (rdG (cc cs) 0)) ::
 V.bool (dCa (rdG (cc cs) 0)) :: rdT (cc cs)) 24 6, Blk.ro true (strs (dL (rdG (cc cs) 0))), Blk.ro true (nmR (cc cs) 1), Blk.ro true (nmR (cc cs) 2), Blk.ro true (nmR (cc
 cs) 3), Blk.dead, Blk.row ds 9 1, Blk.dead, Blk.row fs 9 1])) else False else R (V.bool false) else False else R (V.bool false) else False else False else False else bif
 cs.length.beq (n * 1) && cs.all V.one then bif (0 + n).ble 9223372036854775807 && ((0 + n) * 16).ble 140737488355328 then bif j.beq 0 then bif cs.length.beq (n * 1) &&
 (cs.all isStrV && cs.length.beq n) && ((0 + (0 + m) * 1).ble ds.length && ((List.take ((0 + m) * 1) ds).all isStrV && (List.take ((0 + m) * 1) ds).length.beq (0 + m)) &&
 ((cc cs).length.ble 9223372036854775807 && (List.map strOfV (List.take ((0 + m) * 1) ds)).length.ble 9223372036854775807)) then bif judgeC h now (List.map strOfV
 (List.take ((0 + m) * 1) ds)) (readC (cc cs)) == 0 then bif (0 + (0 + n) * 1).ble cs.length && ((List.take ((0 + n) * 1) cs).all isStrV && (List.take ((0 + n) * 1)
 cs).length.beq (0 + n)) && (ds.length.beq (m * 1) && (ds.all isStrV && ds.length.beq m) && ((List.map strOfV (List.take ((0 + n) * 1) cs)).length.ble 9223372036854775807
 && (List.map strOfV ds).length.ble 9223372036854775807)) then bif judgeC h now (List.map strOfV ds) (readC (List.map strOfV (List.take ((0 + n) * 1) cs))) == 0 then bif
 AOK (V.slice 0 0 (rdN (cc cs)) false 0 0) (V.slice 6 0 (0 + m) false 0 0) [Blk.row (V.str (dK (rdG (cc cs) 0)) :: V.str (dG (rdG (cc cs) 0)) :: V.nos 1 (dN (rdG (cc cs)
 0)) :: V.int IntKind.i64 (dF (rdG (cc cs) 0)) :: V.int IntKind.i64 (dU (rdG (cc cs) 0)) :: V.bool (dCa (rdG (cc cs) 0)) :: rdT (cc cs)) 24 6, Blk.ro true (strs (dL (rdG
 (cc cs) 0))), Blk.ro true (nmR (cc cs) 1), Blk.ro true (nmR (cc cs) 2), Blk.ro true (nmR (cc cs) 3), Blk.dead, Blk.row ds 9 1, Blk.dead, Blk.row cs 9 1] then R (V.bool
 (AV (V.slice 0 0 (rdN (cc cs)) false 0 0) now (V.slice 6 0 (0 + m) false 0 0) [Blk.row (V.str (dK (rdG (cc cs) 0)) :: V.str (dG (rdG (cc cs) 0)) :: V.nos 1 (dN (rdG (cc
 cs) 0)) :: V.int IntKind.i64 (dF (rdG (cc cs) 0)) :: V.int IntKind.i64 (dU (rdG (cc cs) 0)) :: V.bool (dCa (rdG (cc cs) 0)) :: rdT (cc cs)) 24 6, Blk.ro true (strs (dL
 (rdG (cc cs) 0))), Blk.ro true (nmR (cc cs) 1), Blk.ro true (nmR (cc cs) 2), Blk.ro true (nmR (cc cs) 3), Blk.dead, Blk.row ds 9 1, Blk.dead, Blk.row cs 9 1])) else False
 else R (V.bool false) else False else R (V.bool false) else False else bif fs.length.beq (j * 1) && fs.all V.one then bif cs.length.beq ((0 + n) * 1) then bif (0 + n +
 j).ble 9223372036854775807 && ((0 + n + j) * 16).ble 140737488355328 then bif cs.length.beq (n * 1) && (cs.all isStrV && cs.length.beq n) && ((0 + (0 + m) * 1).ble
 ds.length && ((List.take ((0 + m) * 1) ds).all isStrV && (List.take ((0 + m) * 1) ds).length.beq (0 + m)) && ((cc cs).length.ble 9223372036854775807 && (List.map strOfV
 (List.take ((0 + m) * 1) ds)).length.ble 9223372036854775807)) then bif judgeC h now (List.map strOfV (List.take ((0 + m) * 1) ds)) (readC (cc cs)) == 0 then bif (0 + (0
 + n + j) * 1).ble (cs ++ fs).length && ((List.take ((0 + n + j) * 1) (List.drop 0 (cs ++ fs))).all isStrV && (List.take ((0 + n + j) * 1) (List.drop 0 (cs ++
 fs))).length.beq (0 + n + j)) && (ds.length.beq (m * 1) && (ds.all isStrV && ds.length.beq m) && ((List.map strOfV (List.take ((0 + n + j) * 1) (List.drop 0 (cs ++
 fs)))).length.ble 9223372036854775807 && (List.map strOfV ds).length.ble 9223372036854775807)) then bif judgeC h now (List.map strOfV ds) (readC (List.map strOfV
 (List.take ((0 + n + j) * 1) (List.drop 0 (cs ++ fs))))) == 0 then bif AOK (V.slice 0 0 (rdN (cc cs)) false 0 0) (V.slice 6 0 (0 + m) false 0 0) [Blk.row (V.str (dK (rdG
 (cc cs) 0)) :: V.str (dG (rdG (cc cs) 0)) :: V.nos 1 (dN (rdG (cc cs) 0)) :: V.int IntKind.i64 (dF (rdG (cc cs) 0)) :: V.int IntKind.i64 (dU (rdG (cc cs) 0)) :: V.bool
 (dCa (rdG (cc cs) 0)) :: rdT (cc cs)) 24 6, Blk.ro true (strs (dL (rdG (cc cs) 0))), Blk.ro true (nmR (cc cs) 1), Blk.ro true (nmR (cc cs) 2), Blk.ro true (nmR (cc cs)
 3), Blk.dead, Blk.row ds 9 1, Blk.dead, Blk.dead, Blk.row (cs ++ fs) 9 1] then R (V.bool (AV (V.slice 0 0 (rdN (cc cs)) false 0 0) now (V.slice 6 0 (0 + m) false 0 0)
 [Blk.row (V.str (dK (rdG (cc cs) 0)) :: V.str (dG (rdG (cc cs) 0)) :: V.nos 1 (dN (rdG (cc cs) 0)) :: V.int IntKind.i64 (dF (rdG (cc cs) 0)) :: V.int IntKind.i64 (dU (rdG
 (cc cs) 0)) :: V.bool (dCa (rdG (cc cs) 0)) :: rdT (cc cs)) 24 6, Blk.ro true (strs (dL (rdG (cc cs) 0))), Blk.ro true (nmR (cc cs) 1), Blk.ro true (nmR (cc cs) 2),
 Blk.ro true (nmR (cc cs) 3), Blk.dead, Blk.row ds 9 1, Blk.dead, Blk.dead, Blk.row (cs ++ fs) 9 1])) else False else R (V.bool false) else False else R (V.bool false)
 else False else False else False else False else False else False else False else False else bif es.length.beq (k * 1) && es.all V.one then bif (0 + k).ble
 9223372036854775807 && ((0 + k) * 16).ble 140737488355328 then bif m.beq 0 then bif n.beq 0 then bif j.beq 0 then bif cs.length.beq (n * 1) && (cs.all isStrV &&
 cs.length.beq n) && ((0 + (0 + k) * 1).ble es.length && ((List.take ((0 + k) * 1) es).all isStrV && (List.take ((0 + k) * 1) es).length.beq (0 + k)) && ((cc
 cs).length.ble 9223372036854775807 && (List.map strOfV (List.take ((0 + k) * 1) es)).length.ble 9223372036854775807)) then bif judgeC h now (List.map strOfV (List.take
 ((0 + k) * 1) es)) (readC (cc cs)) == 0 then bif true && (ds.length.beq (m * 1) && (ds.all isStrV && ds.length.beq m) && (true && (List.map strOfV ds).length.ble
 9223372036854775807)) then R (V.bool false) else False else R (V.bool false) else False else bif fs.length.beq (j * 1) && fs.all V.one then bif (0 + j).ble
 9223372036854775807 && ((0 + j) * 16).ble 140737488355328 then bif cs.length.beq (n * 1) && (cs.all isStrV && cs.length.beq n) && ((0 + (0 + k) * 1).ble es.length &&
 ((List.take ((0 + k) * 1) es).all isStrV && (List.take ((0 + k) * 1) es).length.beq (0 + k)) && ((cc cs).length.ble 9223372036854775807 && (List.map strOfV (List.take ((0
 + k) * 1) es)).length.ble 9223372036854775807)) then bif judgeC h now (List.map strOfV (List.take ((0 + k) * 1) es)) (readC (cc cs)) == 0 then bif (0 + (0 + j) * 1).ble
 fs.length && ((List.take ((0 + j) * 1) fs).all isStrV && (List.take ((0 + j) * 1) fs).length.beq (0 + j)) && (ds.length.beq (m * 1) && (ds.all isStrV && ds.length.beq m)
 && ((List.map strOfV (List.take ((0 + j) * 1) fs)).length.ble 9223372036854775807 && (List.map strOfV ds).length.ble 9223372036854775807)) then bif judgeC h now (List.map
 strOfV ds) (readC (List.map strOfV (List.take ((0 + j) * 1) fs))) == 0 then bif AOK (V.slice 0 0 (rdN (cc cs)) false 0 0) (V.slice 6 0 (0 + k) false 0 0) [Blk.row (V.str
 (dK (rdG (cc cs) 0)) :: V.str (dG (rdG (cc cs) 0)) :: V.nos 1 (dN (rdG (cc cs) 0)) :: V.int IntKind.i64 (dF (rdG (cc cs) 0)) :: V.int IntKind.i64 (dU (rdG (cc cs) 0)) ::
 V.bool (dCa (rdG (cc cs) 0)) :: rdT (cc cs)) 24 6, Blk.ro true (strs (dL (rdG (cc cs) 0))), Blk.ro true (nmR (cc cs) 1), Blk.ro true (nmR (cc cs) 2), Blk.ro true (nmR (cc
 cs) 3), Blk.dead, Blk.row es 9 1, Blk.dead, Blk.row fs 9 1] then R (V.bool (AV (V.slice 0 0 (rdN (cc cs)) false 0 0) now (V.slice 6 0 (0 + k) false 0 0) [Blk.row (V.str
 (dK (rdG (cc cs) 0)) :: V.str (dG (rdG (cc cs) 0)) :: V.nos 1 (dN (rdG (cc cs) 0)) :: V.int IntKind.i64 (dF (rdG (cc cs) 0)) :: V.int IntKind.i64 (dU (rdG (cc cs) 0)) ::
 V.bool (dCa (rdG (cc cs) 0)) :: rdT (cc cs)) 24 6, Blk.ro true (strs (dL (rdG (cc cs) 0))), Blk.ro true (nmR (cc cs) 1), Blk.ro true (nmR (cc cs) 2), Blk.ro true (nmR (cc
 cs) 3), Blk.dead, Blk.row es 9 1, Blk.dead, Blk.row fs 9 1])) else False else R (V.bool false) else False else R (V.bool false) else False else False else False else bif
 cs.length.beq (n * 1) && cs.all V.one then bif (0 + n).ble 9223372036854775807 && ((0 + n) * 16).ble 140737488355328 then bif j.beq 0 then bif cs.length.beq (n * 1) &&
 (cs.all isStrV && cs.length.beq n) && ((0 + (0 + k) * 1).ble es.length && ((List.take ((0 + k) * 1) es).all isStrV && (List.take ((0 + k) * 1) es).length.beq (0 + k)) &&
 ((cc cs).length.ble 9223372036854775807 && (List.map strOfV (List.take ((0 + k) * 1) es)).length.ble 9223372036854775807)) then bif judgeC h now (List.map strOfV
 (List.take ((0 + k) * 1) es)) (readC (cc cs)) == 0 then bif (0 + (0 + n) * 1).ble cs.length && ((List.take ((0 + n) * 1) cs).all isStrV && (List.take ((0 + n) * 1)
 cs).length.beq (0 + n)) && (ds.length.beq (m * 1) && (ds.all isStrV && ds.length.beq m) && ((List.map strOfV (List.take ((0 + n) * 1) cs)).length.ble 9223372036854775807
 && (List.map strOfV ds).length.ble 9223372036854775807)) then bif judgeC h now (List.map strOfV ds) (readC (List.map strOfV (List.take ((0 + n) * 1) cs))) == 0 then bif
 AOK (V.slice 0 0 (rdN (cc cs)) false 0 0) (V.slice 6 0 (0 + k) false 0 0) [Blk.row (V.str (dK (rdG (cc cs) 0)) :: V.str (dG (rdG (cc cs) 0)) :: V.nos 1 (dN (rdG (cc cs)
 0)) :: V.int IntKind.i64 (dF (rdG (cc cs) 0)) :: V.int IntKind.i64 (dU (rdG (cc cs) 0)) :: V.bool (dCa (rdG (cc cs) 0)) :: rdT (cc cs)) 24 6, Blk.ro true (strs (dL (rdG
 (cc cs) 0))), Blk.ro true (nmR (cc cs) 1), Blk.ro true (nmR (cc cs) 2), Blk.ro true (nmR (cc cs) 3), Blk.dead, Blk.row es 9 1, Blk.dead, Blk.row cs 9 1] then R (V.bool
 (AV (V.slice 0 0 (rdN (cc cs)) false 0 0) now (V.slice 6 0 (0 + k) false 0 0) [Blk.row (V.str (dK (rdG (cc cs) 0)) :: V.str (dG (rdG (cc cs) 0)) :: V.nos 1 (dN (rdG (cc
 cs) 0)) :: V.int IntKind.i64 (dF (rdG (cc cs) 0)) :: V.int IntKind.i64 (dU (rdG (cc cs) 0)) :: V.bool (dCa (rdG (cc cs) 0)) :: rdT (cc cs)) 24 6, Blk.ro true (strs (dL
 (rdG (cc cs) 0))), Blk.ro true (nmR (cc cs) 1), Blk.ro true (nmR (cc cs) 2), Blk.ro true (nmR (cc cs) 3), Blk.dead, Blk.row es 9 1, Blk.dead, Blk.row cs 9 1])) else False
 else R (V.bool false) else False else R (V.bool false) else False else bif fs.length.beq (j * 1) && fs.all V.one then bif cs.length.beq ((0 + n) * 1) then bif (0 + n +
 j).ble 9223372036854775807 && ((0 + n + j) * 16).ble 140737488355328 then bif cs.length.beq (n * 1) && (cs.all isStrV && cs.length.beq n) && ((0 + (0 + k) * 1).ble
 es.length && ((List.take ((0 + k) * 1) es).all isStrV && (List.take ((0 + k) * 1) es).length.beq (0 + k)) && ((cc cs).length.ble 9223372036854775807 && (List.map strOfV
 (List.take ((0 + k) * 1) es)).length.ble 9223372036854775807)) then bif judgeC h now (List.map strOfV (List.take ((0 + k) * 1) es)) (readC (cc cs)) == 0 then bif (0 + (0
 + n + j) * 1).ble (cs ++ fs).length && ((List.take ((0 + n + j) * 1) (List.drop 0 (cs ++ fs))).all isStrV && (List.take ((0 + n + j) * 1) (List.drop 0 (cs ++
 fs))).length.beq (0 + n + j)) && (ds.length.beq (m * 1) && (ds.all isStrV && ds.length.beq m) && ((List.map strOfV (List.take ((0 + n + j) * 1) (List.drop 0 (cs ++
 fs)))).length.ble 9223372036854775807 && (List.map strOfV ds).length.ble 9223372036854775807)) then bif judgeC h now (List.map strOfV ds) (readC (List.map strOfV
 (List.take ((0 + n + j) * 1) (List.drop 0 (cs ++ fs))))) == 0 then bif AOK (V.slice 0 0 (rdN (cc cs)) false 0 0) (V.slice 6 0 (0 + k) false 0 0) [Blk.row (V.str (dK (rdG
 (cc cs) 0)) :: V.str (dG (rdG (cc cs) 0)) :: V.nos 1 (dN (rdG (cc cs) 0)) :: V.int IntKind.i64 (dF (rdG (cc cs) 0)) :: V.int IntKind.i64 (dU (rdG (cc cs) 0)) :: V.bool
 (dCa (rdG (cc cs) 0)) :: rdT (cc cs)) 24 6, Blk.ro true (strs (dL (rdG (cc cs) 0))), Blk.ro true (nmR (cc cs) 1), Blk.ro true (nmR (cc cs) 2), Blk.ro true (nmR (cc cs)
 3), Blk.dead, Blk.row es 9 1, Blk.dead, Blk.dead, Blk.row (cs ++ fs) 9 1] then R (V.bool (AV (V.slice 0 0 (rdN (cc cs)) false 0 0) now (V.slice 6 0 (0 + k) false 0 0)
 [Blk.row (V.str (dK (rdG (cc cs) 0)) :: V.str (dG (rdG (cc cs) 0)) :: V.nos 1 (dN (rdG (cc cs) 0)) :: V.int IntKind.i64 (dF (rdG (cc cs) 0)) :: V.int IntKind.i64 (dU (rdG
 (cc cs) 0)) :: V.bool (dCa (rdG (cc cs) 0)) :: rdT (cc cs)) 24 6, Blk.ro true (strs (dL (rdG (cc cs) 0))), Blk.ro true (nmR (cc cs) 1), Blk.ro true (nmR (cc cs) 2),
 Blk.ro true (nmR (cc cs) 3), Blk.dead, Blk.row es 9 1, Blk.dead, Blk.dead, Blk.row (cs ++ fs) 9 1])) else False else R (V.bool false) else False else R (V.bool false)
 else False else False else False else False else False else False else bif ds.length.beq (m * 1) && ds.all V.one then bif es.length.beq ((0 + k) * 1) then bif (0 + k +
 m).ble 9223372036854775807 && ((0 + k + m) * 16).ble 140737488355328 then bif n.beq 0 then bif j.beq 0 then bif cs.length.beq (n * 1) && (cs.all isStrV && cs.length.beq
 n) && ((0 + (0 + k + m) * 1).ble (es ++ ds).length && ((List.take ((0 + k + m) * 1) (List.drop 0 (es ++ ds))).all isStrV && (List.take ((0 + k + m) * 1) (List.drop 0 (es
 ++ ds))).length.beq (0 + k + m)) && ((cc cs).length.ble 9223372036854775807 && (List.map strOfV (List.take ((0 + k + m) * 1) (List.drop 0 (es ++ ds)))).length.ble
 9223372036854775807)) then bif judgeC h now (List.map strOfV (List.take ((0 + k + m) * 1) (List.drop 0 (es ++ ds)))) (readC (cc cs)) == 0 then bif true && (ds.length.beq
 (m * 1) && (ds.all isStrV && ds.length.beq m) && (true && (List.map strOfV ds).length.ble 9223372036854775807)) then R (V.bool false) else False else R (V.bool false)
 else False else bif fs.length.beq (j * 1) && fs.all V.one then bif (0 + j).ble 9223372036854775807 && ((0 + j) * 16).ble 140737488355328 then bif cs.length.beq (n * 1) &&
 (cs.all isStrV && cs.length.beq n) && ((0 + (0 + k + m) * 1).ble (es ++ ds).length && ((List.take ((0 + k + m) * 1) (List.drop 0 (es ++ ds))).all isStrV && (List.take ((0
 + k + m) * 1) (List.drop 0 (es ++ ds))).length.beq (0 + k + m)) && ((cc cs).length.ble 9223372036854775807 && (List.map strOfV (List.take ((0 + k + m) * 1) (List.drop 0
 (es ++ ds)))).length.ble 9223372036854775807)) then bif judgeC h now (List.map strOfV (List.take ((0 + k + m) * 1) (List.drop 0 (es ++ ds)))) (readC (cc cs)) == 0 then
 bif (0 + (0 + j) * 1).ble fs.length && ((List.take ((0 + j) * 1) fs).all isStrV && (List.take ((0 + j) * 1) fs).length.beq (0 + j)) && (ds.length.beq (m * 1) && (ds.all
 isStrV && ds.length.beq m) && ((List.map strOfV (List.take ((0 + j) * 1) fs)).length.ble 9223372036854775807 && (List.map strOfV ds).length.ble 9223372036854775807)) then
 bif judgeC h now (List.map strOfV ds) (readC (List.map strOfV (List.take ((0 + j) * 1) fs))) == 0 then bif AOK (V.slice 0 0 (rdN (cc cs)) false 0 0) (V.slice 7 0 (0 + k +
 m) false 0 0) [Blk.row (V.str (dK (rdG (cc cs) 0)) :: V.str (dG (rdG (cc cs) 0)) :: V.nos 1 (dN (rdG (cc cs) 0)) :: V.int IntKind.i64 (dF (rdG (cc cs) 0)) :: V.int
 IntKind.i64 (dU (rdG (cc cs) 0)) :: V.bool (dCa (rdG (cc cs) 0)) :: rdT (cc cs)) 24 6, Blk.ro true (strs (dL (rdG (cc cs) 0))), Blk.ro true (nmR (cc cs) 1), Blk.ro true
 (nmR (cc cs) 2), Blk.ro true (nmR (cc cs) 3), Blk.dead, Blk.dead, Blk.row (es ++ ds) 9 1, Blk.dead, Blk.row fs 9 1] then R (V.bool (AV (V.slice 0 0 (rdN (cc cs)) false 0
 0) now (V.slice 7 0 (0 + k + m) false 0 0) [Blk.row (V.str (dK (rdG (cc cs) 0)) :: V.str (dG (rdG (cc cs) 0)) :: V.nos 1 (dN (rdG (cc cs) 0)) :: V.int IntKind.i64 (dF
 (rdG (cc cs) 0)) :: V.int IntKind.i64 (dU (rdG (cc cs) 0)) :: V.bool (dCa (rdG (cc cs) 0)) :: rdT (cc cs)) 24 6, Blk.ro true (strs (dL (rdG (cc cs) 0))), Blk.ro true (nmR
 (cc cs) 1), Blk.ro true (nmR (cc cs) 2), Blk.ro true (nmR (cc cs) 3), Blk.dead, Blk.dead, Blk.row (es ++ ds) 9 1, Blk.dead, Blk.row fs 9 1])) else False else R (V.bool
 false) else False else R (V.bool false) else False else False else False else bif cs.length.beq (n * 1) && cs.all V.one then bif (0 + n).ble 9223372036854775807 && ((0 +
 n) * 16).ble 140737488355328 then bif j.beq 0 then bif cs.length.beq (n * 1) && (cs.all isStrV && cs.length.beq n) && ((0 + (0 + k + m) * 1).ble (es ++ ds).length &&
 ((List.take ((0 + k + m) * 1) (List.drop 0 (es ++ ds))).all isStrV && (List.take ((0 + k + m) * 1) (List.drop 0 (es ++ ds))).length.beq (0 + k + m)) && ((cc
 cs).length.ble 9223372036854775807 && (List.map strOfV (List.take ((0 + k + m) * 1) (List.drop 0 (es ++ ds)))).length.ble 9223372036854775807)) then bif judgeC h now
 (List.map strOfV (List.take ((0 + k + m) * 1) (List.drop 0 (es ++ ds)))) (readC (cc cs)) == 0 then bif (0 + (0 + n) * 1).ble cs.length && ((List.take ((0 + n) * 1)
 cs).all isStrV && (List.take ((0 + n) * 1) cs).length.beq (0 + n)) && (ds.length.beq (m * 1) && (ds.all isStrV && ds.length.beq m) && ((List.map strOfV (List.take ((0 +
 n) * 1) cs)).length.ble 9223372036854775807 && (List.map strOfV ds).length.ble 9223372036854775807)) then bif judgeC h now (List.map strOfV ds) (readC (List.map strOfV
 (List.take ((0 + n) * 1) cs))) == 0 then bif AOK (V.slice 0 0 (rdN (cc cs)) false 0 0) (V.slice 7 0 (0 + k + m) false 0 0) [Blk.row (V.str (dK (rdG (cc cs) 0)) :: V.str
 (dG (rdG (cc cs) 0)) :: V.nos 1 (dN (rdG (cc cs) 0)) :: V.int IntKind.i64 (dF (rdG (cc cs) 0)) :: V.int IntKind.i64 (dU (rdG (cc cs) 0)) :: V.bool (dCa (rdG (cc cs) 0))
 :: rdT (cc cs)) 24 6, Blk.ro true (strs (dL (rdG (cc cs) 0))), Blk.ro true (nmR (cc cs) 1), Blk.ro true (nmR (cc cs) 2), Blk.ro true (nmR (cc cs) 3), Blk.dead, Blk.dead,
 Blk.row (es ++ ds) 9 1, Blk.dead, Blk.row cs 9 1] then R (V.bool (AV (V.slice 0 0 (rdN (cc cs)) false 0 0) now (V.slice 7 0 (0 + k + m) false 0 0) [Blk.row (V.str (dK
 (rdG (cc cs) 0)) :: V.str (dG (rdG (cc cs) 0)) :: V.nos 1 (dN (rdG (cc cs) 0)) :: V.int IntKind.i64 (dF (rdG (cc cs) 0)) :: V.int IntKind.i64 (dU (rdG (cc cs) 0)) ::
 V.bool (dCa (rdG (cc cs) 0)) :: rdT (cc cs)) 24 6, Blk.ro true (strs (dL (rdG (cc cs) 0))), Blk.ro true (nmR (cc cs) 1), Blk.ro true (nmR (cc cs) 2), Blk.ro true (nmR (cc
 cs) 3), Blk.dead, Blk.dead, Blk.row (es ++ ds) 9 1, Blk.dead, Blk.row cs 9 1])) else False else R (V.bool false) else False else R (V.bool false) else False else bif
 fs.length.beq (j * 1) && fs.all V.one then bif cs.length.beq ((0 + n) * 1) then bif (0 + n + j).ble 9223372036854775807 && ((0 + n + j) * 16).ble 140737488355328 then bif
 cs.length.beq (n * 1) && (cs.all isStrV && cs.length.beq n) && ((0 + (0 + k + m) * 1).ble (es ++ ds).length && ((List.take ((0 + k + m) * 1) (List.drop 0 (es ++ ds))).all
 isStrV && (List.take ((0 + k + m) * 1) (List.drop 0 (es ++ ds))).length.beq (0 + k + m)) && ((cc cs).length.ble 9223372036854775807 && (List.map strOfV (List.take ((0 + k
 + m) * 1) (List.drop 0 (es ++ ds)))).length.ble 9223372036854775807)) then bif judgeC h now (List.map strOfV (List.take ((0 + k + m) * 1) (List.drop 0 (es ++ ds))))
 (readC (cc cs)) == 0 then bif (0 + (0 + n + j) * 1).ble (cs ++ fs).length && ((List.take ((0 + n + j) * 1) (List.drop 0 (cs ++ fs))).all isStrV && (List.take ((0 + n + j)
 * 1) (List.drop 0 (cs ++ fs))).length.beq (0 + n + j)) && (ds.length.beq (m * 1) && (ds.all isStrV && ds.length.beq m) && ((List.map strOfV (List.take ((0 + n + j) * 1)
 (List.drop 0 (cs ++ fs)))).length.ble 9223372036854775807 && (List.map strOfV ds).length.ble 9223372036854775807)) then bif judgeC h now (List.map strOfV ds) (readC
 (List.map strOfV (List.take ((0 + n + j) * 1) (List.drop 0 (cs ++ fs))))) == 0 then bif AOK (V.slice 0 0 (rdN (cc cs)) false 0 0) (V.slice 7 0 (0 + k + m) false 0 0)
 [Blk.row (V.str (dK (rdG (cc cs) 0)) :: V.str (dG (rdG (cc cs) 0)) :: V.nos 1 (dN (rdG (cc cs) 0)) :: V.int IntKind.i64 (dF (rdG (cc cs) 0)) :: V.int IntKind.i64 (dU (rdG
 (cc cs) 0)) :: V.bool (dCa (rdG (cc cs) 0)) :: rdT (cc cs)) 24 6, Blk.ro true (strs (dL (rdG (cc cs) 0))), Blk.ro true (nmR (cc cs) 1), Blk.ro true (nmR (cc cs) 2),
 Blk.ro true (nmR (cc cs) 3), Blk.dead, Blk.dead, Blk.row (es ++ ds) 9 1, Blk.dead, Blk.dead, Blk.row (cs ++ fs) 9 1] then R (V.bool (AV (V.slice 0 0 (rdN (cc cs)) false 0
 0) now (V.slice 7 0 (0 + k + m) false 0 0) [Blk.row (V.str (dK (rdG (cc cs) 0)) :: V.str (dG (rdG (cc cs) 0)) :: V.nos 1 (dN (rdG (cc cs) 0)) :: V.int IntKind.i64 (dF
 (rdG (cc cs) 0)) :: V.int IntKind.i64 (dU (rdG (cc cs) 0)) :: V.bool (dCa (rdG (cc cs) 0)) :: rdT (cc cs)) 24 6, Blk.ro true (strs (dL (rdG (cc cs) 0))), Blk.ro true (nmR
 (cc cs) 1), Blk.ro true (nmR (cc cs) 2), Blk.ro true (nmR (cc cs) 3), Blk.dead, Blk.dead, Blk.row (es ++ ds) 9 1, Blk.dead, Blk.dead, Blk.row (cs ++ fs) 9 1])) else False
 else R (V.bool false) else False else R (V.bool false) else False else False else False else False else False else False else False else False else False else False else
 False else False else False else bif !AV (V.slice 0 0 (rdN (cc cs)) false 0 0) now (V.lst y m ds) [Blk.row (V.str (dK (rdG (cc cs) 0)) :: V.str (dG (rdG (cc cs) 0)) ::
 V.nos 1 (dN (rdG (cc cs) 0)) :: V.int IntKind.i64 (dF (rdG (cc cs) 0)) :: V.int IntKind.i64 (dU (rdG (cc cs) 0)) :: V.bool (dCa (rdG (cc cs) 0)) :: rdT (cc cs)) 24 6,
 Blk.ro true (strs (dL (rdG (cc cs) 0))), Blk.ro true (nmR (cc cs) 1), Blk.ro true (nmR (cc cs) 2), Blk.ro true (nmR (cc cs) 3)] then R (V.bool true) else bif k.beq 0 then
 bif m.beq 0 then bif n.beq 0 then bif j.beq 0 then bif cs.length.beq (n * 1) && (cs.all isStrV && cs.length.beq n) && (true && ((cc cs).length.ble 9223372036854775807 &&
 true)) then bif judgeC h now [] (readC (cc cs)) == 0 then bif true && (ds.length.beq (m * 1) && (ds.all isStrV && ds.length.beq m) && (true && (List.map strOfV
 ds).length.ble 9223372036854775807)) then R (V.bool false) else False else R (V.bool false) else False else bif fs.length.beq (j * 1) && fs.all V.one then bif (0 + j).ble
 9223372036854775807 && ((0 + j) * 16).ble 140737488355328 then bif cs.length.beq (n * 1) && (cs.all isStrV && cs.length.beq n) && (true && ((cc cs).length.ble
 9223372036854775807 && true)) then bif judgeC h now [] (readC (cc cs)) == 0 then bif (0 + (0 + j) * 1).ble fs.length && ((List.take ((0 + j) * 1) fs).all isStrV &&
 (List.take ((0 + j) * 1) fs).length.beq (0 + j)) && (ds.length.beq (m * 1) && (ds.all isStrV && ds.length.beq m) && ((List.map strOfV (List.take ((0 + j) * 1)
 fs)).length.ble 9223372036854775807 && (List.map strOfV ds).length.ble 9223372036854775807)) then bif judgeC h now (List.map strOfV ds) (readC (List.map strOfV (List.take
 ((0 + j) * 1) fs))) == 0 then bif AOK (V.slice 0 0 (rdN (cc cs)) false 0 0) (V.slice 5 0 0 false 0 0) [Blk.row (V.str (dK (rdG (cc cs) 0)) :: V.str (dG (rdG (cc cs) 0))
 :: V.nos 1 (dN (rdG (cc cs) 0)) :: V.int IntKind.i64 (dF (rdG (cc cs) 0)) :: V.int IntKind.i64 (dU (rdG (cc cs) 0)) :: V.bool (dCa (rdG (cc cs) 0)) :: rdT (cc cs)) 24 6,
 Blk.ro true (strs (dL (rdG (cc cs) 0))), Blk.ro true (nmR (cc cs) 1), Blk.ro true (nmR (cc cs) 2), Blk.ro true (nmR (cc cs) 3), Blk.row [] 9 1, Blk.dead, Blk.row fs 9 1]
 then R (V.bool (AV (V.slice 0 0 (rdN (cc cs)) false 0 0) now (V.slice 5 0 0 false 0 0) [Blk.row (V.str (dK (rdG (cc cs) 0)) :: V.str (dG (rdG (cc cs) 0)) :: V.nos 1 (dN
 (rdG (cc cs) 0)) :: V.int IntKind.i64 (dF (rdG (cc cs) 0)) :: V.int IntKind.i64 (dU (rdG (cc cs) 0)) :: V.bool (dCa (rdG (cc cs) 0)) :: rdT (cc cs)) 24 6, Blk.ro true
 (strs (dL (rdG (cc cs) 0))), Blk.ro true (nmR (cc cs) 1), Blk.ro true (nmR (cc cs) 2), Blk.ro true (nmR (cc cs) 3), Blk.row [] 9 1, Blk.dead, Blk.row fs 9 1])) else False
 else R (V.bool false) else False else R (V.bool false) else False else False else False else bif cs.length.beq (n * 1) && cs.all V.one then bif (0 + n).ble
 9223372036854775807 && ((0 + n) * 16).ble 140737488355328 then bif j.beq 0 then bif cs.length.beq (n * 1) && (cs.all isStrV && cs.length.beq n) && (true && ((cc
 cs).length.ble 9223372036854775807 && true)) then bif judgeC h now [] (readC (cc cs)) == 0 then bif (0 + (0 + n) * 1).ble cs.length && ((List.take ((0 + n) * 1) cs).all
 isStrV && (List.take ((0 + n) * 1) cs).length.beq (0 + n)) && (ds.length.beq (m * 1) && (ds.all isStrV && ds.length.beq m) && ((List.map strOfV (List.take ((0 + n) * 1)
 cs)).length.ble 9223372036854775807 && (List.map strOfV ds).length.ble 9223372036854775807)) then bif judgeC h now (List.map strOfV ds) (readC (List.map strOfV (List.take
 ((0 + n) * 1) cs))) == 0 then bif AOK (V.slice 0 0 (rdN (cc cs)) false 0 0) (V.slice 5 0 0 false 0 0) [Blk.row (V.str (dK (rdG (cc cs) 0)) :: V.str (dG (rdG (cc cs) 0))
 :: V.nos 1 (dN (rdG (cc cs) 0)) :: V.int IntKind.i64 (dF (rdG (cc cs) 0)) :: V.int IntKind.i64 (dU (rdG (cc cs) 0)) :: V.bool (dCa (rdG (cc cs) 0)) :: rdT (cc cs)) 24 6,
 Blk.ro true (strs (dL (rdG (cc cs) 0))), Blk.ro true (nmR (cc cs) 1), Blk.ro true (nmR (cc cs) 2), Blk.ro true (nmR (cc cs) 3), Blk.row [] 9 1, Blk.dead, Blk.row cs 9 1]
 then R (V.bool (AV (V.slice 0 0 (rdN (cc cs)) false 0 0) now (V.slice 5 0 0 false 0 0) [Blk.row (V.str (dK (rdG (cc cs) 0)) :: V.str (dG (rdG (cc cs) 0)) :: V.nos 1 (dN
 (rdG (cc cs) 0)) :: V.int IntKind.i64 (dF (rdG (cc cs) 0)) :: V.int IntKind.i64 (dU (rdG (cc cs) 0)) :: V.bool (dCa (rdG (cc cs) 0)) :: rdT (cc cs)) 24 6, Blk.ro true
 (strs (dL (rdG (cc cs) 0))), Blk.ro true (nmR (cc cs) 1), Blk.ro true (nmR (cc cs) 2), Blk.ro true (nmR (cc cs) 3), Blk.row [] 9 1, Blk.dead, Blk.row cs 9 1])) else False
 else R (V.bool false) else False else R (V.bool false) else False else bif fs.length.beq (j * 1) && fs.all V.one then bif cs.length.beq ((0 + n) * 1) then bif (0 + n +
 j).ble 9223372036854775807 && ((0 + n + j) * 16).ble 140737488355328 then bif cs.length.beq (n * 1) && (cs.all isStrV && cs.length.beq n) && (true && ((cc cs).length.ble
 9223372036854775807 && true)) then bif judgeC h now [] (readC (cc cs)) == 0 then bif (0 + (0 + n + j) * 1).ble (cs ++ fs).length && ((List.take ((0 + n + j) * 1)
 (List.drop 0 (cs ++ fs))).all isStrV && (List.take ((0 + n + j) * 1) (List.drop 0 (cs ++ fs))).length.beq (0 + n + j)) && (ds.length.beq (m * 1) && (ds.all isStrV &&
 ds.length.beq m) && ((List.map strOfV (List.take ((0 + n + j) * 1) (List.drop 0 (cs ++ fs)))).length.ble 9223372036854775807 && (List.map strOfV ds).length.ble
 9223372036854775807)) then bif judgeC h now (List.map strOfV ds) (readC (List.map strOfV (List.take ((0 + n + j) * 1) (List.drop 0 (cs ++ fs))))) == 0 then bif AOK
 (V.slice 0 0 (rdN (cc cs)) false 0 0) (V.slice 5 0 0 false 0 0) [Blk.row (V.str (dK (rdG (cc cs) 0)) :: V.str (dG (rdG (cc cs) 0)) :: V.nos 1 (dN (rdG (cc cs) 0)) ::
 V.int IntKind.i64 (dF (rdG (cc cs) 0)) :: V.int IntKind.i64 (dU (rdG (cc cs) 0)) :: V.bool (dCa (rdG (cc cs) 0)) :: rdT (cc cs)) 24 6, Blk.ro true (strs (dL (rdG (cc cs)
 0))), Blk.ro true (nmR (cc cs) 1), Blk.ro true (nmR (cc cs) 2), Blk.ro true (nmR (cc cs) 3), Blk.row [] 9 1, Blk.dead, Blk.dead, Blk.row (cs ++ fs) 9 1] then R (V.bool
 (AV (V.slice 0 0 (rdN (cc cs)) false 0 0) now (V.slice 5 0 0 false 0 0) [Blk.row (V.str (dK (rdG (cc cs) 0)) :: V.str (dG (rdG (cc cs) 0)) :: V.nos 1 (dN (rdG (cc cs) 0))
 :: V.int IntKind.i64 (dF (rdG (cc cs) 0)) :: V.int IntKind.i64 (dU (rdG (cc cs) 0)) :: V.bool (dCa (rdG (cc cs) 0)) :: rdT (cc cs)) 24 6, Blk.ro true (strs (dL (rdG (cc
 cs) 0))), Blk.ro true (nmR (cc cs) 1), Blk.ro true (nmR (cc cs) 2), Blk.ro true (nmR (cc cs) 3), Blk.row [] 9 1, Blk.dead, Blk.dead, Blk.row (cs ++ fs) 9 1])) else False
 else R (V.bool false) else False else R (V.bool false) else False else False else False else False else False else False else bif ds.length.beq (m * 1) && ds.all V.one
 then bif (0 + m).ble 9223372036854775807 && ((0 + m) * 16).ble 140737488355328 then bif n.beq 0 then bif j.beq 0 then bif cs.length.beq (n * 1) && (cs.all isStrV &&
 cs.length.beq n) && ((0 + (0 + m) * 1).ble ds.length && ((List.take ((0 + m) * 1) ds).all isStrV && (List.take ((0 + m) * 1) ds).length.beq (0 + m)) && ((cc
 cs).length.ble 9223372036854775807 && (List.map strOfV (List.take ((0 + m) * 1) ds)).length.ble 9223372036854775807)) then bif judgeC h now (List.map strOfV (List.take
 ((0 + m) * 1) ds)) (readC (cc cs)) == 0 then bif true && (ds.length.beq (m * 1) && (ds.all isStrV && ds.length.beq m) && (true && (List.map strOfV ds).length.ble
 9223372036854775807)) then R (V.bool false) else False else R (V.bool false) else False else bif fs.length.beq (j * 1) && fs.all V.one then bif (0 + j).ble
 9223372036854775807 && ((0 + j) * 16).ble 140737488355328 then bif cs.length.beq (n * 1) && (cs.all isStrV && cs.length.beq n) && ((0 + (0 + m) * 1).ble ds.length &&
 ((List.take ((0 + m) * 1) ds).all isStrV && (List.take ((0 + m) * 1) ds).length.beq (0 + m)) && ((cc cs).length.ble 9223372036854775807 && (List.map strOfV (List.take ((0
 + m) * 1) ds)).length.ble 9223372036854775807)) then bif judgeC h now (List.map strOfV (List.take ((0 + m) * 1) ds)) (readC (cc cs)) == 0 then bif (0 + (0 + j) * 1).ble
 fs.length && ((List.take ((0 + j) * 1) fs).all isStrV && (List.take ((0 + j) * 1) fs).length.beq (0 + j)) && (ds.length.beq (m * 1) && (ds.all isStrV && ds.length.beq m)
 && ((List.map strOfV (List.take ((0 + j) * 1) fs)).length.ble 9223372036854775807 && (List.map strOfV ds).length.ble 9223372036854775807)) then bif judgeC h now (List.map
 strOfV ds) (readC (List.map strOfV (List.take ((0 + j) * 1) fs))) == 0 then bif AOK (V.slice 0 0 (rdN (cc cs)) false 0 0) (V.slice 6 0 (0 + m) false 0 0) [Blk.row (V.str
 (dK (rdG (cc cs) 0)) :: V.str (dG (rdG (cc cs) 0)) :: V.nos 1 (dN (rdG (cc cs) 0)) :: V.int IntKind.i64 (dF (rdG (cc cs) 0)) :: V.int IntKind.i64 (dU (rdG (cc cs) 0)) ::
 V.bool (dCa (rdG (cc cs) 0)) :: rdT (cc cs)) 24 6, Blk.ro true (strs (dL (rdG (cc cs) 0))), Blk.ro true (nmR (cc cs) 1), Blk.ro true (nmR (cc cs) 2), Blk.ro true (nmR (cc
 cs) 3), Blk.dead, Blk.row ds 9 1, Blk.dead, Blk.row fs 9 1] then R (V.bool (AV (V.slice 0 0 (rdN (cc cs)) false 0 0) now (V.slice 6 0 (0 + m) false 0 0) [Blk.row (V.str
 (dK (rdG (cc cs) 0)) :: V.str (dG (rdG (cc cs) 0)) :: V.nos 1 (dN (rdG (cc cs) 0)) :: V.int IntKind.i64 (dF (rdG (cc cs) 0)) :: V.int IntKind.i64 (dU (rdG (cc cs) 0)) ::
 V.bool (dCa (rdG (cc cs) 0)) :: rdT (cc cs)) 24 6, Blk.ro true (strs (dL (rdG (cc cs) 0))), Blk.ro true (nmR (cc cs) 1), Blk.ro true (nmR (cc cs) 2), Blk.ro true (nmR (cc
 cs) 3), Blk.dead, Blk.row ds 9 1, Blk.dead, Blk.row fs 9 1])) else False else R (V.bool false) else False else R (V.bool false) else False else False else False else bif
 cs.length.beq (n * 1) && cs.all V.one then bif (0 + n).ble 9223372036854775807 && ((0 + n) * 16).ble 140737488355328 then bif j.beq 0 then bif cs.length.beq (n * 1) &&
 (cs.all isStrV && cs.length.beq n) && ((0 + (0 + m) * 1).ble ds.length && ((List.take ((0 + m) * 1) ds).all isStrV && (List.take ((0 + m) * 1) ds).length.beq (0 + m)) &&
 ((cc cs).length.ble 9223372036854775807 && (List.map strOfV (List.take ((0 + m) * 1) ds)).length.ble 9223372036854775807)) then bif judgeC h now (List.map strOfV
 (List.take ((0 + m) * 1) ds)) (readC (cc cs)) == 0 then bif (0 + (0 + n) * 1).ble cs.length && ((List.take ((0 + n) * 1) cs).all isStrV && (List.take ((0 + n) * 1)
 cs).length.beq (0 + n)) && (ds.length.beq (m * 1) && (ds.all isStrV && ds.length.beq m) && ((List.map strOfV (List.take ((0 + n) * 1) cs)).length.ble 9223372036854775807
 && (List.map strOfV ds).length.ble 9223372036854775807)) then bif judgeC h now (List.map strOfV ds) (readC (List.map strOfV (List.take ((0 + n) * 1) cs))) == 0 then bif
 AOK (V.slice 0 0 (rdN (cc cs)) false 0 0) (V.slice 6 0 (0 + m) false 0 0) [Blk.row (V.str (dK (rdG (cc cs) 0)) :: V.str (dG (rdG (cc cs) 0)) :: V.nos 1 (dN (rdG (cc cs)
 0)) :: V.int IntKind.i64 (dF (rdG (cc cs) 0)) :: V.int IntKind.i64 (dU (rdG (cc cs) 0)) :: V.bool (dCa (rdG (cc cs) 0)) :: rdT (cc cs)) 24 6, Blk.ro true (strs (dL (rdG
 (cc cs) 0))), Blk.ro true (nmR (cc cs) 1), Blk.ro true (nmR (cc cs) 2), Blk.ro true (nmR (cc cs) 3), Blk.dead, Blk.row ds 9 1, Blk.dead, Blk.row cs 9 1] then R (V.bool
 (AV (V.slice 0 0 (rdN (cc cs)) false 0 0) now (V.slice 6 0 (0 + m) false 0 0) [Blk.row (V.str (dK (rdG (cc cs) 0)) :: V.str (dG (rdG (cc cs) 0)) :: V.nos 1 (dN (rdG (cc
 cs) 0)) :: V.int IntKind.i64 (dF (rdG (cc cs) 0)) :: V.int IntKind.i64 (dU (rdG (cc cs) 0)) :: V.bool (dCa (rdG (cc cs) 0)) :: rdT (cc cs)) 24 6, Blk.ro true (strs (dL
 (rdG (cc cs) 0))), Blk.ro true (nmR (cc cs) 1), Blk.ro true (nmR (cc cs) 2), Blk.ro true (nmR (cc cs) 3), Blk.dead, Blk.row ds 9 1, Blk.dead, Blk.row cs 9 1])) else False
 else R (V.bool false) else False else R (V.bool false) else False else bif fs.length.beq (j * 1) && fs.all V.one then bif cs.length.beq ((0 + n) * 1) then bif (0 + n +
 j).ble 9223372036854775807 && ((0 + n + j) * 16).ble 140737488355328 then bif cs.length.beq (n * 1) && (cs.all isStrV && cs.length.beq n) && ((0 + (0 + m) * 1).ble
 ds.length && ((List.take ((0 + m) * 1) ds).all isStrV && (List.take ((0 + m) * 1) ds).length.beq (0 + m)) && ((cc cs).length.ble 9223372036854775807 && (List.map strOfV
 (List.take ((0 + m) * 1) ds)).length.ble 9223372036854775807)) then bif judgeC h now (List.map strOfV (List.take ((0 + m) * 1) ds)) (readC (cc cs)) == 0 then bif (0 + (0
 + n + j) * 1).ble (cs ++ fs).length && ((List.take ((0 + n + j) * 1) (List.drop 0 (cs ++ fs))).all isStrV && (List.take ((0 + n + j) * 1) (List.drop 0 (cs ++
 fs))).length.beq (0 + n + j)) && (ds.length.beq (m * 1) && (ds.all isStrV && ds.length.beq m) && ((List.map strOfV (List.take ((0 + n + j) * 1) (List.drop 0 (cs ++
 fs)))).length.ble 9223372036854775807 && (List.map strOfV ds).length.ble 9223372036854775807)) then bif judgeC h now (List.map strOfV ds) (readC (List.map strOfV
 (List.take ((0 + n + j) * 1) (List.drop 0 (cs ++ fs))))) == 0 then bif AOK (V.slice 0 0 (rdN (cc cs)) false 0 0) (V.slice 6 0 (0 + m) false 0 0) [Blk.row (V.str (dK (rdG
 (cc cs) 0)) :: V.str (dG (rdG (cc cs) 0)) :: V.nos 1 (dN (rdG (cc cs) 0)) :: V.int IntKind.i64 (dF (rdG (cc cs) 0)) :: V.int IntKind.i64 (dU (rdG (cc cs) 0)) :: V.bool
 (dCa (rdG (cc cs) 0)) :: rdT (cc cs)) 24 6, Blk.ro true (strs (dL (rdG (cc cs) 0))), Blk.ro true (nmR (cc cs) 1), Blk.ro true (nmR (cc cs) 2), Blk.ro true (nmR (cc cs)
 3), Blk.dead, Blk.row ds 9 1, Blk.dead, Blk.dead, Blk.row (cs ++ fs) 9 1] then R (V.bool (AV (V.slice 0 0 (rdN (cc cs)) false 0 0) now (V.slice 6 0 (0 + m) false 0 0)
 [Blk.row (V.str (dK (rdG (cc cs) 0)) :: V.str (dG (rdG (cc cs) 0)) :: V.nos 1 (dN (rdG (cc cs) 0)) :: V.int IntKind.i64 (dF (rdG (cc cs) 0)) :: V.int IntKind.i64 (dU (rdG
 (cc cs) 0)) :: V.bool (dCa (rdG (cc cs) 0)) :: rdT (cc cs)) 24 6, Blk.ro true (strs (dL (rdG (cc cs) 0))), Blk.ro true (nmR (cc cs) 1), Blk.ro true (nmR (cc cs) 2),
 Blk.ro true (nmR (cc cs) 3), Blk.dead, Blk.row ds 9 1, Blk.dead, Blk.dead, Blk.row (cs ++ fs) 9 1])) else False else R (V.bool false) else False else R (V.bool false)
 else False else False else False else False else False else False else False else False else bif es.length.beq (k * 1) && es.all V.one then bif (0 + k).ble
 9223372036854775807 && ((0 + k) * 16).ble 140737488355328 then bif m.beq 0 then bif n.beq 0 then bif j.beq 0 then bif cs.length.beq (n * 1) && (cs.all isStrV &&
 cs.length.beq n) && ((0 + (0 + k) * 1).ble es.length && ((List.take ((0 + k) * 1) es).all isStrV && (List.take ((0 + k) * 1) es).length.beq (0 + k)) && ((cc
 cs).length.ble 9223372036854775807 && (List.map strOfV (List.take ((0 + k) * 1) es)).length.ble 9223372036854775807)) then bif judgeC h now (List.map strOfV (List.take
 ((0 + k) * 1) es)) (readC (cc cs)) == 0 then bif true && (ds.length.beq (m * 1) && (ds.all isStrV && ds.length.beq m) && (true && (List.map strOfV ds).length.ble
 9223372036854775807)) then R (V.bool false) else False else R (V.bool false) else False else bif fs.length.beq (j * 1) && fs.all V.one then bif (0 + j).ble
 9223372036854775807 && ((0 + j) * 16).ble 140737488355328 then bif cs.length.beq (n * 1) && (cs.all isStrV && cs.length.beq n) && ((0 + (0 + k) * 1).ble es.length &&
 ((List.take ((0 + k) * 1) es).all isStrV && (List.take ((0 + k) * 1) es).length.beq (0 + k)) && ((cc cs).length.ble 9223372036854775807 && (List.map strOfV (List.take ((0
 + k) * 1) es)).length.ble 9223372036854775807)) then bif judgeC h now (List.map strOfV (List.take ((0 + k) * 1) es)) (readC (cc cs)) == 0 then bif (0 + (0 + j) * 1).ble
 fs.length && ((List.take ((0 + j) * 1) fs).all isStrV && (List.take ((0 + j) * 1) fs).length.beq (0 + j)) && (ds.length.beq (m * 1) && (ds.all isStrV && ds.length.beq m)
 && ((List.map strOfV (List.take ((0 + j) * 1) fs)).length.ble 9223372036854775807 && (List.map strOfV ds).length.ble 9223372036854775807)) then bif judgeC h now (List.map
 strOfV ds) (readC (List.map strOfV (List.take ((0 + j) * 1) fs))) == 0 then bif AOK (V.slice 0 0 (rdN (cc cs)) false 0 0) (V.slice 6 0 (0 + k) false 0 0) [Blk.row (V.str
 (dK (rdG (cc cs) 0)) :: V.str (dG (rdG (cc cs) 0)) :: V.nos 1 (dN (rdG (cc cs) 0)) :: V.int IntKind.i64 (dF (rdG (cc cs) 0)) :: V.int IntKind.i64 (dU (rdG (cc cs) 0)) ::
 V.bool (dCa (rdG (cc cs) 0)) :: rdT (cc cs)) 24 6, Blk.ro true (strs (dL (rdG (cc cs) 0))), Blk.ro true (nmR (cc cs) 1), Blk.ro true (nmR (cc cs) 2), Blk.ro true (nmR (cc
 cs) 3), Blk.dead, Blk.row es 9 1, Blk.dead, Blk.row fs 9 1] then R (V.bool (AV (V.slice 0 0 (rdN (cc cs)) false 0 0) now (V.slice 6 0 (0 + k) false 0 0) [Blk.row (V.str
 (dK (rdG (cc cs) 0)) :: V.str (dG (rdG (cc cs) 0)) :: V.nos 1 (dN (rdG (cc cs) 0)) :: V.int IntKind.i64 (dF (rdG (cc cs) 0)) :: V.int IntKind.i64 (dU (rdG (cc cs) 0)) ::
 V.bool (dCa (rdG (cc cs) 0)) :: rdT (cc cs)) 24 6, Blk.ro true (strs (dL (rdG (cc cs) 0))), Blk.ro true (nmR (cc cs) 1), Blk.ro true (nmR (cc cs) 2), Blk.ro true (nmR (cc
 cs) 3), Blk.dead, Blk.row es 9 1, Blk.dead, Blk.row fs 9 1])) else False else R (V.bool false) else False else R (V.bool false) else False else False else False else bif
 cs.length.beq (n * 1) && cs.all V.one then bif (0 + n).ble 9223372036854775807 && ((0 + n) * 16).ble 140737488355328 then bif j.beq 0 then bif cs.length.beq (n * 1) &&
 (cs.all isStrV && cs.length.beq n) && ((0 + (0 + k) * 1).ble es.length && ((List.take ((0 + k) * 1) es).all isStrV && (List.take ((0 + k) * 1) es).length.beq (0 + k)) &&
 ((cc cs).length.ble 9223372036854775807 && (List.map strOfV (List.take ((0 + k) * 1) es)).length.ble 9223372036854775807)) then bif judgeC h now (List.map strOfV
 (List.take ((0 + k) * 1) es)) (readC (cc cs)) == 0 then bif (0 + (0 + n) * 1).ble cs.length && ((List.take ((0 + n) * 1) cs).all isStrV && (List.take ((0 + n) * 1)
 cs).length.beq (0 + n)) && (ds.length.beq (m * 1) && (ds.all isStrV && ds.length.beq m) && ((List.map strOfV (List.take ((0 + n) * 1) cs)).length.ble 9223372036854775807
 && (List.map strOfV ds).length.ble 9223372036854775807)) then bif judgeC h now (List.map strOfV ds) (readC (List.map strOfV (List.take ((0 + n) * 1) cs))) == 0 then bif
 AOK (V.slice 0 0 (rdN (cc cs)) false 0 0) (V.slice 6 0 (0 + k) false 0 0) [Blk.row (V.str (dK (rdG (cc cs) 0)) :: V.str (dG (rdG (cc cs) 0)) :: V.nos 1 (dN (rdG (cc cs)
 0)) :: V.int IntKind.i64 (dF (rdG (cc cs) 0)) :: V.int IntKind.i64 (dU (rdG (cc cs) 0)) :: V.bool (dCa (rdG (cc cs) 0)) :: rdT (cc cs)) 24 6, Blk.ro true (strs (dL (rdG
 (cc cs) 0))), Blk.ro true (nmR (cc cs) 1), Blk.ro true (nmR (cc cs) 2), Blk.ro true (nmR (cc cs) 3), Blk.dead, Blk.row es 9 1, Blk.dead, Blk.row cs 9 1] then R (V.bool
 (AV (V.slice 0 0 (rdN (cc cs)) false 0 0) now (V.slice 6 0 (0 + k) false 0 0) [Blk.row (V.str (dK (rdG (cc cs) 0)) :: V.str (dG (rdG (cc cs) 0)) :: V.nos 1 (dN (rdG (cc
 cs) 0)) :: V.int IntKind.i64 (dF (rdG (cc cs) 0)) :: V.int IntKind.i64 (dU (rdG (cc cs) 0)) :: V.bool (dCa (rdG (cc cs) 0)) :: rdT (cc cs)) 24 6, Blk.ro true (strs (dL
 (rdG (cc cs) 0))), Blk.ro true (nmR (cc cs) 1), Blk.ro true (nmR (cc cs) 2), Blk.ro true (nmR (cc cs) 3), Blk.dead, Blk.row es 9 1, Blk.dead, Blk.row cs 9 1])) else False
 else R (V.bool false) else False else R (V.bool false) else False else bif fs.length.beq (j * 1) && fs.all V.one then bif cs.length.beq ((0 + n) * 1) then bif (0 + n +
 j).ble 9223372036854775807 && ((0 + n + j) * 16).ble 140737488355328 then bif cs.length.beq (n * 1) && (cs.all isStrV && cs.length.beq n) && ((0 + (0 + k) * 1).ble
 es.length && ((List.take ((0 + k) * 1) es).all isStrV && (List.take ((0 + k) * 1) es).length.beq (0 + k)) && ((cc cs).length.ble 9223372036854775807 && (List.map strOfV
 (List.take ((0 + k) * 1) es)).length.ble 9223372036854775807)) then bif judgeC h now (List.map strOfV (List.take ((0 + k) * 1) es)) (readC (cc cs)) == 0 then bif (0 + (0
 + n + j) * 1).ble (cs ++ fs).length && ((List.take ((0 + n + j) * 1) (List.drop 0 (cs ++ fs))).all isStrV && (List.take ((0 + n + j) * 1) (List.drop 0 (cs ++
 fs))).length.beq (0 + n + j)) && (ds.length.beq (m * 1) && (ds.all isStrV && ds.length.beq m) && ((List.map strOfV (List.take ((0 + n + j) * 1) (List.drop 0 (cs ++
 fs)))).length.ble 9223372036854775807 && (List.map strOfV ds).length.ble 9223372036854775807)) then bif judgeC h now (List.map strOfV ds) (readC (List.map strOfV
 (List.take ((0 + n + j) * 1) (List.drop 0 (cs ++ fs))))) == 0 then bif AOK (V.slice 0 0 (rdN (cc cs)) false 0 0) (V.slice 6 0 (0 + k) false 0 0) [Blk.row (V.str (dK (rdG
 (cc cs) 0)) :: V.str (dG (rdG (cc cs) 0)) :: V.nos 1 (dN (rdG (cc cs) 0)) :: V.int IntKind.i64 (dF (rdG (cc cs) 0)) :: V.int IntKind.i64 (dU (rdG (cc cs) 0)) :: V.bool
 (dCa (rdG (cc cs) 0)) :: rdT (cc cs)) 24 6, Blk.ro true (strs (dL (rdG (cc cs) 0))), Blk.ro true (nmR (cc cs) 1), Blk.ro true (nmR (cc cs) 2), Blk.ro true (nmR (cc cs)
 3), Blk.dead, Blk.row es 9 1, Blk.dead, Blk.dead, Blk.row (cs ++ fs) 9 1] then R (V.bool (AV (V.slice 0 0 (rdN (cc cs)) false 0 0) now (V.slice 6 0 (0 + k) false 0 0)
 [Blk.row (V.str (dK (rdG (cc cs) 0)) :: V.str (dG (rdG (cc cs) 0)) :: V.nos 1 (dN (rdG (cc cs) 0)) :: V.int IntKind.i64 (dF (rdG (cc cs) 0)) :: V.int IntKind.i64 (dU (rdG
 (cc cs) 0)) :: V.bool (dCa (rdG (cc cs) 0)) :: rdT (cc cs)) 24 6, Blk.ro true (strs (dL (rdG (cc cs) 0))), Blk.ro true (nmR (cc cs) 1), Blk.ro true (nmR (cc cs) 2),
 Blk.ro true (nmR (cc cs) 3), Blk.dead, Blk.row es 9 1, Blk.dead, Blk.dead, Blk.row (cs ++ fs) 9 1])) else False else R (V.bool false) else False else R (V.bool false)
 else False else False else False else False else False else False else bif ds.length.beq (m * 1) && ds.all V.one then bif es.length.beq ((0 + k) * 1) then bif (0 + k +
 m).ble 9223372036854775807 && ((0 + k + m) * 16).ble 140737488355328 then bif n.beq 0 then bif j.beq 0 then bif cs.length.beq (n * 1) && (cs.all isStrV && cs.length.beq
 n) && ((0 + (0 + k + m) * 1).ble (es ++ ds).length && ((List.take ((0 + k + m) * 1) (List.drop 0 (es ++ ds))).all isStrV && (List.take ((0 + k + m) * 1) (List.drop 0 (es
 ++ ds))).length.beq (0 + k + m)) && ((cc cs).length.ble 9223372036854775807 && (List.map strOfV (List.take ((0 + k + m) * 1) (List.drop 0 (es ++ ds)))).length.ble
 9223372036854775807)) then bif judgeC h now (List.map strOfV (List.take ((0 + k + m) * 1) (List.drop 0 (es ++ ds)))) (readC (cc cs)) == 0 then bif true && (ds.length.beq
 (m * 1) && (ds.all isStrV && ds.length.beq m) && (true && (List.map strOfV ds).length.ble 9223372036854775807)) then R (V.bool false) else False else R (V.bool false)
 else False else bif fs.length.beq (j * 1) && fs.all V.one then bif (0 + j).ble 9223372036854775807 && ((0 + j) * 16).ble 140737488355328 then bif cs.length.beq (n * 1) &&
 (cs.all isStrV && cs.length.beq n) && ((0 + (0 + k + m) * 1).ble (es ++ ds).length && ((List.take ((0 + k + m) * 1) (List.drop 0 (es ++ ds))).all isStrV && (List.take ((0
 + k + m) * 1) (List.drop 0 (es ++ ds))).length.beq (0 + k + m)) && ((cc cs).length.ble 9223372036854775807 && (List.map strOfV (List.take ((0 + k + m) * 1) (List.drop 0
 (es ++ ds)))).length.ble 9223372036854775807)) then bif judgeC h now (List.map strOfV (List.take ((0 + k + m) * 1) (List.drop 0 (es ++ ds)))) (readC (cc cs)) == 0 then
 bif (0 + (0 + j) * 1).ble fs.length && ((List.take ((0 + j) * 1) fs).all isStrV && (List.take ((0 + j) * 1) fs).length.beq (0 + j)) && (ds.length.beq (m * 1) && (ds.all
 isStrV && ds.length.beq m) && ((List.map strOfV (List.take ((0 + j) * 1) fs)).length.ble 9223372036854775807 && (List.map strOfV ds).length.ble 9223372036854775807)) then
 bif judgeC h now (List.map strOfV ds) (readC (List.map strOfV (List.take ((0 + j) * 1) fs))) == 0 then bif AOK (V.slice 0 0 (rdN (cc cs)) false 0 0) (V.slice 7 0 (0 + k +
 m) false 0 0) [Blk.row (V.str (dK (rdG (cc cs) 0)) :: V.str (dG (rdG (cc cs) 0)) :: V.nos 1 (dN (rdG (cc cs) 0)) :: V.int IntKind.i64 (dF (rdG (cc cs) 0)) :: V.int
 IntKind.i64 (dU (rdG (cc cs) 0)) :: V.bool (dCa (rdG (cc cs) 0)) :: rdT (cc cs)) 24 6, Blk.ro true (strs (dL (rdG (cc cs) 0))), Blk.ro true (nmR (cc cs) 1), Blk.ro true
 (nmR (cc cs) 2), Blk.ro true (nmR (cc cs) 3), Blk.dead, Blk.dead, Blk.row (es ++ ds) 9 1, Blk.dead, Blk.row fs 9 1] then R (V.bool (AV (V.slice 0 0 (rdN (cc cs)) false 0
 0) now (V.slice 7 0 (0 + k + m) false 0 0) [Blk.row (V.str (dK (rdG (cc cs) 0)) :: V.str (dG (rdG (cc cs) 0)) :: V.nos 1 (dN (rdG (cc cs) 0)) :: V.int IntKind.i64 (dF
 (rdG (cc cs) 0)) :: V.int IntKind.i64 (dU (rdG (cc cs) 0)) :: V.bool (dCa (rdG (cc cs) 0)) :: rdT (cc cs)) 24 6, Blk.ro true (strs (dL (rdG (cc cs) 0))), Blk.ro true (nmR
 (cc cs) 1), Blk.ro true (nmR (cc cs) 2), Blk.ro true (nmR (cc cs) 3), Blk.dead, Blk.dead, Blk.row (es ++ ds) 9 1, Blk.dead, Blk.row fs 9 1])) else False else R (V.bool
 false) else False else R (V.bool false) else False else False else False else bif cs.length.beq (n * 1) && cs.all V.one then bif (0 + n).ble 9223372036854775807 && ((0 +
 n) * 16).ble 140737488355328 then bif j.beq 0 then bif cs.length.beq (n * 1) && (cs.all isStrV && cs.length.beq n) && ((0 + (0 + k + m) * 1).ble (es ++ ds).length &&
 ((List.take ((0 + k + m) * 1) (List.drop 0 (es ++ ds))).all isStrV && (List.take ((0 + k + m) * 1) (List.drop 0 (es ++ ds))).length.beq (0 + k + m)) && ((cc
 cs).length.ble 9223372036854775807 && (List.map strOfV (List.take ((0 + k + m) * 1) (List.drop 0 (es ++ ds)))).length.ble 9223372036854775807)) then bif judgeC h now
 (List.map strOfV (List.take ((0 + k + m) * 1) (List.drop 0 (es ++ ds)))) (readC (cc cs)) == 0 then bif (0 + (0 + n) * 1).ble cs.length && ((List.take ((0 + n) * 1)
 cs).all isStrV && (List.take ((0 + n) * 1) cs).length.beq (0 + n)) && (ds.length.beq (m * 1) && (ds.all isStrV && ds.length.beq m) && ((List.map strOfV (List.take ((0 +
 n) * 1) cs)).length.ble 9223372036854775807 && (List.map strOfV ds).length.ble 9223372036854775807)) then bif judgeC h now (List.map strOfV ds) (readC (List.map strOfV
 (List.take ((0 + n) * 1) cs))) == 0 then bif AOK (V.slice 0 0 (rdN (cc cs)) false 0 0) (V.slice 7 0 (0 + k + m) false 0 0) [Blk.row (V.str (dK (rdG (cc cs) 0)) :: V.str
 (dG (rdG (cc cs) 0)) :: V.nos 1 (dN (rdG (cc cs) 0)) :: V.int IntKind.i64 (dF (rdG (cc cs) 0)) :: V.int IntKind.i64 (dU (rdG (cc cs) 0)) :: V.bool (dCa (rdG (cc cs) 0))
 :: rdT (cc cs)) 24 6, Blk.ro true (strs (dL (rdG (cc cs) 0))), Blk.ro true (nmR (cc cs) 1), Blk.ro true (nmR (cc cs) 2), Blk.ro true (nmR (cc cs) 3), Blk.dead, Blk.dead,
 Blk.row (es ++ ds) 9 1, Blk.dead, Blk.row cs 9 1] then R (V.bool (AV (V.slice 0 0 (rdN (cc cs)) false 0 0) now (V.slice 7 0 (0 + k + m) false 0 0) [Blk.row (V.str (dK
 (rdG (cc cs) 0)) :: V.str (dG (rdG (cc cs) 0)) :: V.nos 1 (dN (rdG (cc cs) 0)) :: V.int IntKind.i64 (dF (rdG (cc cs) 0)) :: V.int IntKind.i64 (dU (rdG (cc cs) 0)) ::
 V.bool (dCa (rdG (cc cs) 0)) :: rdT (cc cs)) 24 6, Blk.ro true (strs (dL (rdG (cc cs) 0))), Blk.ro true (nmR (cc cs) 1), Blk.ro true (nmR (cc cs) 2), Blk.ro true (nmR (cc
 cs) 3), Blk.dead, Blk.dead, Blk.row (es ++ ds) 9 1, Blk.dead, Blk.row cs 9 1])) else False else R (V.bool false) else False else R (V.bool false) else False else bif
 fs.length.beq (j * 1) && fs.all V.one then bif cs.length.beq ((0 + n) * 1) then bif (0 + n + j).ble 9223372036854775807 && ((0 + n + j) * 16).ble 140737488355328 then bif
 cs.length.beq (n * 1) && (cs.all isStrV && cs.length.beq n) && ((0 + (0 + k + m) * 1).ble (es ++ ds).length && ((List.take ((0 + k + m) * 1) (List.drop 0 (es ++ ds))).all
 isStrV && (List.take ((0 + k + m) * 1) (List.drop 0 (es ++ ds))).length.beq (0 + k + m)) && ((cc cs).length.ble 9223372036854775807 && (List.map strOfV (List.take ((0 + k
 + m) * 1) (List.drop 0 (es ++ ds)))).length.ble 9223372036854775807)) then bif judgeC h now (List.map strOfV (List.take ((0 + k + m) * 1) (List.drop 0 (es ++ ds))))
 (readC (cc cs)) == 0 then bif (0 + (0 + n + j) * 1).ble (cs ++ fs).length && ((List.take ((0 + n + j) * 1) (List.drop 0 (cs ++ fs))).all isStrV && (List.take ((0 + n + j)
 * 1) (List.drop 0 (cs ++ fs))).length.beq (0 + n + j)) && (ds.length.beq (m * 1) && (ds.all isStrV && ds.length.beq m) && ((List.map strOfV (List.take ((0 + n + j) * 1)
 (List.drop 0 (cs ++ fs)))).length.ble 9223372036854775807 && (List.map strOfV ds).length.ble 9223372036854775807)) then bif judgeC h now (List.map strOfV ds) (readC
 (List.map strOfV (List.take ((0 + n + j) * 1) (List.drop 0 (cs ++ fs))))) == 0 then bif AOK (V.slice 0 0 (rdN (cc cs)) false 0 0) (V.slice 7 0 (0 + k + m) false 0 0)
 [Blk.row (V.str (dK (rdG (cc cs) 0)) :: V.str (dG (rdG (cc cs) 0)) :: V.nos 1 (dN (rdG (cc cs) 0)) :: V.int IntKind.i64 (dF (rdG (cc cs) 0)) :: V.int IntKind.i64 (dU (rdG
 (cc cs) 0)) :: V.bool (dCa (rdG (cc cs) 0)) :: rdT (cc cs)) 24 6, Blk.ro true (strs (dL (rdG (cc cs) 0))), Blk.ro true (nmR (cc cs) 1), Blk.ro true (nmR (cc cs) 2),
 Blk.ro true (nmR (cc cs) 3), Blk.dead, Blk.dead, Blk.row (es ++ ds) 9 1, Blk.dead, Blk.dead, Blk.row (cs ++ fs) 9 1] then R (V.bool (AV (V.slice 0 0 (rdN (cc cs)) false 0
 0) now (V.slice 7 0 (0 + k + m) false 0 0) [Blk.row (V.str (dK (rdG (cc cs) 0)) :: V.str (dG (rdG (cc cs) 0)) :: V.nos 1 (dN (rdG (cc cs) 0)) :: V.int IntKind.i64 (dF
 (rdG (cc cs) 0)) :: V.int IntKind.i64 (dU (rdG (cc cs) 0)) :: V.bool (dCa (rdG (cc cs) 0)) :: rdT (cc cs)) 24 6, Blk.ro true (strs (dL (rdG (cc cs) 0))), Blk.ro true (nmR
 (cc cs) 1), Blk.ro true (nmR (cc cs) 2), Blk.ro true (nmR (cc cs) 3), Blk.dead, Blk.dead, Blk.row (es ++ ds) 9 1, Blk.dead, Blk.dead, Blk.row (cs ++ fs) 9 1])) else False
 else R (V.bool false) else False else R (V.bool false) else False else False else False else False else False else False else False else False else False else False else
 False else False else bif !(judgeC h now (List.map strOfV ds) (readC (cc cs)) == 0) == false then R (V.bool false) else bif decide (judgeC h now (List.map strOfV ds)
 (readC (cc cs)) > 3) then R (V.bool false) else bif decide ((↑(rdN (cc cs)) : Int) > 0) then bif true && decide (0 < (↑(rdN (cc cs)) : Int)) then bif (dN (rdG (cc cs) 0)
 * 1).ble (strs (dL (rdG (cc cs) 0))).length && ((List.take (dN (rdG (cc cs) 0) * 1) (strs (dL (rdG (cc cs) 0)))).all isStrV && (List.take (dN (rdG (cc cs) 0) * 1) (strs
 (dL (rdG (cc cs) 0)))).length.beq (dN (rdG (cc cs) 0))) then bif (judgeC h now (List.map strOfV ds) (readC (cc cs)) == 1) == datesB (dF (rdG (cc cs) 0)) (dU (rdG (cc cs)
 0)) now then R (V.bool false) else R (V.bool true) else False else False else R (V.bool true) else False else False else bif !(judgeC h now (List.map strOfV ds) (readC
 (cc cs)) == 0) == false then R (V.bool false) else bif decide (judgeC h now (List.map strOfV ds) (readC (cc cs)) > 3) then R (V.bool false) else bif decide ((↑(rdN (cc
 cs)) : Int) > 0) then bif true && decide (0 < (↑(rdN (cc cs)) : Int)) then bif (dN (rdG (cc cs) 0) * 1).ble (strs (dL (rdG (cc cs) 0))).length && ((List.take (dN (rdG (cc
 cs) 0) * 1) (strs (dL (rdG (cc cs) 0)))).all isStrV && (List.take (dN (rdG (cc cs) 0) * 1) (strs (dL (rdG (cc cs) 0)))).length.beq (dN (rdG (cc cs) 0))) then bif (judgeC
 h now (List.map strOfV ds) (readC (cc cs)) == 1) == datesB (dF (rdG (cc cs) 0)) (dU (rdG (cc cs) 0)) now then R (V.bool false) else R (V.bool true) else False else False
 else R (V.bool true) else False else False else bif !(judgeC h now (List.map strOfV ds) (readC (cc cs)) == 0) == false then R (V.bool false) else bif decide (judgeC h now
 (List.map strOfV ds) (readC (cc cs)) > 3) then R (V.bool false) else bif decide ((↑(rdN (cc cs)) : Int) > 0) then bif true && decide (0 < (↑(rdN (cc cs)) : Int)) then bif
 (dN (rdG (cc cs) 0) * 1).ble (strs (dL (rdG (cc cs) 0))).length && ((List.take (dN (rdG (cc cs) 0) * 1) (strs (dL (rdG (cc cs) 0)))).all isStrV && (List.take (dN (rdG (cc
 cs) 0) * 1) (strs (dL (rdG (cc cs) 0)))).length.beq (dN (rdG (cc cs) 0))) then bif (judgeC h now (List.map strOfV ds) (readC (cc cs)) == 1) == datesB (dF (rdG (cc cs) 0))
 (dU (rdG (cc cs) 0)) now then R (V.bool false) else R (V.bool true) else False else False else R (V.bool true) else False else False else False else False else False else
 False) := by kernel_rfl
theorem any_more {α : Type} {p : α → Bool} (a b : List α) (h : b.any p = true) : (a ++ b).any p = true := by rw [List.any_append, h, Bool.or_true]
theorem anch_more {now : Int} {an : List (List UInt8)} (mo : List (List UInt8)) : ∀ (L : List CR) (p : Option CR), anchP now an p L = true → anchP now (mo ++ an) p L = true
  | [], p, h => by cases h
  | d :: r, p, h => by
    rw [anchP, Bool.and_eq_true, Bool.and_eq_true, Bool.or_eq_true] at h ⊢
    refine ⟨h.1, h.2.1, ?_⟩
    rcases h.2.2 with h | h
    · exact .inl (any_more _ _ h)
    · exact .inr (anch_more mo r _ h)
theorem anch_ext {now : Int} {an : List (List UInt8)} (E : List CR) : ∀ (L : List CR) (p : Option CR), anchP now an p L = true → anchP now an p (L ++ E) = true
  | [], p, h => by cases h
  | d :: r, p, h => by
    rw [List.cons_append, anchP, Bool.and_eq_true, Bool.and_eq_true, Bool.or_eq_true]
    rw [anchP, Bool.and_eq_true, Bool.and_eq_true, Bool.or_eq_true] at h
    refine ⟨h.1, h.2.1, ?_⟩
    rcases h.2.2 with h | h
    · exact .inl h
    · exact .inr (anch_ext E r _ h)
theorem judge_more {h : List UInt8} {now : Int} {an : List (List UInt8)} {L : List CR} (mo : List (List UInt8)) (hj : judgeC h now an L = 0) : judgeC h now (mo ++ an) L = 0 := by
  obtain ⟨c, r, rfl, q1, q2, q3⟩ := judge_right.1 hj
  exact judge_right.2 ⟨c, r, rfl, q1, q2, anch_more mo _ _ q3⟩
theorem goodP_app : ∀ a b : List (List UInt8), ∃ E, goodP (a ++ b) = goodP a ++ E
  | [], b => ⟨goodP b, rfl⟩
  | s :: r, b => by
    obtain ⟨E, h⟩ := goodP_app r b
    rw [List.cons_append, goodP, goodP]
    cases decE s == 0 with
    | true => exact ⟨E, by rw [cond_true, cond_true, h]; rfl⟩
    | false => exact ⟨[], rfl⟩
theorem readC_app (l be : List (List UInt8)) : ∃ E, readC (l ++ be) = readC l ++ E := by
  unfold readC readS
  rw [List.take_append]
  obtain ⟨E, h⟩ := goodP_app (l.take 4) (be.take (4 - l.length))
  exact ⟨E.map crOf, by rw [h, List.map_append]⟩
theorem judge_ext {h : List UInt8} {now : Int} {an l : List (List UInt8)} (be : List (List UInt8)) (hj : judgeC h now an (readC l) = 0) : judgeC h now an (readC (l ++ be)) = 0 := by
  obtain ⟨E, hE⟩ := readC_app l be
  obtain ⟨c, r, e, q1, q2, q3⟩ := judge_right.1 hj
  rw [hE, e]
  rw [e] at q3
  exact judge_right.2 ⟨c, r ++ E, rfl, q1, q2, anch_ext E _ _ q3⟩
theorem loN_ge : ∀ (l : List (List UInt8)) (n : Nat), n + 5 * l.length ≤ loN n l ∨ 6000 ≤ loN n l
  | [], n => .inl (by simp [loN])
  | s :: r, n => by
    rw [loN]
    split
    · rcases loN_ge r (n + 5 + min 6000 s.length) with h | h
      · exact .inl (by rw [List.length_cons]; omega)
      · exact .inr h
    · exact .inr (by omega)
theorem short_of {l : List (List UInt8)} (h : longS l = false) : l.length ≤ 1200 := by
  have h := of_decide_eq_false h
  rcases loN_ge l 0 with h1 | h1 <;> omega
theorem rdN_pos {l : List (List UInt8)} (h : rdN l ≠ 0) : ∃ r, readC l = crOf (rdG l 0) :: r := by
  obtain ⟨j, hj⟩ : ∃ j, rdN l = j + 1 := ⟨rdN l - 1, by omega⟩
  rw [readC_of hj, List.range_succ_eq_map]
  exact ⟨_, rfl⟩
/-- What lies there of a chain's certificates. -/
structure RdAt (st : St) (l : List (List UInt8)) : Prop where
  b0 : st[0]? = some (.row (rdA (rdG l 0) 1 (rdT l)) 24 6)
  b1 : st[1]? = some (.ro true (strs (dL (rdG l 0))))
  b2 : st[2]? = some (.ro true (nmR l 1))
  b3 : st[3]? = some (.ro true (nmR l 2))
  b4 : st[4]? = some (.ro true (nmR l 3))
theorem rd_view {st : St} {l : List (List UInt8)} (h : RdAt st l) (h0 : rdN l ≠ 0) : viewR st (.slice 0 0 (rdN l) false 0 0) = some (true, readC l) := by
  have h4 := (rdN_le l).1
  have g1 := h.b1
  have g2 := h.b2
  have g3 := h.b3
  have g4 := h.b4
  have go : ∀ cs L, viewC st 6 (.slice 0 0 (rdN l) false 0 0) = some (true, (rdN l, cs)) → isCr st cs = true → crD st cs = L → L.length = rdN l → viewR st (.slice 0 0 (rdN l) false 0 0) = some (true, L) := by
    intro cs L e1 e2 e3 e4
    unfold viewR
    rw [e1]
    simp only [e2, e3, e4, Nat.beq_refl, Bool.and_self]
  have hb := h.b0
  rcases (by omega : rdN l = 1 ∨ rdN l = 2 ∨ rdN l = 3 ∨ rdN l = 4) with hj | hj | hj | hj
  · rw [readC_of hj]
    have hv : viewC st 6 (.slice 0 0 (rdN l) false 0 0) = some (true, (rdN l, rdA (rdG l 0) 1 [])) := by
      simp only [viewC, hb]; unfold rdT; rw [hj]; rfl
    exact go _ _ hv ((cr_rdA g1).1.trans rfl) ((cr_rdA g1).2.trans rfl) (by rw [hj]; rfl)
  · rw [readC_of hj]
    have hv : viewC st 6 (.slice 0 0 (rdN l) false 0 0) = some (true, (rdN l, rdA (rdG l 0) 1 (rdA (rdG l 1) 2 []))) := by
      simp only [viewC, hb]; unfold rdT; rw [hj]; rfl
    have n1 : nmR l 1 = strs (dL (rdG l 1)) := by unfold nmR; rw [hj]; rfl
    rw [n1] at g2
    exact go _ _ hv ((cr_rdA g1).1.trans ((cr_rdA g2).1.trans rfl)) (by rw [(cr_rdA g1).2, (cr_rdA g2).2]; rfl) (by rw [hj]; rfl)
  · rw [readC_of hj]
    have hv : viewC st 6 (.slice 0 0 (rdN l) false 0 0) = some (true, (rdN l, rdA (rdG l 0) 1 (rdA (rdG l 1) 2 (rdA (rdG l 2) 3 [])))) := by
      simp only [viewC, hb]; unfold rdT; rw [hj]; rfl
    have n1 : nmR l 1 = strs (dL (rdG l 1)) := by unfold nmR; rw [hj]; rfl
    have n2 : nmR l 2 = strs (dL (rdG l 2)) := by unfold nmR; rw [hj]; rfl
    rw [n1] at g2
    rw [n2] at g3
    exact go _ _ hv ((cr_rdA g1).1.trans ((cr_rdA g2).1.trans ((cr_rdA g3).1.trans rfl))) (by rw [(cr_rdA g1).2, (cr_rdA g2).2, (cr_rdA g3).2]; rfl) (by rw [hj]; rfl)
  · rw [readC_of hj]
    have hv : viewC st 6 (.slice 0 0 (rdN l) false 0 0) = some (true, (rdN l, rdA (rdG l 0) 1 (rdA (rdG l 1) 2 (rdA (rdG l 2) 3 (rdA (rdG l 3) 4 []))))) := by
      simp only [viewC, hb]; unfold rdT; rw [hj]; rfl
    have n1 : nmR l 1 = strs (dL (rdG l 1)) := by unfold nmR; rw [hj]; rfl
    have n2 : nmR l 2 = strs (dL (rdG l 2)) := by unfold nmR; rw [hj]; rfl
    have n3 : nmR l 3 = strs (dL (rdG l 3)) := by unfold nmR; rw [hj]; rfl
    rw [n1] at g2
    rw [n2] at g3
    rw [n3] at g4
    exact go _ _ hv ((cr_rdA g1).1.trans ((cr_rdA g2).1.trans ((cr_rdA g3).1.trans ((cr_rdA g4).1.trans rfl)))) (by rw [(cr_rdA g1).2, (cr_rdA g2).2, (cr_rdA g3).2, (cr_rdA g4).2]; rfl) (by rw [hj]; rfl)
theorem a_mem {st : St} {l an : List (List UInt8)} {q : V} (now : Int) (h : RdAt st l) (h0 : rdN l ≠ 0) (hq : viewS st q = some (true, an)) (hl : an.length ≤ 9223372036854775807) : aOK (.slice 0 0 (rdN l) false 0 0) q st = true ∧ aV (.slice 0 0 (rdN l) false 0 0) now q st = anchP now an none (readC l) := by
  unfold aOK aV
  rw [rd_view h h0, hq]
  refine ⟨?_, rfl⟩
  have : (readC l).length ≤ 9223372036854775807 := by
    unfold readC; rw [List.length_map]
    have := (rdN_le l).1
    unfold rdN at this; omega
  show (true && (true && (Nat.ble (readC l).length 9223372036854775807 && Nat.ble an.length 9223372036854775807))) = true
  rw [Nat.ble_eq_true_of_le this, Nat.ble_eq_true_of_le hl]; rfl
theorem ccS (l : List (List UInt8)) : cc (strs l) = l := strs_strOf l
theorem oneS : ∀ l : List (List UInt8), (strs l).all V.one = true
  | [] => rfl
  | a :: r => oneS r
theorem appS (a b : List (List UInt8)) : strs a ++ strs b = strs (a ++ b) := by unfold strs; rw [List.map_append]
theorem tkS (a : List (List UInt8)) : List.take a.length (strs a) = strs a := List.take_of_length_le (by rw [strs_len]; exact Nat.le_refl _)
theorem tkS2 (a b : List (List UInt8)) : List.take (a.length + b.length) (strs (a ++ b)) = strs (a ++ b) := List.take_of_length_le (by rw [strs_len, List.length_append]; exact Nat.le_refl _)
theorem bleS (a : Nat) : Nat.ble a a = true := Nat.ble_eq_true_of_le (Nat.le_refl _)
theorem view_row {st : St} {b N : Nat} {a : List (List UInt8)} {t : TypeId} (hb : st[b]? = some (.row (strs a) t 1)) (hn : N = a.length) : viewS st (.slice b 0 N false 0 0) = some (true, a) := by
  subst hn
  simp only [viewS, viewC, hb, Nat.mul_one, Nat.zero_add, List.drop_zero, tkS, strs_len, bleS, strs_isStr, strs_strOf, Nat.beq_refl, Bool.and_self]
theorem leaf_fin {st : St} {b N : Nat} {l a : List (List UInt8)} {t : TypeId} {now : Int} (h0 : rdN l ≠ 0) (hl : a.length ≤ 9223372036854775807) (hA : anchP now a none (readC l) = true) (hst : RdAt st l) (hb : st[b]? = some (.row (strs a) t 1)) (hn : N = a.length) :
    bif aOK (.slice 0 0 (rdN l) false 0 0) (.slice b 0 N false 0 0) st then V.bool (aV (.slice 0 0 (rdN l) false 0 0) now (.slice b 0 N false 0 0) st) = V.bool true else False := by
  obtain ⟨h1, h2⟩ := a_mem now hst h0 (view_row hb hn) hl
  exact must_intro h1 (by rw [h2, hA])
theorem if0 {J : Int} {A B : Prop} (h : J = 0) (a : A) : bif J == 0 then A else B := by subst h; exact a
theorem nil_of {a : List (List UInt8)} (h : a.length.beq 0 = true) : a = [] := List.eq_nil_of_length_eq_zero (Nat.eq_of_beq_eq_true h)
theorem right_close (x : Value) (l : List (List UInt8)) (h : List UInt8) (now : Int) (y : Value) (an : List (List UInt8)) (z : Value) (mo : List (List UInt8)) (u : Value) (be : List (List UInt8)) (h1 : l.length ≤ 9223372036854775807) (h2 : an.length ≤ 9223372036854775807) (h3 : mo.length ≤ 9223372036854775807) (h4 : be.length ≤ 9223372036854775807) :
    FnSat Tryd.prog 4 [lstS x l, .str h, .int .i64 now, lstS y an, lstS z mo, lstS u be] [] (fun v _ => v = .bool true) := by
  refine runW_ok (lim := 9) (n := 10) mixed TR_ok ?_
  unfold lstS
  refine cast (right_law aOK aV x l.length (strs l) h now y an.length (strs an) z mo.length (strs mo) u be.length (strs be) (fun v => v = .bool true)).symm ?_
  refine must_intro (lo_lst [] x l h1).1 ?_
  rw [(lo_lst [] x l h1).2]
  refine bif_intro (fun _ => rfl) (fun g1 => ?_)
  refine must_intro (lo_lst [] y an h2).1 ?_
  rw [(lo_lst [] y an h2).2]
  refine bif_intro (fun _ => rfl) (fun g2 => ?_)
  refine must_intro (lo_lst [] z mo h3).1 ?_
  rw [(lo_lst [] z mo h3).2]
  refine bif_intro (fun _ => rfl) (fun g3 => ?_)
  refine must_intro (lo_lst [] u be h4).1 ?_
  rw [(lo_lst [] u be h4).2]
  refine bif_intro (fun _ => rfl) (fun g4 => ?_)
  refine bif_intro (fun _ => rfl) (fun _ => ?_)
  have s1 := short_of g1
  have s2 := short_of g2
  have s3 := short_of g3
  have s4 := short_of g4
  have m1 : l.length.ble 9223372036854775807 = true := Nat.ble_eq_true_of_le h1
  have m2 : an.length.ble 9223372036854775807 = true := Nat.ble_eq_true_of_le h2
  have m3 : mo.length.ble 9223372036854775807 = true := Nat.ble_eq_true_of_le h3
  have m4 : be.length.ble 9223372036854775807 = true := Nat.ble_eq_true_of_le h4
  have m5 : (mo.length + an.length).ble 9223372036854775807 = true := Nat.ble_eq_true_of_le (by omega)
  have m6 : (l.length + be.length).ble 9223372036854775807 = true := Nat.ble_eq_true_of_le (by omega)
  have n1 : (l.length * 16).ble 140737488355328 = true := Nat.ble_eq_true_of_le (by omega)
  have n2 : (an.length * 16).ble 140737488355328 = true := Nat.ble_eq_true_of_le (by omega)
  have n3 : (mo.length * 16).ble 140737488355328 = true := Nat.ble_eq_true_of_le (by omega)
  have n4 : (be.length * 16).ble 140737488355328 = true := Nat.ble_eq_true_of_le (by omega)
  have n5 : ((mo.length + an.length) * 16).ble 140737488355328 = true := Nat.ble_eq_true_of_le (by omega)
  have n6 : ((l.length + be.length) * 16).ble 140737488355328 = true := Nat.ble_eq_true_of_le (by omega)
  have q1 : ∀ s, (dN s).ble (dL s).length = true := fun s => bleS _
  have q2 : ∀ s, List.take (dN s) (strs (dL s)) = strs (dL s) := fun s => tkS _
  have q3 : ∀ s, (dL s).length.beq (dN s) = true := fun s => Nat.beq_refl _
  have q4 : ∀ s, (dL s).length.ble 9223372036854775807 = true := fun s => Nat.ble_eq_true_of_le (by have := dL_small s; omega)
  simp only [ccS, okS_mk h1, strs_len, Nat.mul_one, Nat.zero_add, Nat.beq_refl, strs_isStr, strs_strOf, oneS, List.drop_zero, appS, tkS, tkS2, bleS, List.length_append, m1, m2, m3, m4, m5, m6, n1, n2, n3, n4, n5, n6, q1, q2, q3, q4, Bool.and_self, Bool.true_and, Bool.and_true, cond_true]
  by_cases h0 : rdN l = 0
  · have hR : readC l = [] := readC_of h0
    rw [h0, hR]
    exact trivial
  obtain ⟨r, hR⟩ := rdN_pos h0
  have l0 : ¬ l.length.beq 0 = true := fun e => h0 (by have := (rdN_le l).2; rw [nil_of e] at this ⊢; exact Nat.le_zero.1 this)
  have p0 : (rdN l).beq 0 = false := by
    cases hq : (rdN l).beq 0 with
    | false => rfl
    | true => exact absurd (Nat.eq_of_beq_eq_true hq) h0
  have p1 : decide (((rdN l : Nat) : Int) > 0) = true := decide_eq_true (by omega)
  have p2 : decide ((0 : Int) < ((rdN l : Nat) : Int)) = true := decide_eq_true (by omega)
  have e0 := a_mem (st := _ :: _ :: _ :: _ :: _ :: []) (q := .lst y an.length (strs an)) now ⟨rfl, rfl, rfl, rfl, rfl⟩ h0 (viewS_lst _ y an) h2
  simp only [rdA] at e0
  simp only [p0, p1, p2, e0.1, e0.2, cond_true, cond_false]
  cases hD : datesB (dF (rdG l 0)) (dU (rdG l 0)) now with
  | false =>
    have hJ : judgeC h now an (readC l) = 1 := by rw [hR]; exact judge_1 (by show (!datesB (dF (rdG l 0)) (dU (rdG l 0)) now) = true; rw [hD]; rfl)
    rw [hJ]; exact trivial
  | true =>
  cases hH : hasH (dL (rdG l 0)) h with
  | false =>
    have hJ : judgeC h now an (readC l) = 2 := by rw [hR]; exact judge_2 (by show (!datesB (dF (rdG l 0)) (dU (rdG l 0)) now) = false; rw [hD]; rfl) (by show (!hasH (dL (rdG l 0)) h) = true; rw [hH]; rfl)
    rw [hJ]; exact trivial
  | true =>
  cases hA : anchP now an none (readC l) with
  | false =>
    have hJ : judgeC h now an (readC l) = 3 := by rw [hR] at hA ⊢; exact judge_3 (by show (!datesB (dF (rdG l 0)) (dU (rdG l 0)) now) = false; rw [hD]; rfl) (by show (!hasH (dL (rdG l 0)) h) = false; rw [hH]; rfl) (by rw [hA]; rfl)
    rw [hJ]; exact trivial
  | true =>
  have hJ : judgeC h now an (readC l) = 0 := by rw [hR] at hA ⊢; exact judge_0 (by show (!datesB (dF (rdG l 0)) (dU (rdG l 0)) now) = false; rw [hD]; rfl) (by show (!hasH (dL (rdG l 0)) h) = false; rw [hH]; rfl) (by rw [hA]; rfl)
  have t1 : (!(judgeC h now an (readC l) == 0) == true) = false := by rw [hJ]; rfl
  have t2 : decide (judgeC h now an (readC l) > 3) = false := by rw [hJ]; rfl
  have t3 : ((judgeC h now an (readC l) == 1) == true) = false := by rw [hJ]; rfl
  simp only [t1, t2, t3, cond_true, cond_false, Bool.not_true]
  have hM : judgeC h now (mo ++ an) (readC l) = 0 := judge_more mo hJ
  have hE : judgeC h now an (readC (l ++ be)) = 0 := judge_ext be hJ
  have hB : anchP now (mo ++ an) none (readC l) = true := anch_more mo _ _ hA
  have h5 : (mo ++ an).length ≤ 9223372036854775807 := by rw [List.length_append]; omega
  refine bif_intro (fun k0 => ?_) (fun _ => ?_)
  · have k1 := nil_of k0
    subst k1
    refine bif_intro (fun a0 => ?_) (fun _ => ?_)
    · have a1 := nil_of a0
      subst a1
      refine bif_intro (fun e => absurd e l0) (fun _ => ?_)
      refine bif_intro (fun b0 => ?_) (fun _ => ?_)
      · have b1 := nil_of b0
        subst b1
        exact if0 hJ (if0 hJ (leaf_fin (a := []) h0 h2 hA ⟨rfl, rfl, rfl, rfl, rfl⟩ rfl rfl))
      · exact if0 hJ (if0 hE (leaf_fin (a := []) h0 h2 hA ⟨rfl, rfl, rfl, rfl, rfl⟩ rfl rfl))
    · refine bif_intro (fun e => absurd e l0) (fun _ => ?_)
      refine bif_intro (fun b0 => ?_) (fun _ => ?_)
      · have b1 := nil_of b0
        subst b1
        exact if0 hJ (if0 hJ (leaf_fin (a := an) h0 h2 hA ⟨rfl, rfl, rfl, rfl, rfl⟩ rfl rfl))
      · exact if0 hJ (if0 hE (leaf_fin (a := an) h0 h2 hA ⟨rfl, rfl, rfl, rfl, rfl⟩ rfl rfl))
  · refine bif_intro (fun a0 => ?_) (fun _ => ?_)
    · have a1 := nil_of a0
      subst a1
      refine bif_intro (fun e => absurd e l0) (fun _ => ?_)
      refine bif_intro (fun b0 => ?_) (fun _ => ?_)
      · have b1 := nil_of b0
        subst b1
        exact if0 (by rw [List.append_nil] at hM; exact hM) (if0 hJ (leaf_fin (a := mo) h0 h3 (by rw [List.append_nil] at hB; exact hB) ⟨rfl, rfl, rfl, rfl, rfl⟩ rfl rfl))
      · exact if0 (by rw [List.append_nil] at hM; exact hM) (if0 hE (leaf_fin (a := mo) h0 h3 (by rw [List.append_nil] at hB; exact hB) ⟨rfl, rfl, rfl, rfl, rfl⟩ rfl rfl))
    · refine bif_intro (fun e => absurd e l0) (fun _ => ?_)
      refine bif_intro (fun b0 => ?_) (fun _ => ?_)
      · have b1 := nil_of b0
        subst b1
        exact if0 hM (if0 hJ (leaf_fin (a := mo ++ an) h0 h5 hB ⟨rfl, rfl, rfl, rfl, rfl⟩ rfl (List.length_append ..).symm))
      · exact if0 hM (if0 hE (leaf_fin (a := mo ++ an) h0 h5 hB ⟨rfl, rfl, rfl, rfl, rfl⟩ rfl (List.length_append ..).symm))
end Go.Proofs.YtakfcajmfgnchaaDoor
