/- Things in rows: told, Same. -/
import Derived.Test.YtpjopdemhkcifaaAll
namespace Go.Proofs.Ytpjopdemhkcifaa
open Go Go.Vm Go.RowKit
set_option linter.unusedVariables false
noncomputable def T9a : Tab := ⟨noT, noL, noLks 9⟩
theorem T9a_ok : TabOk3 Try.prog T9a := ⟨noT_ok, noL_ok, noLks_ok 9⟩
/-- A number that is not too great (hidden from whnf). -/
structure Small (n : Nat) : Prop where
  le : n ≤ 1099511627776
noncomputable def okIT (la : List V) (n : Nat) : Bool := @decide (∃ L : List IT, la = cellsI L ∧ n = L.length ∧ Small n) (Classical.propDecidable _)
theorem okIT_spec {la : List V} {n : Nat} : okIT la n = true ↔ ∃ L : List IT, la = cellsI L ∧ n = L.length ∧ Small n := by unfold okIT; simp
theorem td_round0 (la : List V) (n : Nat) (R : Exit → List (Option V) → St → Prop) : roundW Try.prog T9a 9 10 (rounds 9) 26 58 [0,2,3,4] [.slice 0 0 n false 0 0, .nilSlice, .nilSlice, .int .i64 0] [.ro false la] R =
   (
    bif decide (0 < (↑n : Int)) then
      bif true && decide (0 < (↑n : Int)) then
        bif Nat.ble 2 la.length then
          bif isIntV IntKind.u8 (la.getD 0 (V.bool false)) then
            bif isStrV (la.getD 1 (V.bool false)) then
              R Exit.normal
                [some (V.slice 0 0 n false 0 0), some V.nilSlice, some (V.slice 2 0 1 false 0 0),
                  some (V.int IntKind.i64 1)]
                [Blk.ro false la,
                  Blk.row [V.int IntKind.u8 (intOfV (la.getD 0 (V.bool false))), V.str (strOfV (la.getD 1 (V.bool false)))]
                    71 2,
                  Blk.row [V.int IntKind.u8 (intOfV (la.getD 0 (V.bool false))), V.str (strOfV (la.getD 1 (V.bool false)))]
                    71 2]
            else False
          else False
        else False
      else False
    else
      R (Exit.exit 0) [some (V.slice 0 0 n false 0 0), some V.nilSlice, some V.nilSlice, some (V.int IntKind.i64 0)]
        [Blk.ro false la]) := by kernel_rfl
theorem td_round1 (la o : List V) (n k : Nat) (i : Int) (R : Exit → List (Option V) → St → Prop) : roundW Try.prog T9a 9 10 (rounds 9) 26 58 [0,2,3,4] [.slice 0 0 n false 0 0, .nilSlice, .slice 1 0 k false 0 0, .int .i64 i] [.ro false la, .row o 71 2] R =
   (
    bif decide (i < (↑n : Int)) then
      bif decide (0 ≤ i) && decide (i < (↑n : Int)) then
        bif (0 + i.toNat * 2 + 2).ble la.length then
          bif isIntV IntKind.u8 (la.getD (0 + i.toNat * 2 + 0) (V.bool false)) then
            bif isStrV (la.getD (0 + i.toNat * 2 + 1) (V.bool false)) then
              bif o.length.beq (k * 2) then
                bif (k + 1).ble 9223372036854775807 && ((k + 1) * 24).ble 140737488355328 then
                  R Exit.normal
                    [some (V.slice 0 0 n false 0 0), some V.nilSlice, some (V.slice 3 0 (k + 1) false 0 0),
                      some (V.int IntKind.i64 (IntKind.i64.wrap (i + 1)))]
                    [Blk.ro false la, Blk.dead,
                      Blk.row
                        [V.int IntKind.u8 (intOfV (la.getD (0 + i.toNat * 2 + 0) (V.bool false))),
                          V.str (strOfV (la.getD (0 + i.toNat * 2 + 1) (V.bool false)))]
                        71 2,
                      Blk.row
                        (o ++
                          [V.int IntKind.u8 (intOfV (la.getD (0 + i.toNat * 2 + 0) (V.bool false))),
                            V.str (strOfV (la.getD (0 + i.toNat * 2 + 1) (V.bool false)))])
                        71 2]
                else False
              else False
            else False
          else False
        else False
      else False
    else
      R (Exit.exit 0)
        [some (V.slice 0 0 n false 0 0), some V.nilSlice, some (V.slice 1 0 k false 0 0), some (V.int IntKind.i64 i)]
        [Blk.ro false la, Blk.row o 71 2]) := by kernel_rfl
theorem sm_round (la lb : List V) (n m : Nat) (i : Int) (R : Exit → List (Option V) → St → Prop) : roundW Try.prog T9a 9 10 (rounds 9) 25 58 [0,1,4,5] [.slice 0 0 n false 0 0, .slice 1 0 m false 0 0, .bool false, .int .i64 i] [.ro false la, .ro false lb] R =
   (
    bif decide (i < (↑n : Int)) then
      bif decide (0 ≤ i) && decide (i < (↑n : Int)) then
        bif (0 + i.toNat * 2 + 2).ble la.length then
          bif isIntV IntKind.u8 (la.getD (0 + i.toNat * 2 + 0) (V.bool false)) then
            bif isStrV (la.getD (0 + i.toNat * 2 + 1) (V.bool false)) then
              bif decide (0 ≤ i) && decide (i < (↑m : Int)) then
                bif (0 + i.toNat * 2 + 2).ble lb.length then
                  bif isIntV IntKind.u8 (lb.getD (0 + i.toNat * 2 + 0) (V.bool false)) then
                    bif isStrV (lb.getD (0 + i.toNat * 2 + 1) (V.bool false)) then
                      bif
                          intOfV (la.getD (0 + i.toNat * 2 + 0) (V.bool false)) ==
                            intOfV (lb.getD (0 + i.toNat * 2 + 0) (V.bool false)) then
                        bif
                            strOfV (la.getD (0 + i.toNat * 2 + 1) (V.bool false)) ==
                              strOfV (lb.getD (0 + i.toNat * 2 + 1) (V.bool false)) then
                          R Exit.normal
                            [some (V.slice 0 0 n false 0 0), some (V.slice 1 0 m false 0 0), some (V.bool false),
                              some (V.int IntKind.i64 (IntKind.i64.wrap (i + 1)))]
                            [Blk.ro false la, Blk.ro false lb]
                        else
                          R Exit.ret
                            [some (V.slice 0 0 n false 0 0), some (V.slice 1 0 m false 0 0), some (V.bool false),
                              some (V.int IntKind.i64 i)]
                            [Blk.ro false la, Blk.ro false lb]
                      else
                        R Exit.ret
                          [some (V.slice 0 0 n false 0 0), some (V.slice 1 0 m false 0 0), some (V.bool false),
                            some (V.int IntKind.i64 i)]
                          [Blk.ro false la, Blk.ro false lb]
                    else False
                  else False
                else False
              else False
            else False
          else False
        else False
      else False
    else
      R (Exit.exit 0)
        [some (V.slice 0 0 n false 0 0), some (V.slice 1 0 m false 0 0), some (V.bool false), some (V.int IntKind.i64 i)]
        [Blk.ro false la, Blk.ro false lb]) := by kernel_rfl
theorem cellsI_get : ∀ (L : List IT) (i : Nat), i < L.length → (cellsI L).getD (0 + i * 2 + 0) (.bool false) = .int .u8 (L.getD i (0, [])).1 ∧ (cellsI L).getD (0 + i * 2 + 1) (.bool false) = .str (L.getD i (0, [])).2
  | [], i, h => by simp at h
  | x :: r, 0, _ => ⟨rfl, rfl⟩
  | x :: r, i + 1, h => by
    have ih := cellsI_get r i (by simpa using h)
    have e0 : 0 + (i + 1) * 2 + 0 = (0 + i * 2 + 0) + 1 + 1 := by omega
    have e1 : 0 + (i + 1) * 2 + 1 = (0 + i * 2 + 1) + 1 + 1 := by omega
    rw [e0, e1]
    simp only [cellsI, List.getD_cons_succ]
    exact ih
theorem cellsI_take : ∀ (L : List IT) (i : Nat), (cellsI L).take (i * 2) = cellsI (L.take i)
  | [], i => by simp [cellsI]
  | x :: r, 0 => rfl
  | x :: r, i + 1 => by
    have e : (i + 1) * 2 = i * 2 + 1 + 1 := by omega
    rw [e]
    simp only [cellsI, List.take_succ_cons, cellsI_take r i]
theorem cellsI_flat : ∀ L : List IT, flatL (cellsI L) = true
  | [] => rfl
  | x :: r => by simp only [cellsI, flatL, V.flat, cellsI_flat r, Bool.and_self]
/-! ### told -/
structure TD where
  la : List V
  n : Nat
  i : Nat
def tdSl : Nat → V
  | 0 => .nilSlice
  | i + 1 => .slice 1 0 (i + 1) false 0 0
def tdRw (la : List V) : Nat → St
  | 0 => []
  | i + 1 => [.row (la.take ((i + 1) * 2)) 71 2]
def tdV (x : TD) : List V := [.slice 0 0 x.n false 0 0, .nilSlice, tdSl x.i, .int .i64 x.i]
def tdJ (x : TD) : St := .ro false x.la :: tdRw x.la x.i
noncomputable def tdPre (x : TD) : Bool := okIT x.la x.n && decide (x.i ≤ x.n)
def tdMu (x : TD) : Nat := x.n - x.i
def tdOut : Asks TD := fun x K =>
  (x.n = 0 → K (.exit 0) [.slice 0 0 x.n false 0 0, .nilSlice, .nilSlice, .int .i64 0] [.ro false x.la]) ∧
  (x.n ≠ 0 → K (.exit 0) [.slice 0 0 x.n false 0 0, .nilSlice, .slice 1 0 x.n false 0 0, .int .i64 x.n] [.ro false x.la, .row x.la 71 2])
theorem td_fits0 (L : List IT) (n : Nat) : Fits 1 [.slice 0 0 n false 0 0, .nilSlice, .nilSlice, .int .i64 0] [.ro false (cellsI L)] [some (.slice 0 0 n false 0 0), some .nilSlice, some .nilSlice, some (.int .i64 0)] [.ro false (cellsI L)] :=
  ⟨[0], [.slice 0 0 n false 0 0, .nilSlice, .nilSlice, .int .i64 0], rfl, rfl, FitsM.of ⟨.inr ⟨.ro false (cellsI L), .inl (by simp only [renB, cellsI_ren]), rfl⟩, trivial⟩, by simp, fun i hi => by
    match i, hi with
    | 0, _ => rfl⟩
theorem td_fits1 (L O : List IT) (n k : Nat) (i : Int) (c : Nat) (hc : 1 ≤ c) (st : St) (h0 : st[0]? = some (.ro false (cellsI L))) (h1 : st[c]? = some (.row (cellsI O) 71 2)) :
    Fits 1 [.slice 0 0 n false 0 0, .nilSlice, .slice 1 0 k false 0 0, .int .i64 i] [.ro false (cellsI L), .row (cellsI O) 71 2] [some (.slice 0 0 n false 0 0), some .nilSlice, some (.slice c 0 k false 0 0), some (.int .i64 i)] st :=
  ⟨[0, c], [.slice 0 0 n false 0 0, .nilSlice, .slice c 0 k false 0 0, .int .i64 i], rfl, rfl, FitsM.of ⟨.inr ⟨.ro false (cellsI L), .inl (by simp only [renB, cellsI_ren]), h0⟩, .inr ⟨.row (cellsI O) 71 2, .inl (by simp only [renB, cellsI_ren]), h1⟩, trivial⟩, by simp; omega, fun i hi => by
    match i, hi with
    | 0, _ => rfl⟩
theorem td_round (x : TD) (hx : tdPre x = true) : roundW Try.prog T9a 9 10 (rounds 9) 26 58 [0,2,3,4] (tdV x) (tdJ x) (RoundOkA 1 tdPre tdV tdJ tdMu tdOut x) := by
  obtain ⟨la, n, i⟩ := x
  unfold tdPre at hx
  rw [Bool.and_eq_true] at hx
  have hok : okIT la n = true := hx.1
  have hi : i ≤ n := of_decide_eq_true hx.2
  clear hx
  have hE := okIT_spec.1 hok
  have hL := Classical.choose_spec hE
  generalize Classical.choose hE = L at hL
  clear hE
  have hn := hL.2.2.le
  have q1 := hL.1
  have q2 := hL.2.1
  clear hL
  subst q1 q2
  have hlen := cellsI_len L
  have pre2 : i + 1 ≤ L.length → tdPre ⟨cellsI L, L.length, i + 1⟩ = true := by
    intro h; unfold tdPre; rw [Bool.and_eq_true]; exact ⟨hok, decide_eq_true h⟩
  cases i with
  | zero =>
    show roundW Try.prog T9a 9 10 (rounds 9) 26 58 [0,2,3,4] [.slice 0 0 L.length false 0 0, .nilSlice, .nilSlice, .int .i64 0] [.ro false (cellsI L)] _
    rw [td_round0]
    cases hb : decide ((0 : Int) < L.length) with
    | true =>
      have h := of_decide_eq_true hb
      have g := cellsI_get L 0 (by omega)
      simp only [Nat.zero_mul, Nat.add_zero, Nat.zero_add] at g
      rw [g.1, g.2]
      simp only [isIntV, isStrV, intOfV, strOfV, decide_true, Bool.true_and, cond_true]
      refine must_intro (Nat.ble_eq_true_of_le (by omega)) ?_
      refine ⟨⟨cellsI L, L.length, 1⟩, pre2 (by omega), ?_, by simp only [tdMu]; omega, fun K hK => hK⟩
      have e : (cellsI L).take (1 * 2) = cellsI [L.getD 0 (0, [])] := by
        rw [cellsI_take]
        cases L with
        | nil => simp at h
        | cons a r => rfl
      show Fits 1 [.slice 0 0 L.length false 0 0, .nilSlice, .slice 1 0 1 false 0 0, .int .i64 1] [.ro false (cellsI L), .row ((cellsI L).take (1 * 2)) 71 2] _ _
      rw [e]
      exact td_fits1 L [L.getD 0 (0, [])] L.length 1 1 2 (by omega) _ rfl rfl
    | false =>
      have h := of_decide_eq_false hb
      have hl : L.length = 0 := by omega
      rw [cond_false]
      exact ⟨_, _, fun K hK => hK.1 hl, td_fits0 L L.length⟩
  | succ i =>
    show roundW Try.prog T9a 9 10 (rounds 9) 26 58 [0,2,3,4] [.slice 0 0 L.length false 0 0, .nilSlice, .slice 1 0 (i + 1) false 0 0, .int .i64 ((i + 1 : Nat) : Int)] [.ro false (cellsI L), .row ((cellsI L).take ((i + 1) * 2)) 71 2] _
    rw [td_round1]
    cases hb : decide (((i + 1 : Nat) : Int) < L.length) with
    | true =>
      have h := of_decide_eq_true hb
      have g := cellsI_get L (i + 1) (by omega)
      rw [Int.toNat_natCast, g.1, g.2]
      have c1 : decide ((0 : Int) ≤ ((i + 1 : Nat) : Int)) = true := decide_eq_true (by omega)
      have e1 : IntKind.i64.wrap (((i + 1 : Nat) : Int) + 1) = ((i + 1 + 1 : Nat) : Int) := by rw [IntWalk.i64_in _ ⟨by omega, by omega⟩]; omega
      have e2 : (cellsI L).take ((i + 1) * 2) ++ [V.int .u8 (L.getD (i + 1) (0, [])).1, V.str (L.getD (i + 1) (0, [])).2] = cellsI (L.take (i + 1 + 1)) := by
        rw [cellsI_take, cellsI_app]
        congr 1
        conv => rhs; rw [List.take_add_one]
        rw [List.getElem?_eq_getElem (by omega), Option.toList_some, List.getD_eq_getElem?_getD, List.getElem?_eq_getElem (by omega), Option.getD_some]
      rw [c1, e1]
      simp only [isIntV, isStrV, intOfV, strOfV, decide_true, Bool.true_and, cond_true]
      rw [e2]
      refine must_intro (Nat.ble_eq_true_of_le (by omega)) (must_intro ?_ (must_intro ?_ ?_))
      · have : ((cellsI L).take ((i + 1) * 2)).length = (i + 1) * 2 := by rw [List.length_take]; omega
        rw [this]; exact Nat.beq_refl _
      · rw [Bool.and_eq_true]
        exact ⟨Nat.ble_eq_true_of_le (by omega), Nat.ble_eq_true_of_le (by omega)⟩
      · refine ⟨⟨cellsI L, L.length, i + 1 + 1⟩, pre2 (by omega), ?_, by simp only [tdMu]; omega, fun K hK => hK⟩
        show Fits 1 [.slice 0 0 L.length false 0 0, .nilSlice, .slice 1 0 (i + 1 + 1) false 0 0, .int .i64 ((i + 1 + 1 : Nat) : Int)] [.ro false (cellsI L), .row ((cellsI L).take ((i + 1 + 1) * 2)) 71 2] _ _
        rw [cellsI_take]
        exact td_fits1 L (L.take (i + 1 + 1)) L.length (i + 1 + 1) _ 3 (by omega) _ rfl rfl
    | false =>
      have h := of_decide_eq_false hb
      have hl : i + 1 = L.length := by omega
      rw [cond_false]
      have e : (cellsI L).take ((i + 1) * 2) = cellsI L := List.take_of_length_le (by omega)
      rw [e, hl]
      exact ⟨_, _, fun K hK => hK.2 (show L.length ≠ 0 by omega), td_fits1 L L L.length L.length _ 1 (by omega) _ rfl rfl⟩
noncomputable def tdDec : List (Option V) → St → Option TD
  | [some (.slice 0 _ n false 0 0), some .nilSlice, some .nilSlice, some (.int .i64 0)], .ro false la :: _ => some ⟨la, n, 0⟩
  | _, _ => none
noncomputable def lk26 : Nat → Trans → Trans := withLoopC 58 (isSl 0) (loopA 1 (szOf Try.prog 26) [0,2,3,4] tdDec tdPre tdV tdJ tdOut) (rounds 9)
theorem td_loop {f : Fr} {st : St} {Q : Exit → Fr → St → Prop} (h : loopA 1 (szOf Try.prog 26) [0,2,3,4] tdDec tdPre tdV tdJ tdOut f st Q) : CodeSatW Try.prog none 1 (.loop (loopOf Try.prog 26 58)) f st Q :=
  loopA_ok (P := Try.prog) (T := T9a) (k := 1) (lim := 9) (n := 10) (g := 26) (p0 := 58) (lk := rounds 9) mixed T9a_ok (roundsW 9 _ _) tdMu td_round h
theorem lk26_ok : FnLoopsW Try.prog 1 lk26 26 := by
  unfold lk26
  exact fnLoopCW (fnRoundsW 9 1 26) (by kernel_rfl) fun f st Q h => td_loop h
noncomputable def lookK (g : Nat) (lk : Nat → Trans → Trans) (args : List V) (st : St) (R : V → St → Prop) : Prop := fnK Try.prog (E Try.prog (tabT T9a.F) 9 10) (KG Try.prog T9a 9 10) lk g args st R
theorem lookK_ok {g : Nat} {lk : Nat → Trans → Trans} {args : List V} {st : St} {R : V → St → Prop} (hl : FnLoopsW Try.prog st.length lk g) (h : lookK g lk args st R) : FnSat Try.prog g args st R :=
  fnKW_ok mixed (E_ok mixed (tabT_ok T9a_ok.F) 9 10) (KG_ok mixed T9a_ok 10) hl h
theorem told_tree (la : List V) (n : Nat) (R : V → St → Prop) : lookK 26 lk26 [.slice 0 0 n false 0 0] [.ro false la] R =
   (
    Fits 1 [V.slice 0 0 n false 0 0, V.nilSlice, V.nilSlice, V.int IntKind.i64 0] [Blk.ro false la]
        [some (V.slice 0 0 n false 0 0), some V.nilSlice, some V.nilSlice, some (V.int IntKind.i64 0)] [Blk.ro false la] ∧
      bif tdPre { la := la, n := n, i := 0 } then
        (n = 0 → R V.nilSlice [Blk.ro false la]) ∧ (n ≠ 0 → R (V.slice 1 0 n false 0 0) [Blk.ro false la, Blk.row la 71 2])
      else False) := by kernel_rfl
theorem told_nil (R : V → St → Prop) : lookK 26 (rounds 9) [.nilSlice] [] R =
   (
    R V.nilSlice []) := by kernel_rfl
/-- What told comes to. -/
noncomputable def toldF : List V → St → Option (List (Bool × (V × St)))
  | [.nilSlice], [] => some [(true, (.nilSlice, []))]
  | [.slice 0 0 n false 0 0], [.ro false la] => some [(okIT la n && Nat.beq n 0, (.nilSlice, [])), (okIT la n, (.slice 0 0 n false 0 0, [.row la 71 2]))]
  | _, _ => none
theorem nil_fits (st : St) : Fits 0 [.nilSlice] [] [some .nilSlice] st := ⟨[], [.nilSlice], rfl, rfl, FitsM.of trivial, by simp, fun i hi => by omega⟩
theorem told_ok (args : List V) (s : St) (l : List (Bool × (V × St))) (v : V) (n : St) (h : toldF args s = some l) (ho : pickO l = some (v, n)) : (∀ b ∈ s, flatL b.cs = true) ∧ FnSat Try.prog 26 args s (fun u st => Fits 0 [v] n [some u] st) := by
  unfold toldF at h
  split at h
  · cases h
    simp only [pickO, cond_true, Option.some.injEq, Prod.mk.injEq] at ho
    obtain ⟨rfl, rfl⟩ := ho
    refine ⟨by simp, lookK_ok (lk := rounds 9) (fnRoundsW 9 _ 26) ?_⟩
    rw [told_nil]
    exact nil_fits _
  · rename_i n la
    cases h
    cases hok : okIT la n with
    | false => rw [hok] at ho; simp [pickO] at ho
    | true =>
      have hE := okIT_spec.1 hok
      have hL := Classical.choose_spec hE
      generalize Classical.choose hE = L at hL
      clear hE
      have q1 := hL.1
      have q2 := hL.2.1
      clear hL
      subst q1 q2
      rw [hok] at ho
      refine ⟨by simp [Blk.cs, cellsI_flat], lookK_ok (lk := lk26) lk26_ok ?_⟩
      rw [told_tree]
      have hpre : tdPre ⟨cellsI L, L.length, 0⟩ = true := by unfold tdPre; rw [Bool.and_eq_true]; exact ⟨hok, decide_eq_true (Nat.zero_le _)⟩
      refine ⟨td_fits0 L L.length, must_intro hpre ⟨fun h => ?_, fun h => ?_⟩⟩
      · have e : Nat.beq L.length 0 = true := by rw [h]; rfl
        rw [e] at ho
        simp only [pickO, Bool.and_self, cond_true, Option.some.injEq, Prod.mk.injEq] at ho
        obtain ⟨rfl, rfl⟩ := ho
        exact nil_fits _
      · have e : Nat.beq L.length 0 = false := by
          cases hb : Nat.beq L.length 0 with
          | false => rfl
          | true => exact absurd (Nat.eq_of_beq_eq_true hb) h
        rw [e] at ho
        simp only [pickO, Bool.and_false, cond_true, cond_false, Option.some.injEq, Prod.mk.injEq] at ho
        obtain ⟨rfl, rfl⟩ := ho
        exact ⟨[1], [.slice 1 0 L.length false 0 0], rfl, rfl, FitsM.of ⟨.inr ⟨.row (cellsI L) 71 2, .inl (by simp only [renB, cellsI_ren]), rfl⟩, trivial⟩, by simp, fun i hi => by omega⟩
  · cases h
/-! ### Same, of rows that are the same -/
structure SM where
  la : List V
  n : Nat
  i : Nat
def smV (x : SM) : List V := [.slice 0 0 x.n false 0 0, .slice 1 0 x.n false 0 0, .bool false, .int .i64 x.i]
def smJ (x : SM) : St := [.ro false x.la, .ro false x.la]
noncomputable def smPre (x : SM) : Bool := okIT x.la x.n && decide (x.i ≤ x.n)
def smMu (x : SM) : Nat := x.n - x.i
def smOut : Asks SM := fun x K => K (.exit 0) [.slice 0 0 x.n false 0 0, .slice 1 0 x.n false 0 0, .bool false, .int .i64 x.n] [.ro false x.la, .ro false x.la]
theorem sm_fits (L : List IT) (n : Nat) (i : Int) : Fits 2 [.slice 0 0 n false 0 0, .slice 1 0 n false 0 0, .bool false, .int .i64 i] [.ro false (cellsI L), .ro false (cellsI L)] [some (.slice 0 0 n false 0 0), some (.slice 1 0 n false 0 0), some (.bool false), some (.int .i64 i)] [.ro false (cellsI L), .ro false (cellsI L)] :=
  ⟨[0, 1], [.slice 0 0 n false 0 0, .slice 1 0 n false 0 0, .bool false, .int .i64 i], rfl, rfl, FitsM.of ⟨.inr ⟨.ro false (cellsI L), .inl (by simp only [renB, cellsI_ren]), rfl⟩, .inr ⟨.ro false (cellsI L), .inl (by simp only [renB, cellsI_ren]), rfl⟩, trivial⟩, by simp, fun i hi => by
    match i, hi with
    | 0, _ | 1, _ => rfl⟩
theorem sm_roundOk (x : SM) (hx : smPre x = true) : roundW Try.prog T9a 9 10 (rounds 9) 25 58 [0,1,4,5] (smV x) (smJ x) (RoundOkA 2 smPre smV smJ smMu smOut x) := by
  obtain ⟨la, n, i⟩ := x
  unfold smPre at hx
  rw [Bool.and_eq_true] at hx
  have hok : okIT la n = true := hx.1
  have hi : i ≤ n := of_decide_eq_true hx.2
  clear hx
  have hE := okIT_spec.1 hok
  have hL := Classical.choose_spec hE
  generalize Classical.choose hE = L at hL
  clear hE
  have hn := hL.2.2.le
  have q1 := hL.1
  have q2 := hL.2.1
  clear hL
  subst q1 q2
  have hlen := cellsI_len L
  show roundW Try.prog T9a 9 10 (rounds 9) 25 58 [0,1,4,5] [.slice 0 0 L.length false 0 0, .slice 1 0 L.length false 0 0, .bool false, .int .i64 i] [.ro false (cellsI L), .ro false (cellsI L)] _
  rw [sm_round]
  cases hb : decide ((i : Int) < L.length) with
  | true =>
    have h := of_decide_eq_true hb
    have g := cellsI_get L i (by omega)
    rw [Int.toNat_natCast, g.1, g.2]
    have c1 : decide ((0 : Int) ≤ (i : Int)) = true := decide_eq_true (by omega)
    have c2 : (0 + i * 2 + 2).ble (cellsI L).length = true := Nat.ble_eq_true_of_le (by omega)
    have e1 : IntKind.i64.wrap ((i : Int) + 1) = ((i + 1 : Nat) : Int) := by rw [IntWalk.i64_in _ ⟨by omega, by omega⟩]; omega
    rw [c1, c2, e1]
    simp only [isIntV, isStrV, intOfV, strOfV, decide_true, Bool.true_and, cond_true, beq_self_eq_true]
    refine ⟨⟨cellsI L, L.length, i + 1⟩, ?_, sm_fits L L.length _, by simp only [smMu]; omega, fun K hK => hK⟩
    unfold smPre
    rw [Bool.and_eq_true]
    exact ⟨hok, decide_eq_true (by show i + 1 ≤ L.length; omega)⟩
  | false =>
    have h := of_decide_eq_false hb
    have hl : i = L.length := by omega
    rw [cond_false, hl]
    exact ⟨_, _, fun K hK => hK, sm_fits L L.length _⟩
noncomputable def smDec : List (Option V) → St → Option SM
  | [some (.slice 0 _ n false 0 0), some (.slice 1 _ _ false 0 0), some (.bool false), some (.int .i64 0)], .ro false la :: _ => some ⟨la, n, 0⟩
  | _, _ => none
noncomputable def lk25 : Nat → Trans → Trans := withLoop 58 (loopA 2 (szOf Try.prog 25) [0,1,4,5] smDec smPre smV smJ smOut) (rounds 9)
theorem sm_loop {f : Fr} {st : St} {Q : Exit → Fr → St → Prop} (h : loopA 2 (szOf Try.prog 25) [0,1,4,5] smDec smPre smV smJ smOut f st Q) : CodeSatW Try.prog none 2 (.loop (loopOf Try.prog 25 58)) f st Q :=
  loopA_ok (P := Try.prog) (T := T9a) (k := 2) (lim := 9) (n := 10) (g := 25) (p0 := 58) (lk := rounds 9) mixed T9a_ok (roundsW 9 _ _) smMu sm_roundOk h
theorem lk25_ok : FnLoopsW Try.prog 2 lk25 25 := by
  unfold lk25
  exact fnLoopW (fnRoundsW 9 2 25) (by kernel_rfl) fun f st Q h => sm_loop h
theorem same_tree (la lb : List V) (n m : Nat) (R : V → St → Prop) : lookK 25 lk25 [.slice 0 0 n false 0 0, .slice 1 0 m false 0 0] [.ro false la, .ro false lb] R =
   (
    bif (↑n : Int) != (↑m : Int) then R (V.bool false) [Blk.ro false la, Blk.ro false lb]
    else
      Fits 2 [V.slice 0 0 n false 0 0, V.slice 1 0 n false 0 0, V.bool false, V.int IntKind.i64 0]
          [Blk.ro false la, Blk.ro false la]
          [some (V.slice 0 0 n false 0 0), some (V.slice 1 0 m false 0 0), some (V.bool false), some (V.int IntKind.i64 0)]
          [Blk.ro false la, Blk.ro false lb] ∧
        bif smPre { la := la, n := n, i := 0 } then R (V.bool true) [Blk.ro false la, Blk.ro false la] else False) := by kernel_rfl
theorem same_nil (R : V → St → Prop) : lookK 25 (rounds 9) [.nilSlice, .nilSlice] [] R =
   (
    R (V.bool true) []) := by kernel_rfl
noncomputable def eqIT (la lb : List V) (n m : Nat) : Bool := @decide (la = lb ∧ n = m ∧ okIT la n = true) (Classical.propDecidable _)
theorem eqIT_spec {la lb : List V} {n m : Nat} : eqIT la lb n m = true ↔ (la = lb ∧ n = m ∧ okIT la n = true) := by unfold eqIT; simp
/-- What Same comes to, of rows that are the same. -/
noncomputable def smF : List V → St → Option (List (Bool × (V × St)))
  | [.nilSlice, .nilSlice], [] => some [(true, (.bool true, []))]
  | [.slice 0 0 n false 0 0, .slice 1 0 m false 0 0], [.ro false la, .ro false lb] => some [(eqIT la lb n m, (.bool true, []))]
  | [.nilSlice, .slice 0 0 _ false 0 0], [.ro false _] => some []
  | [.slice 0 0 _ false 0 0, .nilSlice], [.ro false _] => some []
  | _, _ => none
theorem bool_fits (b : Bool) (st : St) : Fits 0 [.bool b] [] [some (.bool b)] st := ⟨[], [.bool b], rfl, rfl, FitsM.of trivial, by simp, fun i hi => by omega⟩
theorem sm_ok (args : List V) (s : St) (l : List (Bool × (V × St))) (v : V) (n : St) (h : smF args s = some l) (ho : pickO l = some (v, n)) : (∀ b ∈ s, flatL b.cs = true) ∧ FnSat Try.prog 25 args s (fun u st => Fits 0 [v] n [some u] st) := by
  unfold smF at h
  split at h
  · cases h
    simp only [pickO, cond_true, Option.some.injEq, Prod.mk.injEq] at ho
    obtain ⟨rfl, rfl⟩ := ho
    refine ⟨by simp, lookK_ok (lk := rounds 9) (fnRoundsW 9 _ 25) ?_⟩
    rw [same_nil]
    exact bool_fits _ _
  · rename_i n m la lb
    cases h
    cases hq : eqIT la lb n m with
    | false => rw [hq] at ho; simp [pickO] at ho
    | true =>
      rw [hq] at ho
      simp only [pickO, cond_true, Option.some.injEq, Prod.mk.injEq] at ho
      obtain ⟨rfl, rfl⟩ := ho
      have hQ := eqIT_spec.1 hq
      have q0 := hQ.1
      have q3 := hQ.2.1
      have hok := hQ.2.2
      clear hQ
      subst q0 q3
      have hE := okIT_spec.1 hok
      have hL := Classical.choose_spec hE
      generalize Classical.choose hE = L at hL
      clear hE
      have q1 := hL.1
      have q2 := hL.2.1
      clear hL
      subst q1 q2
      refine ⟨by simp [Blk.cs, cellsI_flat], lookK_ok (lk := lk25) lk25_ok ?_⟩
      rw [same_tree]
      have hpre : smPre ⟨cellsI L, L.length, 0⟩ = true := by unfold smPre; rw [Bool.and_eq_true]; exact ⟨hok, decide_eq_true (Nat.zero_le _)⟩
      rw [bne_self_eq_false, cond_false]
      exact ⟨sm_fits L L.length 0, must_intro hpre (bool_fits _ _)⟩
  · cases h; simp [pickO] at ho
  · cases h; simp [pickO] at ho
  · cases h
end Go.Proofs.Ytpjopdemhkcifaa
