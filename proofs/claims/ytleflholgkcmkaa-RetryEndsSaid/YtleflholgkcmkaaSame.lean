/- Whether two lists of numbers are the same: what it comes to. -/
import Derived.Test.YtleflholgkcmkaaVmc
import Derived.Test.YtleflholgkcmkaaFns
namespace Go.Proofs.Ytleflholgkcmkaa
open Go Go.Vm Go.RowKit
set_option linter.unusedVariables false
noncomputable def T3 : Tab := ⟨ofPure F3, noL, noLks 100⟩
theorem T3_ok : TabOk3 Try.prog T3 := ⟨ofPure_ok F3_ok, noL_ok, noLks_ok 100⟩
structure SS where
  la : List V
  lb : List V
  n : Nat
  m : Nat
  i : Int
def ssV (x : SS) : List V := [.slice 0 0 x.n false 0 0, .slice 1 0 x.m false 0 0, .bool false, .int .i64 x.i]
def ssJ (x : SS) : St := [.ro false x.la, .ro false x.lb]
def ssPre (x : SS) : Bool := decide (0 ≤ x.i) && decide (x.i ≤ x.n) && decide (x.n = x.m) && decide (x.n ≤ x.la.length) && decide (x.n ≤ x.lb.length) && x.la.all (isIntV .i64) && x.lb.all (isIntV .i64) && decide (x.n ≤ 4611686018427387904)
def ssDec : List (Option V) → St → Option SS
  | [some (.slice 0 0 n false 0 0), some (.slice 1 0 m false 0 0), some (.bool false), some (.int .i64 i)], [.ro false la, .ro false lb] => some ⟨la, lb, n, m, i⟩
  | _, _ => none
def cmpL (la lb : List V) : Nat → Nat → Bool × Nat
  | 0, i => (true, i)
  | k + 1, i => bif intOfV (la.getD i (.bool false)) != intOfV (lb.getD i (.bool false)) then (false, i) else cmpL la lb k (i + 1)
def ssOut (x : SS) : List (Bool × Out) := [((cmpL x.la x.lb (x.n - x.i.toNat) x.i.toNat).1, (.exit 0, [.slice 0 0 x.n false 0 0, .slice 1 0 x.m false 0 0, .bool false, .int .i64 (cmpL x.la x.lb (x.n - x.i.toNat) x.i.toNat).2], ssJ x)),
  (true, (.ret, [.slice 0 0 x.n false 0 0, .slice 1 0 x.m false 0 0, .bool false, .int .i64 (cmpL x.la x.lb (x.n - x.i.toNat) x.i.toNat).2], ssJ x))]
theorem ssPre_spec {x : SS} (h : ssPre x = true) : 0 ≤ x.i ∧ x.i ≤ x.n ∧ x.n = x.m ∧ x.n ≤ x.la.length ∧ x.n ≤ x.lb.length ∧ x.la.all (isIntV .i64) = true ∧ x.lb.all (isIntV .i64) = true ∧ x.n ≤ 4611686018427387904 := by
  simp only [ssPre, Bool.and_eq_true, decide_eq_true_eq] at h
  obtain ⟨⟨⟨⟨⟨⟨⟨h1, h2⟩, h3⟩, h4⟩, h5⟩, h6⟩, h7⟩, h8⟩ := h
  exact ⟨h1, h2, h3, h4, h5, h6, h7, h8⟩
theorem all_flat : ∀ {l : List V}, l.all (isIntV .i64) = true → flatL l = true
  | [], _ => rfl
  | v :: r, h => by
    simp only [List.all_cons, Bool.and_eq_true] at h
    simp only [flatL, all_flat h.2, Bool.and_true]
    cases v <;> first | rfl | simp [isIntV] at h
theorem renL_flat (σ : List Nat) : ∀ {l : List V}, l.all (isIntV .i64) = true → renL σ l = some l
  | [], _ => rfl
  | v :: r, h => by
    simp only [List.all_cons, Bool.and_eq_true] at h
    simp only [renL, renL_flat σ h.2]
    cases v <;> first | rfl | simp [isIntV] at h
theorem all_get {l : List V} (h : l.all (isIntV .i64) = true) {i : Nat} (hi : i < l.length) : isIntV .i64 (l.getD i (.bool false)) = true := by
  rw [List.getD_eq_getElem?_getD, List.getElem?_eq_getElem hi]
  exact List.all_eq_true.1 h _ (List.getElem_mem hi)
theorem ss_fits {x : SS} (h : ssPre x = true) : Fits 2 (ssV x) (ssJ x) ((ssV x).map some) (ssJ x) := by
  have hp := ssPre_spec h
  refine ⟨[0, 1], ssV x, rfl, rfl, FitsM.of ⟨.inr ⟨.ro false x.la, .inl ?_, rfl⟩, .inr ⟨.ro false x.lb, .inl ?_, rfl⟩, trivial⟩, by decide, ?_⟩
  · simp only [renB, renL_flat _ hp.2.2.2.2.2.1]
  · simp only [renB, renL_flat _ hp.2.2.2.2.2.2.1]
  · intro i hi
    match i, hi with
    | 0, _ => rfl
    | 1, _ => rfl
theorem ssDec_ok (l : List (Option V)) (s : St) (x : SS) (h : ssDec l s = some x) (hp : ssPre x = true) : Fits 2 (ssV x) (ssJ x) l s := by
  unfold ssDec at h
  split at h
  · cases h; exact ss_fits hp
  · cases h
theorem same_round (la lb : List V) (n m : Nat) (i : Int) (R : Exit → List (Option V) → St → Prop) : roundW Try.prog T3 100 10 (rounds 100) 14 58 [0,1,4,5] [.slice 0 0 n false 0 0, .slice 1 0 m false 0 0, .bool false, .int .i64 i] [.ro false la, .ro false lb] R =
   (
    bif decide (i < (↑n : Int)) then
      bif decide (0 ≤ i) && decide (i < (↑n : Int)) then
        bif (0 + i.toNat * 1).blt la.length then
          bif isIntV IntKind.i64 (la.getD (0 + i.toNat * 1) (V.bool false)) then
            bif decide (0 ≤ i) && decide (i < (↑m : Int)) then
              bif (0 + i.toNat * 1).blt lb.length then
                bif isIntV IntKind.i64 (lb.getD (0 + i.toNat * 1) (V.bool false)) then
                  bif
                      intOfV (la.getD (0 + i.toNat * 1) (V.bool false)) !=
                        intOfV (lb.getD (0 + i.toNat * 1) (V.bool false)) then
                    R Exit.ret
                      [some (V.slice 0 0 n false 0 0), some (V.slice 1 0 m false 0 0), some (V.bool false),
                        some (V.int IntKind.i64 i)]
                      [Blk.ro false la, Blk.ro false lb]
                  else
                    R Exit.normal
                      [some (V.slice 0 0 n false 0 0), some (V.slice 1 0 m false 0 0), some (V.bool false),
                        some (V.int IntKind.i64 (IntKind.i64.wrap (i + 1)))]
                      [Blk.ro false la, Blk.ro false lb]
                else False
              else False
            else False
          else False
        else False
      else False
    else
      R (Exit.exit 0)
        [some (V.slice 0 0 n false 0 0), some (V.slice 1 0 m false 0 0), some (V.bool false), some (V.int IntKind.i64 i)]
        [Blk.ro false la, Blk.ro false lb]) := by kernel_rfl
theorem ss_round (x : SS) (hx : ssPre x = true) : roundW Try.prog T3 100 10 (rounds 100) 14 58 [0,1,4,5] (ssV x) (ssJ x) (RoundOkP 2 ssPre ssV ssJ (fun x => x.n - x.i.toNat) ssOut x) := by
  have hp := ssPre_spec hx
  obtain ⟨p1, p2, p3, p4, p5, p6, p7, p8⟩ := hp
  unfold ssV ssJ
  rw [same_round]
  refine bif_intro (fun h => ?_) (fun h => ?_)
  · have h := of_decide_eq_true h
    have hi : x.i.toNat < x.n := by omega
    have hk : x.n - x.i.toNat = (x.n - (x.i.toNat + 1)) + 1 := by omega
    refine must_intro (by simp; omega) (must_intro ?_ (must_intro ?_ (must_intro (by simp; omega) (must_intro ?_ (must_intro ?_ ?_)))))
    · exact Nat.ble_eq_true_of_le (by omega)
    · exact all_get p6 (by omega)
    · exact Nat.ble_eq_true_of_le (by omega)
    · exact all_get p7 (by omega)
    · simp only [Nat.zero_add, Nat.mul_one]
      refine bif_intro (fun h1 => ?_) (fun h1 => ?_)
      · have e : cmpL x.la x.lb (x.n - x.i.toNat) x.i.toNat = (false, x.i.toNat) := by
          rw [hk]; simp only [cmpL, h1, cond_true]
        refine ⟨ssV x, ssJ x, by simp only [ssOut, e, pickOut, cond_false, cond_true, ssV, show ((x.i.toNat : Nat) : Int) = x.i by omega], ?_⟩
        exact ss_fits hx
      · have e : cmpL x.la x.lb (x.n - x.i.toNat) x.i.toNat = cmpL x.la x.lb (x.n - (x.i.toNat + 1)) (x.i.toNat + 1) := by
          rw [hk]; simp only [cmpL, h1, cond_false]
        have e1 : IntKind.i64.wrap (x.i + 1) = x.i + 1 := IntWalk.i64_in _ ⟨by omega, by omega⟩
        have e2 : (x.i + 1).toNat = x.i.toNat + 1 := by omega
        have hx' : ssPre ⟨x.la, x.lb, x.n, x.m, x.i + 1⟩ = true := by
          simp only [ssPre, Bool.and_eq_true, decide_eq_true_eq]
          refine ⟨⟨⟨⟨⟨⟨⟨?_, ?_⟩, ?_⟩, ?_⟩, ?_⟩, ?_⟩, ?_⟩, ?_⟩ <;> first | omega | assumption
        refine ⟨⟨x.la, x.lb, x.n, x.m, x.i + 1⟩, hx', ?_, ?_, ?_⟩
        · rw [e1]; exact ss_fits hx'
        · simp only [e2]; omega
        · simp only [ssOut, e2, e]; rfl
  · have h := of_decide_eq_false h
    have e : cmpL x.la x.lb (x.n - x.i.toNat) x.i.toNat = (true, x.i.toNat) := by
      rw [show x.n - x.i.toNat = 0 by omega]; rfl
    refine ⟨ssV x, ssJ x, by simp only [ssOut, e, pickOut, cond_true, ssV, show ((x.i.toNat : Nat) : Int) = x.i by omega], ?_⟩
    exact ss_fits hx
def lkSame : Nat → Trans → Trans := withLoop 58 (loopP 26 [0,1,4,5] ssDec ssPre ssOut) (rounds 100)
theorem lkSame_ok : FnLoopsW Try.prog 2 lkSame 14 :=
  fnLoopW (fnRoundsW 100 2 14) (by kernel_rfl) fun f st Q h => loopP_ok (P := Try.prog) (lim := 100) (n := 10) (g := 14) mixed T3_ok (roundsW 100 _ _) ssV ssJ (fun x => x.n - x.i.toNat) ssDec_ok ss_round h
noncomputable def sameK (lk : Nat → Trans → Trans) (args : List V) (st : St) (R : V → Prop) : Prop := fnK Try.prog (E Try.prog (tabT T3.F) 100 10) (KG Try.prog T3 100 10) lk 14 args st (fun v _ => R v)
theorem sameK_ok {lk : Nat → Trans → Trans} {args : List V} {st : St} {R : V → Prop} (hl : FnLoopsW Try.prog st.length lk 14) (h : sameK lk args st R) : FnSat Try.prog 14 args st (fun v _ => R v) :=
  fnKW_ok mixed (E_ok mixed (tabT_ok T3_ok.F) 100 10) (KG_ok mixed T3_ok 10) hl h
theorem same_tree (la lb : List V) (n m : Nat) (R : V → Prop) : sameK lkSame [.slice 0 0 n false 0 0, .slice 1 0 m false 0 0] [.ro false la, .ro false lb] R =
   (
    bif (↑n : Int) != (↑m : Int) then R (V.bool false)
    else
      bif ssPre { la := la, lb := lb, n := n, m := m, i := 0 } then
        bif (cmpL la lb (n - 0) 0).fst then R (V.bool true) else R (V.bool false)
      else False) := by kernel_rfl
theorem same_nn (R : V → Prop) : sameK (rounds 100) [.nilSlice, .nilSlice] [] R =
   (
    R (V.bool true)) := by kernel_rfl
theorem same_ns (la : List V) (n : Nat) (R : V → Prop) : sameK (rounds 100) [.nilSlice, .slice 0 0 n false 0 0] [.ro false la] R =
   (
    bif 0 != (↑n : Int) then R (V.bool false) else R (V.bool true)) := by kernel_rfl
theorem same_sn (la : List V) (n : Nat) (R : V → Prop) : sameK (rounds 100) [.slice 0 0 n false 0 0, .nilSlice] [.ro false la] R =
   (
    bif (↑n : Int) != 0 then R (V.bool false)
    else
      bif decide (0 < (↑n : Int)) then
        bif true && decide (0 < (↑n : Int)) then
          bif Nat.blt 0 la.length then bif isIntV IntKind.i64 (la.getD 0 (V.bool false)) then False else False else False
        else False
      else R (V.bool true)) := by kernel_rfl
/-- What it comes to, of lists that lie in the memory. -/
def sameF : List V → St → Option (Bool × V)
  | [.nilSlice, .nilSlice], [] => some (true, .bool true)
  | [.nilSlice, .slice 0 0 n false 0 0], [.ro false la] => some (la.all (isIntV .i64), .bool (n == 0))
  | [.slice 0 0 n false 0 0, .nilSlice], [.ro false la] => some (la.all (isIntV .i64), .bool (n == 0))
  | [.slice 0 0 n false 0 0, .slice 1 0 m false 0 0], [.ro false la, .ro false lb] =>
    some (la.all (isIntV .i64) && lb.all (isIntV .i64) && decide (n ≤ la.length) && decide (m ≤ lb.length) && decide (n ≤ 4611686018427387904), .bool (decide (n = m) && (cmpL la lb n 0).1))
  | _, _ => none
theorem sameF_ok (args : List V) (s : St) (v : V) (h : sameF args s = some (true, v)) : v.flat = true ∧ (∀ b ∈ s, flatL b.cs = true) ∧ FnSat Try.prog 14 args s (fun u _ => u = v) := by
  unfold sameF at h
  split at h
  · cases h
    refine ⟨rfl, by simp, sameK_ok (lk := rounds 100) (fnRoundsW 100 _ 14) ?_⟩
    rw [same_nn]
  · rename_i n la
    simp only [Option.some.injEq, Prod.mk.injEq] at h
    obtain ⟨h1, rfl⟩ := h
    refine ⟨rfl, by simp [Blk.cs, all_flat h1], sameK_ok (lk := rounds 100) (fnRoundsW 100 _ 14) ?_⟩
    rw [same_ns]
    refine bif_intro (fun h => ?_) (fun h => ?_)
    · simp only [V.bool.injEq]; simp at h; simp; omega
    · simp only [V.bool.injEq]; simp at h; simp; omega
  · rename_i n la
    simp only [Option.some.injEq, Prod.mk.injEq] at h
    obtain ⟨h1, rfl⟩ := h
    refine ⟨rfl, by simp [Blk.cs, all_flat h1], sameK_ok (lk := rounds 100) (fnRoundsW 100 _ 14) ?_⟩
    rw [same_sn]
    refine bif_intro (fun h => ?_) (fun h => bif_intro (fun h2 => ?_) (fun h2 => ?_))
    · simp only [V.bool.injEq]; simp at h; simp; omega
    · simp at h h2; omega
    · simp only [V.bool.injEq]; simp at h; simp; omega
  · rename_i n m la lb
    simp only [Option.some.injEq, Prod.mk.injEq, Bool.and_eq_true, decide_eq_true_eq] at h
    obtain ⟨⟨⟨⟨⟨h1, h2⟩, h3⟩, h4⟩, h5⟩, rfl⟩ := h
    refine ⟨rfl, by simp [Blk.cs, all_flat h1, all_flat h2], sameK_ok (lk := lkSame) lkSame_ok ?_⟩
    rw [same_tree]
    refine bif_intro (fun h => ?_) (fun h => must_intro ?_ (bif_intro (fun h6 => ?_) (fun h6 => ?_)))
    · have : n ≠ m := by simp at h; omega
      simp [this]
    · have : n = m := by simp at h; omega
      simp [ssPre, h1, h2]
      omega
    · have : n = m := by simp at h; omega
      simp only [Nat.sub_zero] at h6
      simp [this]
      rw [← this]; exact h6
    · have : n = m := by simp at h; omega
      simp only [Nat.sub_zero] at h6
      simp [this]
      rw [← this]; exact h6
  · cases h
end Go.Proofs.Ytleflholgkcmkaa
