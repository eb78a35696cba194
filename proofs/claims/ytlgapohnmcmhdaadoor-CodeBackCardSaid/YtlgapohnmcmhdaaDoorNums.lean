/- The document's number of a text, and text of a number; the program's number of a text. -/
import Derived.Test.YtlgapohnmcmhdaaDoorShelfA
import Derived.Test.YtlgapohnmcmhdaaDoorShelfI
namespace Go.Proofs.YtlgapohnmcmhdaaDoor
open Go Go.Vm Go.RowKit
set_option linter.unusedVariables false
set_option maxRecDepth 4000
theorem trimL_len (p : UInt8 → Bool) : ∀ s : List UInt8, (trimL p s).length ≤ s.length
  | [] => Nat.le_refl _
  | c :: r => by
    have := trimL_len p r
    rw [trimL]
    cases p c with
    | true => rw [cond_true, List.length_cons]; omega
    | false => rw [cond_false]; exact Nat.le_refl _
theorem okL_trimR {s : List UInt8} (p : UInt8 → Bool) (h : okL s = true) : okL (trimR p s) = true := by
  have h1 := okL_le h
  have h2 := trimL_len p s.reverse
  rw [List.length_reverse] at h2
  unfold okL trimR
  rw [List.length_reverse]
  exact decide_eq_true (by omega)
def tens : List UInt8 := [48, 49, 50, 51, 52, 53, 54, 55, 56, 57]
theorem trim_none : trimL isD (trimR isD []) = [] := by simp [trimR, trimL]
def trimT : List V → Option (List (Bool × (V × St)))
  | [.str s, .str t] => bif eqLL [.str t] [.str tens] then some [(okL s, (.str (trimL isD (trimR isD s)), []))] else none
  | _ => none
theorem trim_ok (args : List V) (l : List (Bool × (V × St))) (o : V × St) (h : trimT args = some l) (ho : pickO l = some o) : FnSat Tryd.prog 32 args [] (Is o) := by
  unfold trimT at h
  split at h
  · rename_i s t
    cases he : eqLL [.str t] [.str tens] with
    | false => rw [he] at h; cases h
    | true =>
      rw [he] at h
      cases eqLL_ok _ _ he
      cases h
      cases hk : okL s with
      | false => rw [hk] at ho; cases ho
      | true =>
        rw [hk] at ho
        cases ho
        refine pureW_of (lim := 99) (n := 10) mixed T4_ok rfl rfl ?_
        show runW Tryd.prog T4 99 10 32 [.str s, .str [48, 49, 50, 51, 52, 53, 54, 55, 56, 57]] _
        rw [trim_tree]
        refine bif_intro (fun h => ?_) (fun h => must_intro hk (must_intro (okL_trimR isD hk) rfl))
        have h : s = [] := eq_of_beq h
        rw [h, trim_none]
  · cases h
/-! ### the document's Num -/
structure N1 where
  s : List UInt8
  most : Int
  i : Nat
def n1V (x : N1) : List V := [.str x.s, .int .i64 x.most, .int .i64 0, .int .i64 0, .int .i64 (x.i : Int)]
def n1J (_ : N1) : St := []
def n1Pre (x : N1) : Bool := okL x.s && (Nat.ble x.i x.s.length && (x.s.take x.i).all isD)
def n1Mu (x : N1) : Nat := x.s.length - x.i
def n1Dec : List (Option V) → St → Option N1
  | [some (.str s), some (.int .i64 most), some (.int .i64 0), some (.int .i64 0), some (.int .i64 0)], [] => some ⟨s, most, 0⟩
  | _, _ => none
def n1OutN (s : List UInt8) (most : Int) (K : Exit → List V → St → Prop) : Prop :=
  bif s.all isD then K (.exit 0) [.str s, .int .i64 most, .int .i64 0, .int .i64 0, .int .i64 (s.length : Int)] [] else ∀ i : Int, K .ret [.str s, .int .i64 most, .int .i64 0, .int .i64 4, .int .i64 i] []
def n1Out : Asks N1 := fun x K => n1OutN x.s x.most K
theorem flat_fits (k : Nat) (hk : k = 0) (vs : List V) (st : St) (h : flatL vs = true) : Fits k vs [] (vs.map some) st := ⟨[], vs, rfl, renL_of_flat vs h, FitsM.of trivial, by simp, fun i hi => by omega⟩
theorem take_succ_getD {s : List UInt8} {i : Nat} (h : i < s.length) : s.take (i + 1) = s.take i ++ [s.getD i 0] := by
  rw [List.getD_eq_getElem?_getD, List.getElem?_eq_getElem h, Option.getD_some, List.take_append_getElem h]
theorem n1_roundOk (x : N1) (hx : n1Pre x = true) : roundW Tryd.prog T3 9 10 (rounds 9) 21 58 [0,1,4,5,6] (n1V x) (n1J x) (RoundOkA 0 n1Pre n1V n1J n1Mu n1Out x) := by
  obtain ⟨s, most, i⟩ := x
  unfold n1Pre at hx
  rw [Bool.and_eq_true, Bool.and_eq_true] at hx
  have p1 := okL_le hx.1
  have p2 : i ≤ s.length := Nat.le_of_ble_eq_true hx.2.1
  have p3 : (s.take i).all isD = true := hx.2.2
  simp only at p1
  show roundW Tryd.prog T3 9 10 (rounds 9) 21 58 [0,1,4,5,6] [.str s, .int .i64 most, .int .i64 0, .int .i64 0, .int .i64 (i : Int)] [] _
  rw [n1_round]
  simp only [Int.toNat_natCast]
  have ret : isD (s.getD i 0) = false → i < s.length → RoundOkA 0 n1Pre n1V n1J n1Mu n1Out ⟨s, most, i⟩ .ret [some (.str s), some (.int .i64 most), some (.int .i64 0), some (.int .i64 4), some (.int .i64 (i : Int))] [] := by
    intro h hi
    refine ⟨[.str s, .int .i64 most, .int .i64 0, .int .i64 4, .int .i64 (i : Int)], [], fun K hK => ?_, flat_fits 0 rfl _ _ rfl⟩
    have hK : n1OutN s most K := hK
    have ha : s.all isD = false := by
      cases ha : s.all isD with
      | false => rfl
      | true =>
        rw [List.getD_eq_getElem?_getD, List.getElem?_eq_getElem hi, Option.getD_some, List.all_eq_true.1 ha _ (List.getElem_mem hi)] at h
        cases h
    unfold n1OutN at hK
    rw [ha, cond_false] at hK
    exact hK i
  refine bif_intro (fun hb => ?_) (fun hb => ?_)
  · have hi : i < s.length := by have := of_decide_eq_true hb; omega
    have hw : IntKind.i64.wrap ((i : Int) + 1) = ((i + 1 : Nat) : Int) := by rw [IntWalk.i64_in _ ⟨by omega, by omega⟩]; omega
    have hc : (decide ((0 : Int) ≤ (i : Int)) && i.blt s.length) = true := by rw [Bool.and_eq_true]; exact ⟨decide_eq_true (by omega), Nat.ble_eq_true_of_le (by omega)⟩
    rw [hw]
    refine must_intro hc ?_
    refine bif_intro (fun h1 => ret ?_ hi) (fun h1 => must_intro hc (bif_intro (fun h2 => ret ?_ hi) (fun h2 => ?_)))
    · have h1 := of_decide_eq_true h1
      cases h : isD (s.getD i 0) with
      | false => rfl
      | true => have := (isD_iff _).1 h; omega
    · have h2 := of_decide_eq_true h2
      cases h : isD (s.getD i 0) with
      | false => rfl
      | true => have := (isD_iff _).1 h; omega
    · have h1 := of_decide_eq_false h1
      have h2 := of_decide_eq_false h2
      have hd : isD (s.getD i 0) = true := (isD_iff _).2 ⟨by omega, by omega⟩
      refine ⟨⟨s, most, i + 1⟩, ?_, flat_fits 0 rfl _ _ rfl, ?_, fun K hK => hK⟩
      · unfold n1Pre
        rw [Bool.and_eq_true, Bool.and_eq_true]
        refine ⟨decide_eq_true p1, Nat.ble_eq_true_of_le hi, ?_⟩
        show (s.take (i + 1)).all isD = true
        rw [take_succ_getD hi, List.all_append, p3, List.all_cons, hd]; rfl
      · simp only [n1Mu]; omega
  · have hi : i = s.length := by have := of_decide_eq_false hb; omega
    subst hi
    refine ⟨[.str s, .int .i64 most, .int .i64 0, .int .i64 0, .int .i64 (s.length : Int)], [], fun K hK => ?_, flat_fits 0 rfl _ _ rfl⟩
    have hK : n1OutN s most K := hK
    rw [List.take_length] at p3
    unfold n1OutN at hK
    rw [p3, cond_true] at hK
    exact hK
/-! ### its second loop -/
def n2V (x : N1) : List V := [.str x.s, .int .i64 x.most, .int .i64 0, .int .i64 0, .int .i64 (numF 0 (x.s.take x.i) : Int), .int .i64 (x.i : Int)]
def n2Pre (x : N1) : Bool := okDig x.s && (isI64 x.most && (Nat.ble x.i x.s.length && (Nat.beq x.i 0 || decide ((numF 0 (x.s.take x.i) : Int) ≤ x.most))))
def n2Dec : List (Option V) → St → Option N1
  | [some (.str s), some (.int .i64 most), some (.int .i64 0), some (.int .i64 0), some (.int .i64 0), some (.int .i64 0)], [] => some ⟨s, most, 0⟩
  | _, _ => none
def n2OutN (s : List UInt8) (most : Int) (K : Exit → List V → St → Prop) : Prop :=
  bif decide ((numF 0 s : Int) ≤ most) then K (.exit 2) [.str s, .int .i64 most, .int .i64 0, .int .i64 0, .int .i64 (numF 0 s : Int), .int .i64 (s.length : Int)] [] else ∀ n i : Int, K .ret [.str s, .int .i64 most, .int .i64 0, .int .i64 40, .int .i64 n, .int .i64 i] []
def n2Out : Asks N1 := fun x K => n2OutN x.s x.most K
theorem numF_take_le (s : List UInt8) (i : Nat) : numF 0 (s.take i) ≤ numF 0 s := by
  have := numF_le (s.drop i) (numF 0 (s.take i))
  rw [← numF_append, List.take_append_drop] at this
  exact this
theorem numF_take_succ {s : List UInt8} {i : Nat} (h : i < s.length) : numF 0 (s.take (i + 1)) = numF 0 (s.take i) * 10 + ((s.getD i 0).toNat - 48) := by
  rw [take_succ_getD h, numF_append, numF_cons, numF_nil]; unfold stepD digV; exact Nat.add_left_cancel_iff.2 rfl
theorem n2_roundOk (x : N1) (hx : n2Pre x = true) : roundW Tryd.prog T3 9 10 (rounds 9) 21 250 [0,1,4,5,7,8] (n2V x) (n1J x) (RoundOkA 0 n2Pre n2V n1J n1Mu n2Out x) := by
  obtain ⟨s, most, i⟩ := x
  unfold n2Pre at hx
  rw [Bool.and_eq_true, Bool.and_eq_true, Bool.and_eq_true] at hx
  have p0 : okDig s = true := hx.1
  obtain ⟨p1, p2, p3⟩ := okDig_spec p0
  have p4 : isI64 most = true := hx.2.1
  have p5 : i ≤ s.length := Nat.le_of_ble_eq_true hx.2.2.1
  have p6 : i = 0 ∨ (numF 0 (s.take i) : Int) ≤ most := by
    rcases Bool.or_eq_true_iff.1 hx.2.2.2 with h | h
    · exact .inl (Nat.eq_of_beq_eq_true h)
    · exact .inr (of_decide_eq_true h)
  have p7 : -9223372036854775808 ≤ most ∧ most ≤ 9223372036854775807 := by
    have p4 := p4
    unfold isI64 at p4
    rw [Bool.and_eq_true] at p4
    exact ⟨of_decide_eq_true p4.1, of_decide_eq_true p4.2⟩
  have p8 : i = 0 → numF 0 (s.take i) = 0 := fun h => by subst h; rfl
  have hmono := numF_take_le s (i + 1)
  show roundW Tryd.prog T3 9 10 (rounds 9) 21 250 [0,1,4,5,7,8] [.str s, .int .i64 most, .int .i64 0, .int .i64 0, .int .i64 (numF 0 (s.take i) : Int), .int .i64 (i : Int)] [] _
  rw [n2_round]
  simp only [Int.toNat_natCast]
  have ret : ¬ (numF 0 s : Int) ≤ most → RoundOkA 0 n2Pre n2V n1J n1Mu n2Out ⟨s, most, i⟩ .ret [some (.str s), some (.int .i64 most), some (.int .i64 0), some (.int .i64 40), some (.int .i64 (numF 0 (s.take i) : Int)), some (.int .i64 (i : Int))] [] := by
    intro h
    refine ⟨[.str s, .int .i64 most, .int .i64 0, .int .i64 40, .int .i64 (numF 0 (s.take i) : Int), .int .i64 (i : Int)], [], fun K hK => ?_, flat_fits 0 rfl _ _ rfl⟩
    have hK : n2OutN s most K := hK
    unfold n2OutN at hK
    rw [decide_eq_false h, cond_false] at hK
    exact hK _ _
  refine bif_intro (fun hb => ?_) (fun hb => ?_)
  · have hi : i < s.length := by have := of_decide_eq_true hb; omega
    have hstep := numF_take_succ hi
    have hcd : isD (s.getD i 0) = true := by
      rw [List.getD_eq_getElem?_getD, List.getElem?_eq_getElem hi, Option.getD_some]
      exact List.all_eq_true.1 p3 _ (List.getElem_mem hi)
    have hcd := (isD_iff _).1 hcd
    have hw : IntKind.i64.wrap ((i : Int) + 1) = ((i + 1 : Nat) : Int) := by rw [IntWalk.i64_in _ ⟨by omega, by omega⟩]; omega
    have hc : (decide ((0 : Int) ≤ (i : Int)) && i.blt s.length) = true := by rw [Bool.and_eq_true]; exact ⟨decide_eq_true (by omega), Nat.ble_eq_true_of_le (by omega)⟩
    have hd : IntKind.i64.wrap (IntKind.u8.wrap (((s.getD i 0).toNat : Int) - 48)) = (((s.getD i 0).toNat - 48 : Nat) : Int) := by
      rw [IntWalk.u8_in _ ⟨by omega, by omega⟩, IntWalk.i64_in _ ⟨by omega, by omega⟩]; omega
    simp only [hw, hd]
    generalize hdd : (s.getD i 0).toNat - 48 = d at *
    generalize hnn : numF 0 (s.take i) = n at *
    refine must_intro hc ?_
    refine bif_intro (fun h1 => ret ?_) (fun h1 => ?_)
    · have h1 := of_decide_eq_true h1; omega
    · have h1 : ¬ most < (d : Int) := of_decide_eq_false h1
      have e1 : IntKind.i64.wrap (most - (d : Int)) = most - (d : Int) := IntWalk.i64_in _ ⟨by omega, by omega⟩
      have e2 : IntKind.i64.wrap ((most - (d : Int)).tdiv 10) = (most - (d : Int)) / 10 := by
        rw [Int.tdiv_eq_ediv_of_nonneg (by omega)]; exact IntWalk.i64_in _ ⟨by omega, by omega⟩
      simp only [e1, e2]
      refine bif_intro (fun h2 => ret ?_) (fun h2 => ?_)
      · have h2 := of_decide_eq_true h2; omega
      · have h2 : ¬ ((n : Int) > (most - (d : Int)) / 10) := of_decide_eq_false h2
        have hle : (numF 0 (s.take (i + 1)) : Int) ≤ most := by omega
        have e3 : IntKind.i64.wrap (IntKind.i64.wrap (10 * (n : Int)) + (d : Int)) = (numF 0 (s.take (i + 1)) : Int) := by
          rw [IntWalk.i64_in (10 * (n : Int)) ⟨by omega, by omega⟩, IntWalk.i64_in _ ⟨by omega, by omega⟩]; omega
        rw [e3]
        refine ⟨⟨s, most, i + 1⟩, ?_, flat_fits 0 rfl _ _ rfl, ?_, fun K hK => hK⟩
        · unfold n2Pre
          rw [Bool.and_eq_true, Bool.and_eq_true, Bool.and_eq_true]
          exact ⟨p0, p4, Nat.ble_eq_true_of_le hi, Bool.or_eq_true_iff.2 (.inr (decide_eq_true hle))⟩
        · simp only [n1Mu]; omega
  · have hi : i = s.length := by have := of_decide_eq_false hb; omega
    have hl : 0 < s.length := List.length_pos_iff.2 p2
    subst hi
    rw [List.take_length] at p6 ⊢
    have hle : (numF 0 s : Int) ≤ most := by omega
    refine ⟨[.str s, .int .i64 most, .int .i64 0, .int .i64 0, .int .i64 (numF 0 s : Int), .int .i64 (s.length : Int)], [], fun K hK => ?_, flat_fits 0 rfl _ _ rfl⟩
    have hK : n2OutN s most K := hK
    unfold n2OutN at hK
    rw [decide_eq_true hle, cond_true] at hK
    exact hK
noncomputable def lkNum : Nat → Trans → Trans := withLoop 58 (loopA 0 (szOf Tryd.prog 21) [0,1,4,5,6] n1Dec n1Pre n1V n1J n1Out) (withLoop 250 (loopA 0 (szOf Tryd.prog 21) [0,1,4,5,7,8] n2Dec n2Pre n2V n1J n2Out) (rounds 9))
theorem lkNum_ok : FnLoopsW Tryd.prog 0 lkNum 21 := by
  unfold lkNum
  refine fnLoopW (fnLoopW (fnRoundsW 9 0 21) (by kernel_rfl) fun f st Q h => ?_) (by kernel_rfl) fun f st Q h => ?_
  · exact loopA_ok (P := Tryd.prog) (T := T3) (k := 0) (lim := 9) (n := 10) (g := 21) (p0 := 250) (lk := rounds 9) mixed T3_ok (roundsW 9 _ _) n1Mu n2_roundOk h
  · exact loopA_ok (P := Tryd.prog) (T := T3) (k := 0) (lim := 9) (n := 10) (g := 21) (p0 := 58) (lk := rounds 9) mixed T3_ok (roundsW 9 _ _) n1Mu n1_roundOk h
noncomputable def T5 : Tab := ⟨noT, noL, addLk (noLks 9) 21 0 lkNum⟩
theorem T5_ok : TabOk3 Tryd.prog T5 := ⟨noT_ok, noL_ok, addLk_ok (noLks_ok 9) lkNum_ok⟩
theorem rnum_tree (s : List UInt8) (most : Int) (R : V → Prop) : runW Tryd.prog T5 9 10 21 [.str s, .int .i64 most] R =
   (
    bif s == [] then R (V.tuple [V.int IntKind.i64 0, V.int IntKind.i64 4])
    else
      bif decide ((↑s.length : Int) > 1) then
        bif true && Nat.blt 0 s.length then
          bif (↑(s.getD 0 0).toNat : Int) == 48 then R (V.tuple [V.int IntKind.i64 0, V.int IntKind.i64 4])
          else
            Fits 0 [V.str s, V.int IntKind.i64 most, V.int IntKind.i64 0, V.int IntKind.i64 0, V.int IntKind.i64 0] []
                [some (V.str s), some (V.int IntKind.i64 most), some (V.int IntKind.i64 0), some (V.int IntKind.i64 0),
                  some (V.int IntKind.i64 0)]
                [] ∧
              bif n1Pre { s := s, most := most, i := 0 } then
                bif s.all isD then
                  Fits 0
                      [V.str s, V.int IntKind.i64 most, V.int IntKind.i64 0, V.int IntKind.i64 0, V.int IntKind.i64 0,
                        V.int IntKind.i64 0]
                      []
                      [some (V.str s), some (V.int IntKind.i64 most), some (V.int IntKind.i64 0),
                        some (V.int IntKind.i64 0), some (V.int IntKind.i64 0), some (V.int IntKind.i64 0)]
                      [] ∧
                    bif n2Pre { s := s, most := most, i := 0 } then
                      bif decide ((↑(numF 0 s) : Int) ≤ most) then
                        R (V.tuple [V.int IntKind.i64 (↑(numF 0 s) : Int), V.int IntKind.i64 0])
                      else ∀ (n i : Int), R (V.tuple [V.int IntKind.i64 0, V.int IntKind.i64 40])
                    else False
                else ∀ (i : Int), R (V.tuple [V.int IntKind.i64 0, V.int IntKind.i64 4])
              else False
        else False
      else
        Fits 0 [V.str s, V.int IntKind.i64 most, V.int IntKind.i64 0, V.int IntKind.i64 0, V.int IntKind.i64 0] []
            [some (V.str s), some (V.int IntKind.i64 most), some (V.int IntKind.i64 0), some (V.int IntKind.i64 0),
              some (V.int IntKind.i64 0)]
            [] ∧
          bif n1Pre { s := s, most := most, i := 0 } then
            bif s.all isD then
              Fits 0
                  [V.str s, V.int IntKind.i64 most, V.int IntKind.i64 0, V.int IntKind.i64 0, V.int IntKind.i64 0,
                    V.int IntKind.i64 0]
                  []
                  [some (V.str s), some (V.int IntKind.i64 most), some (V.int IntKind.i64 0), some (V.int IntKind.i64 0),
                    some (V.int IntKind.i64 0), some (V.int IntKind.i64 0)]
                  [] ∧
                bif n2Pre { s := s, most := most, i := 0 } then
                  bif decide ((↑(numF 0 s) : Int) ≤ most) then
                    R (V.tuple [V.int IntKind.i64 (↑(numF 0 s) : Int), V.int IntKind.i64 0])
                  else ∀ (n i : Int), R (V.tuple [V.int IntKind.i64 0, V.int IntKind.i64 40])
                else False
            else ∀ (i : Int), R (V.tuple [V.int IntKind.i64 0, V.int IntKind.i64 4])
          else False) := by kernel_rfl
/-! ### the document's Show -/
structure SH where
  n : Int
  s : List UInt8
  u : Nat
def shV (x : SH) : List V := [.int .i64 x.n, .str [], .int .u64 (x.u : Int), .str x.s]
def shJ (_ : SH) : St := []
def shPre (x : SH) : Bool := Nat.ble x.s.length 25 && (decide ((x.u : Int) ≤ 18446744073709551615) && decide (x.u < 10 ^ (25 - x.s.length)))
def shMu (x : SH) : Nat := x.u
def shDec : List (Option V) → St → Option SH
  | [some (.int .i64 n), some (.str []), some (.int .u64 u), some (.str s)], _ => some ⟨n, s, u.toNat⟩
  | _, _ => none
def shOut : Asks SH := fun x K => ∀ u : Int, K (.exit 0) [.int .i64 x.n, .str [], .int .u64 u, .str (showD x.u x.s)] []
theorem sh_roundOk (x : SH) (hx : shPre x = true) : roundW Tryd.prog T3 9 10 (rounds 9) 22 124 [0,2,3,4] (shV x) (shJ x) (RoundOkA 0 shPre shV shJ shMu shOut x) := by
  obtain ⟨n, s, u⟩ := x
  unfold shPre at hx
  rw [Bool.and_eq_true, Bool.and_eq_true] at hx
  have p1 : s.length ≤ 25 := Nat.le_of_ble_eq_true hx.1
  have p2 : u < 10 ^ (25 - s.length) := of_decide_eq_true hx.2.2
  have p3 : (u : Int) ≤ 18446744073709551615 := of_decide_eq_true hx.2.1
  show roundW Tryd.prog T3 9 10 (rounds 9) 22 124 [0,2,3,4] [.int .i64 n, .str [], .int .u64 (u : Int), .str s] [] _
  rw [sh_round]
  refine bif_intro (fun hb => ?_) (fun hb => ?_)
  · have hu : 9 < u := by have := of_decide_eq_true hb; omega
    have hk : 2 ≤ 25 - s.length := by
      rcases Nat.lt_or_ge (25 - s.length) 2 with h | h
      · have : 10 ^ (25 - s.length) ≤ 10 ^ 1 := Nat.pow_le_pow_right (by omega) (by omega)
        omega
      · exact h
    have e1 : IntKind.u64.wrap ((u : Int).tdiv 10) = ((u / 10 : Nat) : Int) := by rw [IntWalk.u64_quo _ _ ⟨by omega, p3, by omega⟩]; omega
    have e2 : IntKind.u8.wrap (IntKind.u64.wrap (48 + ((u / 10 : Nat) : Int).tmod 10)) = ((48 + u / 10 % 10 : Nat) : Int) := by
      rw [Int.tmod_eq_emod_of_nonneg (by omega), IntWalk.u64_in _ ⟨by omega, by omega⟩, IntWalk.u8_in _ ⟨by omega, by omega⟩]; omega
    simp only [e1, e2]
    refine must_intro (Nat.ble_eq_true_of_le (by omega)) ?_
    have e3 : List.map Vm.byteOf [V.int IntKind.u8 ((48 + u / 10 % 10 : Nat) : Int)] ++ s = [UInt8.ofNat (48 + u / 10 % 10)] ++ s := rfl
    rw [e3]
    refine ⟨⟨n, [UInt8.ofNat (48 + u / 10 % 10)] ++ s, u / 10⟩, ?_, flat_fits 0 rfl _ _ rfl, ?_, fun K hK => ?_⟩
    · have hl : ([UInt8.ofNat (48 + u / 10 % 10)] ++ s).length = s.length + 1 := by simp
      unfold shPre
      simp only [hl]
      rw [Bool.and_eq_true, Bool.and_eq_true]
      refine ⟨Nat.ble_eq_true_of_le (by omega), decide_eq_true (by omega), decide_eq_true ?_⟩
      have e4 : 10 ^ (25 - s.length) = 10 ^ (25 - (s.length + 1)) * 10 := by rw [← Nat.pow_succ]; congr 1; omega
      rw [e4] at p2
      omega
    · simp only [shMu]; omega
    · intro u'
      have hK := hK u'
      rw [← showD_step hu] at hK
      exact hK
  · have hu : u ≤ 9 := by have := of_decide_eq_false hb; omega
    refine ⟨[.int .i64 n, .str [], .int .u64 (u : Int), .str s], [], fun K hK => ?_, flat_fits 0 rfl _ _ rfl⟩
    have hK := hK (u : Int)
    have e : showD u s = s := by unfold showD; rw [Nat.ble_eq_true_of_le hu, cond_true]
    simp only [e] at hK
    exact hK
noncomputable def lkShow : Nat → Trans → Trans := withLoop 124 (loopA 0 (szOf Tryd.prog 22) [0,2,3,4] shDec shPre shV shJ shOut) (rounds 9)
theorem lkShow_ok : FnLoopsW Tryd.prog 0 lkShow 22 := by
  unfold lkShow
  exact fnLoopW (fnRoundsW 9 0 22) (by kernel_rfl) fun f st Q h => loopA_ok (P := Tryd.prog) (T := T3) (k := 0) (lim := 9) (n := 10) (g := 22) (p0 := 124) (lk := rounds 9) mixed T3_ok (roundsW 9 _ _) shMu sh_roundOk h
noncomputable def T6 : Tab := ⟨noT, noL, addLk (noLks 9) 22 0 lkShow⟩
theorem T6_ok : TabOk3 Tryd.prog T6 := ⟨noT_ok, noL_ok, addLk_ok (noLks_ok 9) lkShow_ok⟩
theorem rshow_tree (n : Int) (R : V → Prop) : runW Tryd.prog T6 9 10 22 [.int .i64 n] R =
   (
    bif decide (n < 0) then
      Fits 0
          [V.int IntKind.i64 n, V.str [], V.int IntKind.u64 (↑(IntKind.u64.wrap (0 - IntKind.u64.wrap n)).toNat : Int),
            V.str
              (List.map Vm.byteOf
                [V.int IntKind.u8
                    (IntKind.u8.wrap (IntKind.u64.wrap (48 + (IntKind.u64.wrap (0 - IntKind.u64.wrap n)).tmod 10)))])]
          []
          [some (V.int IntKind.i64 n), some (V.str []),
            some (V.int IntKind.u64 (IntKind.u64.wrap (0 - IntKind.u64.wrap n))),
            some
              (V.str
                (List.map Vm.byteOf
                  [V.int IntKind.u8
                      (IntKind.u8.wrap (IntKind.u64.wrap (48 + (IntKind.u64.wrap (0 - IntKind.u64.wrap n)).tmod 10)))]))]
          [Blk.row
              [V.int IntKind.u8
                  (IntKind.u8.wrap (IntKind.u64.wrap (48 + (IntKind.u64.wrap (0 - IntKind.u64.wrap n)).tmod 10)))]
              5 1] ∧
        bif
            shPre
              { n := n,
                s :=
                  List.map Vm.byteOf
                    [V.int IntKind.u8
                        (IntKind.u8.wrap (IntKind.u64.wrap (48 + (IntKind.u64.wrap (0 - IntKind.u64.wrap n)).tmod 10)))],
                u := (IntKind.u64.wrap (0 - IntKind.u64.wrap n)).toNat } then
          ∀ (u : Int),
            bif decide (n < 0) then
              bif
                  (1 +
                        (showD (IntKind.u64.wrap (0 - IntKind.u64.wrap n)).toNat
                            (List.map Vm.byteOf
                              [V.int IntKind.u8
                                  (IntKind.u8.wrap
                                    (IntKind.u64.wrap
                                      (48 + (IntKind.u64.wrap (0 - IntKind.u64.wrap n)).tmod 10)))])).length).ble
                    9223372036854775807 then
                R
                  (V.str
                    ([45] ++
                      showD (IntKind.u64.wrap (0 - IntKind.u64.wrap n)).toNat
                        (List.map Vm.byteOf
                          [V.int IntKind.u8
                              (IntKind.u8.wrap
                                (IntKind.u64.wrap (48 + (IntKind.u64.wrap (0 - IntKind.u64.wrap n)).tmod 10)))])))
              else False
            else
              R
                (V.str
                  (showD (IntKind.u64.wrap (0 - IntKind.u64.wrap n)).toNat
                    (List.map Vm.byteOf
                      [V.int IntKind.u8
                          (IntKind.u8.wrap
                            (IntKind.u64.wrap (48 + (IntKind.u64.wrap (0 - IntKind.u64.wrap n)).tmod 10)))])))
        else False
    else
      Fits 0
          [V.int IntKind.i64 n, V.str [], V.int IntKind.u64 (↑(IntKind.u64.wrap n).toNat : Int),
            V.str
              (List.map Vm.byteOf
                [V.int IntKind.u8 (IntKind.u8.wrap (IntKind.u64.wrap (48 + (IntKind.u64.wrap n).tmod 10)))])]
          []
          [some (V.int IntKind.i64 n), some (V.str []), some (V.int IntKind.u64 (IntKind.u64.wrap n)),
            some
              (V.str
                (List.map Vm.byteOf
                  [V.int IntKind.u8 (IntKind.u8.wrap (IntKind.u64.wrap (48 + (IntKind.u64.wrap n).tmod 10)))]))]
          [Blk.row [V.int IntKind.u8 (IntKind.u8.wrap (IntKind.u64.wrap (48 + (IntKind.u64.wrap n).tmod 10)))] 5 1] ∧
        bif
            shPre
              { n := n,
                s :=
                  List.map Vm.byteOf
                    [V.int IntKind.u8 (IntKind.u8.wrap (IntKind.u64.wrap (48 + (IntKind.u64.wrap n).tmod 10)))],
                u := (IntKind.u64.wrap n).toNat } then
          ∀ (u : Int),
            bif decide (n < 0) then
              bif
                  (1 +
                        (showD (IntKind.u64.wrap n).toNat
                            (List.map Vm.byteOf
                              [V.int IntKind.u8
                                  (IntKind.u8.wrap (IntKind.u64.wrap (48 + (IntKind.u64.wrap n).tmod 10)))])).length).ble
                    9223372036854775807 then
                R
                  (V.str
                    ([45] ++
                      showD (IntKind.u64.wrap n).toNat
                        (List.map Vm.byteOf
                          [V.int IntKind.u8 (IntKind.u8.wrap (IntKind.u64.wrap (48 + (IntKind.u64.wrap n).tmod 10)))])))
              else False
            else
              R
                (V.str
                  (showD (IntKind.u64.wrap n).toNat
                    (List.map Vm.byteOf
                      [V.int IntKind.u8 (IntKind.u8.wrap (IntKind.u64.wrap (48 + (IntKind.u64.wrap n).tmod 10)))])))
        else False) := by kernel_rfl
noncomputable def T7 : Tab := ⟨addT (addT noT 32 trimT) 33 atoiT, noL, noLks 9⟩
theorem T7_ok : TabOk3 Tryd.prog T7 := ⟨addT_ok (addT_ok noT_ok trim_ok) atoi_ok, noL_ok, noLks_ok 9⟩
theorem cnum_tree (s : List UInt8) (most : Int) (R : V → Prop) : runW Tryd.prog T7 9 10 20 [.str s, .int .i64 most] R =
   (
 bif s == [] then R (V.tuple [V.int IntKind.i64 0, V.int IntKind.i64 4])
 else
 bif decide ((↑s.length : Int) > 1) then
 bif true && Nat.blt 0 s.length then
 bif (↑(s.getD 0 0).toNat : Int) == 48 then R (V.tuple [V.int IntKind.i64 0, V.int IntKind.i64 4])
 else
 bif okL s then
 bif !trimL isD (trimR isD s) == [] then R (V.tuple [V.int IntKind.i64 0, V.int IntKind.i64 4])
 else
 bif okDig s && fitsI s then
 bif decide ((↑(numF 0 s) : Int) > most) then R (V.tuple [V.int IntKind.i64 0, V.int IntKind.i64 40])
 else R (V.tuple [V.int IntKind.i64 (↑(numF 0 s) : Int), V.int IntKind.i64 0])
 else bif okDig s then R (V.tuple [V.int IntKind.i64 0, V.int IntKind.i64 40]) else False
 else False
 else False
 else
 bif okL s then
 bif !trimL isD (trimR isD s) == [] then R (V.tuple [V.int IntKind.i64 0, V.int IntKind.i64 4])
 else
 bif okDig s && fitsI s then
 bif decide ((↑(numF 0 s) : Int) > most) then R (V.tuple [V.int IntKind.i64 0, V.int IntKind.i64 40])
 else R (V.tuple [V.int IntKind.i64 (↑(numF 0 s) : Int), V.int IntKind.i64 0])
 else bif okDig s then R (V.tuple [V.int IntKind.i64 0, V.int IntKind.i64 40]) else False
 else False) := by kernel_rfl
/-! ### closing -/
theorem isI64_spec {n : Int} (h : isI64 n = true) : -9223372036854775808 ≤ n ∧ n ≤ 9223372036854775807 := by
  unfold isI64 at h
  rw [Bool.and_eq_true] at h
  exact ⟨of_decide_eq_true h.1, of_decide_eq_true h.2⟩
/-! ### what a number's text comes to -/
theorem okNum_nil : okNum [] = false := rfl
theorem okNum_zero {s : List UInt8} (h1 : (s.length : Int) > 1) (h2 : (s.getD 0 0).toNat = 48) : okNum s = false := by
  unfold okNum
  rw [Nat.ble_eq_true_of_le (by omega : 2 ≤ s.length), h2]
  simp
theorem okNum_all {s : List UInt8} (h : s.all isD = false) : okNum s = false := by
  unfold okNum
  rw [h, Bool.and_false, Bool.and_false]
theorem okNum_in {s : List UInt8} (h1 : s ≠ []) (h2 : ¬ ((s.length : Int) > 1 ∧ (s.getD 0 0).toNat = 48)) (h : s.all isD = true) : okNum s = true := by
  unfold okNum
  have hl : 0 < s.length := List.length_pos_iff.2 h1
  have e1 : Nat.beq s.length 0 = false := by
    cases h : Nat.beq s.length 0 with
    | false => rfl
    | true => have := Nat.eq_of_beq_eq_true h; omega
  have e2 : (Nat.ble 2 s.length && Nat.beq (s.getD 0 0).toNat 48) = false := by
    cases h : (Nat.ble 2 s.length && Nat.beq (s.getD 0 0).toNat 48) with
    | false => rfl
    | true =>
      rw [Bool.and_eq_true] at h
      have a := Nat.le_of_ble_eq_true h.1
      have b := Nat.eq_of_beq_eq_true h.2
      exact absurd ⟨by omega, b⟩ h2
  rw [h, e1, e2]; rfl
theorem num_none {s : List UInt8} {most : Int} (h : okNum s = false) : numV s most = 0 ∧ numE s most = 4 := by
  unfold numV numE
  rw [h, Bool.false_and, cond_false, cond_false]; exact ⟨rfl, rfl⟩
theorem num_in {s : List UInt8} {most : Int} (h : okNum s = true) (hm : decide ((numF 0 s : Int) ≤ most) = true) : numV s most = (numF 0 s : Int) ∧ numE s most = 0 := by
  unfold numV numE
  rw [h, hm, Bool.true_and, cond_true, cond_true, cond_true]; exact ⟨rfl, rfl⟩
theorem num_out {s : List UInt8} {most : Int} (h : okNum s = true) (hm : decide ((numF 0 s : Int) ≤ most) = false) : numV s most = 0 ∧ numE s most = 40 := by
  unfold numV numE
  rw [h, hm, Bool.true_and, cond_false, cond_true, cond_false]; exact ⟨rfl, rfl⟩
theorem okDig_in {s : List UInt8} (h0 : okL s = true) (h1 : s ≠ []) (h : s.all isD = true) : okDig s = true := by
  unfold okDig
  have hl : 0 < s.length := List.length_pos_iff.2 h1
  have e1 : Nat.beq s.length 0 = false := by
    cases h : Nat.beq s.length 0 with
    | false => rfl
    | true => have := Nat.eq_of_beq_eq_true h; omega
  rw [h0, h, e1]; rfl
def numT : List V → Option (List (Bool × (V × St)))
  | [.str s, .int .i64 most] => some [(okL s && isI64 most, (.tuple [.int .i64 (numV s most), .int .i64 (numE s most)], []))]
  | _ => none
theorem rnum_ok (args : List V) (l : List (Bool × (V × St))) (o : V × St) (h : numT args = some l) (ho : pickO l = some o) : FnSat Tryd.prog 21 args [] (Is o) := by
  unfold numT at h
  split at h
  · rename_i s most
    cases h
    cases hk : (okL s && isI64 most) with
    | false => rw [hk] at ho; cases ho
    | true =>
      rw [hk] at ho
      cases ho
      rw [Bool.and_eq_true] at hk
      refine pureW_of (lim := 9) (n := 10) mixed T5_ok rfl rfl ?_
      rw [rnum_tree]
      refine bif_intro (fun hs => ?_) (fun hs => ?_)
      · have hs : s = [] := eq_of_beq hs
        rw [hs, (num_none okNum_nil).1, (num_none okNum_nil).2]
      have hne : s ≠ [] := fun e => by rw [e] at hs; cases hs
      refine bif_intro (fun h1 => must_intro ?_ (bif_intro (fun h2 => ?_) (fun h2 => ?_))) (fun h1 => ?_)
      · rw [Bool.true_and]; exact Nat.ble_eq_true_of_le (List.length_pos_iff.2 hne)
      · have ho := okNum_zero (of_decide_eq_true h1) (by have := eq_of_beq h2; omega)
        rw [(num_none ho).1, (num_none ho).2]
      · have hz : ¬ ((s.length : Int) > 1 ∧ (s.getD 0 0).toNat = 48) := fun ⟨_, e⟩ => by rw [e] at h2; cases h2
        clear h1 h2
        refine ⟨flat_fits 0 rfl _ _ rfl, must_intro ?_ ?_⟩
        · unfold n1Pre
          rw [Bool.and_eq_true, Bool.and_eq_true]
          exact ⟨hk.1, Nat.ble_eq_true_of_le (Nat.zero_le _), rfl⟩
        · refine bif_intro (fun ha => ?_) (fun ha => fun i => ?_)
          · have ho := okNum_in hne hz ha
            have hd : okDig s = true := okDig_in hk.1 hne ha
            refine ⟨flat_fits 0 rfl _ _ rfl, must_intro ?_ ?_⟩
            · unfold n2Pre
              rw [Bool.and_eq_true, Bool.and_eq_true, Bool.and_eq_true]
              exact ⟨hd, hk.2, Nat.ble_eq_true_of_le (Nat.zero_le _), rfl⟩
            · refine bif_intro (fun hm => ?_) (fun hm => fun n i => ?_)
              · rw [(num_in ho hm).1, (num_in ho hm).2]
              · rw [(num_out ho hm).1, (num_out ho hm).2]
          · have ho := okNum_all ha
            rw [(num_none ho).1, (num_none ho).2]
      · have hz : ¬ ((s.length : Int) > 1 ∧ (s.getD 0 0).toNat = 48) := fun ⟨e, _⟩ => of_decide_eq_false h1 e
        clear h1
        refine ⟨flat_fits 0 rfl _ _ rfl, must_intro ?_ ?_⟩
        · unfold n1Pre
          rw [Bool.and_eq_true, Bool.and_eq_true]
          exact ⟨hk.1, Nat.ble_eq_true_of_le (Nat.zero_le _), rfl⟩
        · refine bif_intro (fun ha => ?_) (fun ha => fun i => ?_)
          · have ho := okNum_in hne hz ha
            have hd : okDig s = true := okDig_in hk.1 hne ha
            refine ⟨flat_fits 0 rfl _ _ rfl, must_intro ?_ ?_⟩
            · unfold n2Pre
              rw [Bool.and_eq_true, Bool.and_eq_true, Bool.and_eq_true]
              exact ⟨hd, hk.2, Nat.ble_eq_true_of_le (Nat.zero_le _), rfl⟩
            · refine bif_intro (fun hm => ?_) (fun hm => fun n i => ?_)
              · rw [(num_in ho hm).1, (num_in ho hm).2]
              · rw [(num_out ho hm).1, (num_out ho hm).2]
          · have ho := okNum_all ha
            rw [(num_none ho).1, (num_none ho).2]
  · cases h
theorem cnum_ok (args : List V) (l : List (Bool × (V × St))) (o : V × St) (h : numT args = some l) (ho : pickO l = some o) : FnSat Tryd.prog 20 args [] (Is o) := by
  unfold numT at h
  split at h
  · rename_i s most
    cases h
    cases hk : (okL s && isI64 most) with
    | false => rw [hk] at ho; cases ho
    | true =>
      rw [hk] at ho
      cases ho
      rw [Bool.and_eq_true] at hk
      refine pureW_of (lim := 9) (n := 10) mixed T7_ok rfl rfl ?_
      rw [cnum_tree]
      refine bif_intro (fun hs => ?_) (fun hs => ?_)
      · have hs : s = [] := eq_of_beq hs
        rw [hs, (num_none okNum_nil).1, (num_none okNum_nil).2]
      have hne : s ≠ [] := fun e => by rw [e] at hs; cases hs
      refine bif_intro (fun h1 => must_intro ?_ (bif_intro (fun h2 => ?_) (fun h2 => ?_))) (fun h1 => ?_)
      · rw [Bool.true_and]; exact Nat.ble_eq_true_of_le (List.length_pos_iff.2 hne)
      · have ho := okNum_zero (of_decide_eq_true h1) (by have := eq_of_beq h2; omega)
        rw [(num_none ho).1, (num_none ho).2]
      · have hz : ¬ ((s.length : Int) > 1 ∧ (s.getD 0 0).toNat = 48) := fun ⟨_, e⟩ => by rw [e] at h2; cases h2
        clear h1 h2
        refine must_intro hk.1 (bif_intro (fun ha => ?_) (fun ha => ?_))
        · have ha : s.all isD = false := by
            cases h : s.all isD with
            | false => rfl
            | true =>
              rw [trim_nil.2 h] at ha
              cases ha
          have ho := okNum_all ha
          rw [(num_none ho).1, (num_none ho).2]
        · have ha : s.all isD = true := by
            refine trim_nil.1 ?_
            cases h : (trimL isD (trimR isD s) == []) with
            | true => exact eq_of_beq h
            | false => rw [h] at ha; cases ha
          have ho := okNum_in hne hz ha
          have hd : okDig s = true := okDig_in hk.1 hne ha
          rw [hd]
          refine bif_intro (fun hf => bif_intro (fun hm => ?_) (fun hm => ?_)) (fun hf => ?_)
          · have hm : decide ((numF 0 s : Int) ≤ most) = false := decide_eq_false (by have := of_decide_eq_true hm; omega)
            rw [(num_out ho hm).1, (num_out ho hm).2]
          · have hm : decide ((numF 0 s : Int) ≤ most) = true := decide_eq_true (by have := of_decide_eq_false hm; omega)
            rw [(num_in ho hm).1, (num_in ho hm).2]
          · refine must_intro rfl ?_
            have hf : fitsI s = false := hf
            have hm : decide ((numF 0 s : Int) ≤ most) = false := decide_eq_false (by have := of_decide_eq_false hf; have := (isI64_spec hk.2).2; omega)
            rw [(num_out ho hm).1, (num_out ho hm).2]
      · have hz : ¬ ((s.length : Int) > 1 ∧ (s.getD 0 0).toNat = 48) := fun ⟨e, _⟩ => of_decide_eq_false h1 e
        clear h1
        refine must_intro hk.1 (bif_intro (fun ha => ?_) (fun ha => ?_))
        · have ha : s.all isD = false := by
            cases h : s.all isD with
            | false => rfl
            | true =>
              rw [trim_nil.2 h] at ha
              cases ha
          have ho := okNum_all ha
          rw [(num_none ho).1, (num_none ho).2]
        · have ha : s.all isD = true := by
            refine trim_nil.1 ?_
            cases h : (trimL isD (trimR isD s) == []) with
            | true => exact eq_of_beq h
            | false => rw [h] at ha; cases ha
          have ho := okNum_in hne hz ha
          have hd : okDig s = true := okDig_in hk.1 hne ha
          rw [hd]
          refine bif_intro (fun hf => bif_intro (fun hm => ?_) (fun hm => ?_)) (fun hf => ?_)
          · have hm : decide ((numF 0 s : Int) ≤ most) = false := decide_eq_false (by have := of_decide_eq_true hm; omega)
            rw [(num_out ho hm).1, (num_out ho hm).2]
          · have hm : decide ((numF 0 s : Int) ≤ most) = true := decide_eq_true (by have := of_decide_eq_false hm; omega)
            rw [(num_in ho hm).1, (num_in ho hm).2]
          · refine must_intro rfl ?_
            have hf : fitsI s = false := hf
            have hm : decide ((numF 0 s : Int) ≤ most) = false := decide_eq_false (by have := of_decide_eq_false hf; have := (isI64_spec hk.2).2; omega)
            rw [(num_out ho hm).1, (num_out ho hm).2]
  · cases h
/-! ### what a number's text is -/
theorem dec_len : ∀ (k u : Nat), 1 ≤ k → u < 10 ^ k → (Lib.decDigits u).length ≤ k := by
  intro k
  induction k with
  | zero => intro u h; omega
  | succ k ih =>
    intro u _ hu
    rw [Lib.decDigits]
    split
    · rw [List.length_singleton]; omega
    · rename_i h
      rw [List.length_append, List.length_singleton]
      rcases Nat.eq_zero_or_pos k with hk | hk
      · subst hk; omega
      · have := ih (u / 10) hk (by rw [Nat.pow_succ] at hu; omega)
        omega
theorem okL_itoa {n : Int} (h : isI64 n = true) : okL (Lib.itoa n) = true := by
  have hn := isI64_spec h
  have e : (10 : Nat) ^ 24 = 1000000000000000000000000 := rfl
  unfold Lib.itoa okL
  split
  · have := dec_len 24 n.natAbs (by omega) (by omega)
    exact decide_eq_true (by rw [List.length_cons]; omega)
  · have := dec_len 24 n.toNat (by omega) (by omega)
    exact decide_eq_true (by omega)
theorem show_byte (u : Nat) (h : (u : Int) ≤ 18446744073709551615) : IntKind.u8.wrap (IntKind.u64.wrap (48 + ((u : Nat) : Int).tmod 10)) = ((48 + u % 10 : Nat) : Int) := by
  rw [Int.tmod_eq_emod_of_nonneg (by omega), IntWalk.u64_in _ ⟨by omega, by omega⟩, IntWalk.u8_in _ ⟨by omega, by omega⟩]; omega
theorem show_bytes (u : Nat) : List.map Vm.byteOf [V.int IntKind.u8 ((48 + u % 10 : Nat) : Int)] = [UInt8.ofNat (48 + u % 10)] := rfl
theorem shPre_in (n : Int) (u : Nat) (h : (u : Int) ≤ 18446744073709551615) : shPre ⟨n, [UInt8.ofNat (48 + u % 10)], u⟩ = true := by
  have e : (10 : Nat) ^ 24 = 1000000000000000000000000 := rfl
  unfold shPre
  rw [Bool.and_eq_true, Bool.and_eq_true]
  refine ⟨rfl, decide_eq_true h, decide_eq_true ?_⟩
  show u < 10 ^ 24
  omega
theorem rshow_ok (args : List V) (l : List (Bool × (V × St))) (o : V × St) (h : itoaF args = some l) (ho : pickO l = some o) : FnSat Tryd.prog 22 args [] (Is o) := by
  unfold itoaF at h
  split at h
  · rename_i n
    cases h
    cases hk : isI64 n with
    | false => rw [hk] at ho; cases ho
    | true =>
      rw [hk] at ho
      cases ho
      have hn := isI64_spec hk
      have e10 : (10 : Nat) ^ 24 = 1000000000000000000000000 := rfl
      refine pureW_of (lim := 9) (n := 10) mixed T6_ok rfl rfl ?_
      rw [rshow_tree]
      refine bif_intro (fun hb => ?_) (fun hb => ?_)
      · have hlt : n < 0 := of_decide_eq_true hb
        have e1 : IntKind.u64.wrap (0 - IntKind.u64.wrap n) = ((n.natAbs : Nat) : Int) := by rw [IntKind.wrap_u64, IntKind.wrap_u64]; omega
        have hu : ((n.natAbs : Nat) : Int) ≤ 18446744073709551615 := by omega
        have hlen := dec_len 24 n.natAbs (by omega) (by omega)
        simp only [e1, show_byte _ hu, Int.toNat_natCast, show_bytes, showD_top]
        refine ⟨flat_fits 0 rfl _ _ rfl, must_intro (shPre_in _ _ hu) (fun u => bif_intro (fun _ => must_intro (Nat.ble_eq_true_of_le (by omega)) ?_) (fun h => absurd (of_decide_eq_false h) (by omega)))⟩
        unfold Lib.itoa
        rw [if_pos hlt]; rfl
      · have hlt : ¬ n < 0 := of_decide_eq_false hb
        have e1 : IntKind.u64.wrap n = ((n.toNat : Nat) : Int) := by rw [IntKind.wrap_u64]; omega
        have hu : ((n.toNat : Nat) : Int) ≤ 18446744073709551615 := by omega
        simp only [e1, show_byte _ hu, Int.toNat_natCast, show_bytes, showD_top]
        refine ⟨flat_fits 0 rfl _ _ rfl, must_intro (shPre_in _ _ hu) (fun u => bif_intro (fun h => absurd (of_decide_eq_true h) hlt) (fun _ => ?_))⟩
        unfold Lib.itoa
        rw [if_neg hlt]
  · cases h
end Go.Proofs.YtlgapohnmcmhdaaDoor
