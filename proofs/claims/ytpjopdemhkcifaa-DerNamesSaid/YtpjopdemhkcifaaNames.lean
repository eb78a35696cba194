/- DerNames: what it comes to. -/
import Derived.Test.YtpjopdemhkcifaaBack
import Derived.Test.YtpjopdemhkcifaaNums
namespace Go.Proofs.Ytpjopdemhkcifaa
open Go Go.Vm Go.RowKit
set_option linter.unusedVariables false
/-! ### getting, of texts however long -/
def getE2 : List UInt8 → Int
  | [] => 8
  | t :: r => if t.toNat % 32 = 31 then 4 else if sizeE r = 0 then (if IntKind.i64.wrap (((r.length + 1 : Nat) : Int) - ((1 + sizeU r : Nat) : Int)) < sizeN r then 8 else 0) else sizeE r
def getT2 (s : List UInt8) : Int := if getE2 s = 0 then ((s.getD 0 0).toNat : Int) else 0
def getX2 (s : List UInt8) : List UInt8 := if getE2 s = 0 then ((s.drop 1).drop (sizeU (s.drop 1))).take (sizeN (s.drop 1)) else []
def getR2 (s : List UInt8) : List UInt8 := if getE2 s = 0 then ((s.drop 1).drop (sizeU (s.drop 1))).drop (sizeN (s.drop 1)) else []
def getF2 : List V → Option V
  | [.str s] => some (.tuple [.agg [.int .u8 (getT2 s), .str (getX2 s)], .str (getR2 s), .int .i64 (getE2 s)])
  | _ => none
theorem get2_ok (args : List V) (v : V) (h : getF2 args = some v) : FnSat Try.prog 21 args [] (Is (v, [])) := by
  unfold getF2 at h
  split at h
  · rename_i s
    cases h
    refine pureW_of (lim := 6) (n := 10) mixed T1_ok rfl rfl ?_
    rw [get_tree]
    cases s with
    | nil => rfl
    | cons t r =>
      have ht := t.toNat_lt
      have hz := size_small r
      have e0 : List.take ((t :: r).length - 1) (List.drop 1 (t :: r)) = r := by simp
      have e1 : IntKind.i64.wrap (1 + (sizeU r : Int)) = ((1 + sizeU r : Nat) : Int) := by rw [IntWalk.i64_in _ ⟨by omega, by omega⟩]; omega
      have e2 : IntKind.i64.wrap (((1 + sizeU r : Nat) : Int) + (sizeN r : Int)) = ((1 + sizeU r + sizeN r : Nat) : Int) := by rw [IntWalk.i64_in _ ⟨by omega, by omega⟩]; omega
      rw [e0]
      simp only [e1, e2, List.getD_cons_zero, and31 _ ht, Int.toNat_natCast, blt_dec, ble_dec, Bool.true_and, List.length_cons]
      have hne : ((t :: r) == []) = false := rfl
      rw [hne, cond_false]
      have q1 : decide (0 < r.length + 1) = true := decide_eq_true (by omega)
      have q2 : (decide (1 ≤ r.length + 1) && decide (r.length + 1 ≤ r.length + 1)) = true := by simp
      rw [q1, cond_true, q2, cond_true]
      refine bif_intro (fun h => ?_) (fun h => bif_intro (fun h1 => ?_) (fun h1 => bif_intro (fun h2 => ?_) (fun h2 => ?_)))
      · have : t.toNat % 32 = 31 := by simp at h; omega
        simp [getT2, getX2, getR2, getE2, this]
      · have h0 : ¬ t.toNat % 32 = 31 := by simp at h; omega
        have h1 : ¬ sizeE r = 0 := by simpa using h1
        simp [getT2, getX2, getR2, getE2, h0, h1]
      · have h0 : ¬ t.toNat % 32 = 31 := by simp at h; omega
        have h1 : sizeE r = 0 := by simpa using h1
        have h2 := of_decide_eq_true h2
        simp only [getT2, getX2, getR2, getE2, h0, h1, if_true, if_false]
        rw [if_pos h2]
        rfl
      · have h0 : ¬ t.toNat % 32 = 31 := by simp at h; omega
        have h1 : sizeE r = 0 := by simpa using h1
        have h2 := of_decide_eq_false h2
        have h3 : sizeU r + sizeN r ≤ r.length := by
          rw [IntKind.wrap_i64] at h2
          omega
        refine must_intro rfl (must_intro (decide_eq_true (by omega)) (must_intro (decide_eq_true (by omega)) (must_intro ?_ (must_intro (decide_eq_true (by omega)) (must_intro ?_ ?_)))))
        · simp; omega
        · simp; omega
        · have f1 : ∀ k, List.drop (1 + k) (t :: r) = List.drop k r := fun k => by rw [Nat.add_comm]; rfl
          have e : getE2 (t :: r) = 0 := by simp only [getE2, h0, h1, if_true, if_false]; rw [if_neg h2]
          simp only [getT2, getX2, getR2, e, if_true, List.getD_cons_zero, List.drop_succ_cons, List.drop_zero, Nat.add_assoc, f1, List.drop_drop]
          congr 5
          · congr 2
            congr 1
            omega
          · congr 2
            rw [List.take_of_length_le (by simp; omega)]
  · cases h
theorem getE2_eq {s : List UInt8} (h : s.length ≤ 1099511627776) : getE2 s = getE s := by
  cases s with
  | nil => rfl
  | cons t r =>
    have hz := size_small r
    simp only [List.length_cons] at h
    simp only [getE2, getE]
    have e : IntKind.i64.wrap (((r.length + 1 : Nat) : Int) - ((1 + sizeU r : Nat) : Int)) = (r.length : Int) - sizeU r := by
      rw [IntWalk.i64_in _ ⟨by omega, by omega⟩]; omega
    rw [e]
    (repeat' split) <;> omega
theorem get2_eq {s : List UInt8} (h : s.length ≤ 1099511627776) : getE2 s = getE s ∧ getT2 s = getT s ∧ getX2 s = getX s ∧ getR2 s = getR s := by
  have e := getE2_eq h
  refine ⟨e, ?_, ?_, ?_⟩ <;> simp only [getT2, getT, getX2, getX, getR2, getR, e]
theorem get2_none {s : List UInt8} (h : getE2 s ≠ 0) : getT2 s = 0 ∧ getX2 s = [] ∧ getR2 s = [] := by
  unfold getT2 getX2 getR2
  rw [if_neg h, if_neg h, if_neg h]
  exact ⟨rfl, rfl, rfl⟩
theorem many_round (b n i : Int) (o : List V) (R : Exit → List (Option V) → St → Prop) : roundW Try.prog T9 9 10 (rounds 9) 22 58 [0,1,4,5,6] [.int .u8 b, .int .i64 n, .str [], .slice 0 0 o.length false 0 0, .int .i64 i] [.row o 5 1] R =
   (
    bif decide (i < n) then
      bif decide (0 ≤ i) && decide (i < (↑o.length : Int)) then
        bif true && (0 + i.toNat * 1 + 1).ble o.length then
          R Exit.normal
            [some (V.int IntKind.u8 b), some (V.int IntKind.i64 n), some (V.str []), some (V.slice 0 0 o.length false 0 0),
              some (V.int IntKind.i64 (IntKind.i64.wrap (i + 1)))]
            [Blk.row (putAt (0 + i.toNat * 1) [V.int IntKind.u8 b] o) 5 1]
        else False
      else False
    else
      R (Exit.exit 0)
        [some (V.int IntKind.u8 b), some (V.int IntKind.i64 n), some (V.str []), some (V.slice 0 0 o.length false 0 0),
          some (V.int IntKind.i64 i)]
        [Blk.row o 5 1]) := by kernel_rfl
structure MS where
  b : Int
  n : Int
  o : List V
  i : Nat
def msV (x : MS) : List V := [.int .u8 x.b, .int .i64 x.n, .str [], .slice 0 0 x.o.length false 0 0, .int .i64 x.i]
def msJ (x : MS) : St := [.row x.o 5 1]
def bytesO (b : Int) (n i : Nat) : List V := List.replicate i (.int .u8 b) ++ List.replicate (n - i) (.int .u8 0)
noncomputable def msPre (x : MS) : Bool := @decide (0 ≤ x.n ∧ x.n ≤ 1099511627776 ∧ x.i ≤ x.n.toNat ∧ x.o = bytesO x.b x.n.toNat x.i) (Classical.propDecidable _)
theorem msPre_spec {x : MS} : msPre x = true ↔ (0 ≤ x.n ∧ x.n ≤ 1099511627776 ∧ x.i ≤ x.n.toNat ∧ x.o = bytesO x.b x.n.toNat x.i) := by
  unfold msPre; simp
def msMu (x : MS) : Nat := x.n.toNat - x.i
def msOut : Asks MS := fun x K => K (.exit 0) (msV ⟨x.b, x.n, List.replicate x.n.toNat (.int .u8 x.b), x.n.toNat⟩) [.row (List.replicate x.n.toNat (.int .u8 x.b)) 5 1]
def msDec : List (Option V) → St → Option MS
  | [some (.int .u8 b), some (.int .i64 n), some (.str []), some (.slice 0 _ _ false 0 0), some (.int .i64 i)], [.row o _ _] => some ⟨b, n, o, i.toNat⟩
  | _, _ => none
theorem renL_rep (σ : List Nat) (b : Int) : ∀ n : Nat, renL σ (List.replicate n (.int .u8 b)) = some (List.replicate n (.int .u8 b))
  | 0 => rfl
  | n + 1 => by simp only [List.replicate_succ, renL, renV, renL_rep σ b n]
theorem renL_app (σ : List Nat) : ∀ (a a' b b' : List V), renL σ a = some a' → renL σ b = some b' → renL σ (a ++ b) = some (a' ++ b')
  | [], a', b, b', h, hb => by simp only [renL, Option.some.injEq] at h; subst h; exact hb
  | v :: r, a', b, b', h, hb => by
    simp only [renL] at h
    cases h1 : renV σ v with
    | none => simp [h1] at h
    | some x =>
      cases h2 : renL σ r with
      | none => simp [h1, h2] at h
      | some y =>
        simp only [h1, h2, Option.some.injEq] at h
        subst h
        simp only [List.cons_append, renL, h1, renL_app σ r y b b' h2 hb]
theorem renL_bytes (σ : List Nat) (b : Int) (n i : Nat) : renL σ (bytesO b n i) = some (bytesO b n i) := renL_app σ _ _ _ _ (renL_rep σ b i) (renL_rep σ 0 (n - i))
theorem bytesO_len (b : Int) {n i : Nat} (h : i ≤ n) : (bytesO b n i).length = n := by simp [bytesO]; omega
theorem put_bytes (b : Int) {n i : Nat} (h : i < n) : putAt (0 + i * 1) [.int .u8 b] (bytesO b n i) = bytesO b n (i + 1) := by
  rw [Nat.zero_add, Nat.mul_one]
  unfold putAt bytesO
  have e : List.replicate (n - i) (V.int .u8 0) = .int .u8 0 :: List.replicate (n - (i + 1)) (.int .u8 0) := by
    rw [show n - i = (n - (i + 1)) + 1 by omega, List.replicate_succ]
  rw [e, List.take_left' (by simp), List.append_assoc]
  have e2 : List.drop (i + [V.int .u8 b].length) (List.replicate i (V.int .u8 b) ++ .int .u8 0 :: List.replicate (n - (i + 1)) (.int .u8 0)) = List.replicate (n - (i + 1)) (.int .u8 0) := by
    rw [List.drop_append]
    simp
  rw [e2, List.replicate_succ']
  simp
theorem ms_fits (b n i : Int) (o : List V) (ho : renL [0] o = some o) (L : Nat) (hL : L = o.length) :
    Fits 0 [.int .u8 b, .int .i64 n, .str [], .slice 0 0 o.length false 0 0, .int .i64 i] [.row o 5 1] [some (.int .u8 b), some (.int .i64 n), some (.str []), some (.slice 0 0 L false 0 0), some (.int .i64 i)] [.row o 5 1] := by
  subst hL
  exact ⟨[0], [.int .u8 b, .int .i64 n, .str [], .slice 0 0 o.length false 0 0, .int .i64 i], rfl, rfl, FitsM.of ⟨.inr ⟨.row o 5 1, .inl (by simp only [renB, ho]), rfl⟩, trivial⟩, by simp, fun i hi => by omega⟩
theorem ms_round (x : MS) (hx : msPre x = true) : roundW Try.prog T9 9 10 (rounds 9) 22 58 [0,1,4,5,6] (msV x) (msJ x) (RoundOkA 0 msPre msV msJ msMu msOut x) := by
  have hx := msPre_spec.1 hx
  obtain ⟨b, n, o, i⟩ := x
  have p1 := hx.1
  have p2 := hx.2.1
  have p3 := hx.2.2.1
  have p4 := hx.2.2.2
  clear hx
  simp only at p1 p2 p3 p4
  have hlen : o.length = n.toNat := by rw [p4]; exact bytesO_len b p3
  show roundW Try.prog T9 9 10 (rounds 9) 22 58 [0,1,4,5,6] [.int .u8 b, .int .i64 n, .str [], .slice 0 0 o.length false 0 0, .int .i64 i] [.row o 5 1] _
  rw [many_round]
  cases hb : decide ((i : Int) < n) with
  | true =>
    rw [cond_true]
    have h := of_decide_eq_true hb
    refine must_intro ?_ (must_intro ?_ ?_)
    · rw [decide_eq_true (show (0 : Int) ≤ i by omega), decide_eq_true (show (i : Int) < o.length by omega)]; rfl
    · rw [Bool.true_and]; exact Nat.ble_eq_true_of_le (by omega)
    · have e1 : IntKind.i64.wrap ((i : Int) + 1) = ((i + 1 : Nat) : Int) := by rw [IntWalk.i64_in _ ⟨by omega, by omega⟩]; omega
      have e2 : putAt (0 + i * 1) [V.int .u8 b] o = bytesO b n.toNat (i + 1) := by rw [p4]; exact put_bytes b (by omega)
      rw [e1, Int.toNat_natCast, e2]
      refine ⟨⟨b, n, bytesO b n.toNat (i + 1), i + 1⟩, msPre_spec.2 ⟨p1, p2, by simp only; omega, rfl⟩, ms_fits b n _ _ (renL_bytes _ _ _ _) _ (by rw [hlen, bytesO_len b (by omega)]), by simp only [msMu]; omega, fun K hK => hK⟩
  | false =>
    rw [cond_false]
    have h := of_decide_eq_false hb
    have hi : i = n.toNat := by omega
    subst hi
    have e : o = List.replicate n.toNat (.int .u8 b) := by rw [p4]; simp [bytesO]
    rw [e]
    exact ⟨_, _, fun K hK => hK, ms_fits b n _ _ (renL_rep _ _ _) _ rfl⟩
noncomputable def lk22 : Nat → Trans → Trans := withLoop 58 (loopA 0 (szOf Try.prog 22) [0,1,4,5,6] msDec msPre msV msJ msOut) (rounds 9)
theorem ms_loop {f : Fr} {st : St} {Q : Exit → Fr → St → Prop} (h : loopA 0 (szOf Try.prog 22) [0,1,4,5,6] msDec msPre msV msJ msOut f st Q) : CodeSatW Try.prog none 0 (.loop (loopOf Try.prog 22 58)) f st Q :=
  loopA_ok (P := Try.prog) (T := T9) (k := 0) (lim := 9) (n := 10) (g := 22) (p0 := 58) (lk := rounds 9) mixed T9_ok (roundsW 9 _ _) msMu ms_round h
theorem lk22_ok : FnLoopsW Try.prog 0 lk22 22 := by
  unfold lk22
  exact fnLoopW (fnRoundsW 9 0 22) (by kernel_rfl) fun f st Q h => ms_loop h
noncomputable def T17 : Tab := ⟨noT, noL, addLk (noLks 9) 22 0 lk22⟩
theorem T17_ok : TabOk3 Try.prog T17 := ⟨noT_ok, noL_ok, addLk_ok (noLks_ok 9) lk22_ok⟩
theorem many_tree (b n : Int) (R : V → Prop) : runW Try.prog T17 9 10 22 [.int .u8 b, .int .i64 n] R =
   (
    bif
        decide (0 ≤ n) && decide (n ≤ n) && decide (n ≤ 9223372036854775807) && decide (1 * n ≤ 281474976710656) &&
          true then
      Fits 0
          [V.int IntKind.u8 b, V.int IntKind.i64 n, V.str [],
            V.slice 0 0 (repV [V.int IntKind.u8 0] n.toNat).length false 0 0, V.int IntKind.i64 0]
          [Blk.row (repV [V.int IntKind.u8 0] n.toNat) 5 1]
          [some (V.int IntKind.u8 b), some (V.int IntKind.i64 n), some (V.str []), some (V.slice 0 0 n.toNat false 0 0),
            some (V.int IntKind.i64 0)]
          [Blk.row (repV [V.int IntKind.u8 0] n.toNat) 5 1] ∧
        bif msPre { b := b, n := n, o := repV [V.int IntKind.u8 0] n.toNat, i := 0 } then
          bif
              (0 + (List.replicate n.toNat (V.int IntKind.u8 b)).length).ble
                (List.replicate n.toNat (V.int IntKind.u8 b)).length then
            bif
                (List.take (List.replicate n.toNat (V.int IntKind.u8 b)).length
                      (List.drop 0 (List.replicate n.toNat (V.int IntKind.u8 b)))).all
                  isByte then
              R
                (V.str
                  (List.map Vm.byteOf
                    (List.take (List.replicate n.toNat (V.int IntKind.u8 b)).length
                      (List.drop 0 (List.replicate n.toNat (V.int IntKind.u8 b))))))
            else False
          else False
        else False
    else False) := by kernel_rfl
def manyB (b n : Int) : List UInt8 := List.replicate n.toNat (Vm.byteOf (V.int .u8 b))
def okN (n : Int) : Bool := decide (0 ≤ n) && decide (n ≤ 1099511627776)
def manyF : List V → Option (List (Bool × (V × St)))
  | [.int .u8 b, .int .i64 n] => some [(okN n, (.str (manyB b n), []))]
  | _ => none
theorem repV_one (v : V) : ∀ n, repV [v] n = List.replicate n v
  | 0 => rfl
  | n + 1 => by simp [repV, repV_one v n, List.replicate_succ]
theorem many_ok (args : List V) (l : List (Bool × (V × St))) (o : V × St) (h : manyF args = some l) (ho : pickO l = some o) : FnSat Try.prog 22 args [] (Is o) := by
  unfold manyF at h
  split at h
  · rename_i b n
    cases h
    cases ht : okN n with
    | false => rw [ht] at ho; simp [pickO] at ho
    | true =>
      rw [ht] at ho
      simp only [pickO, cond_true, Option.some.injEq] at ho
      subst ho
      simp only [okN, Bool.and_eq_true, decide_eq_true_eq] at ht
      refine pureW_of (lim := 9) (n := 10) mixed T17_ok rfl rfl ?_
      rw [many_tree, repV_one]
      have hz : List.replicate n.toNat (V.int .u8 0) = bytesO b n.toNat 0 := by simp [bytesO]
      rw [hz]
      have hlen : (bytesO b n.toNat 0).length = n.toNat := bytesO_len b (by omega)
      refine must_intro ?_ ⟨ms_fits b n 0 _ (renL_bytes _ _ _ _) _ hlen.symm, must_intro (msPre_spec.2 ⟨ht.1, ht.2, by simp, rfl⟩) (must_intro ?_ (must_intro ?_ ?_))⟩
      · simp; omega
      · simp
      · simp [isByte]
      · simp [manyB]
  · cases h
noncomputable def T2b : Tab := ⟨addP noT 21 getF2, noL, noLks 6⟩
theorem T2b_ok : TabOk3 Try.prog T2b := ⟨addP_ok noT_ok get2_ok, noL_ok, noLks_ok 6⟩
theorem wrong_tree (s : List UInt8) (R : V → Prop) : runW Try.prog T2b 6 10 23 [.str s] R =
   (
    bif getT2 s == 0 then
      bif getX2 s == [] then bif !getR2 s == [] then R (V.int IntKind.i64 0) else R (V.int IntKind.i64 (getE2 s))
      else R (V.int IntKind.i64 0)
    else R (V.int IntKind.i64 0)) := by kernel_rfl
def wrongF : List V → Option V
  | [.str s] => some (.int .i64 (getE2 s))
  | _ => none
theorem wrong_ok (args : List V) (v : V) (h : wrongF args = some v) : FnSat Try.prog 23 args [] (Is (v, [])) := by
  unfold wrongF at h
  split at h
  · rename_i s
    cases h
    refine pureW_of (lim := 6) (n := 10) mixed T2b_ok rfl rfl ?_
    rw [wrong_tree]
    by_cases h : getE2 s = 0
    · rw [h]
      cases h1 : (getT2 s == 0) <;> cases h2 : (getX2 s == []) <;> cases h3 : (getR2 s == []) <;> rfl
    · obtain ⟨e1, e2, e3⟩ := get2_none h
      rw [e1, e2, e3]; rfl
  · cases h
noncomputable def allE : List V → Option (List (Bool × (V × St))) := fun args => match E Try.prog (tabT (addP noT 21 getF2)) 100 30 (.fn 24) args [] with
  | some r => some [(true, r)]
  | none => none
theorem allE_ok (args : List V) (l : List (Bool × (V × St))) (o : V × St) (h : allE args = some l) (ho : pickO l = some o) : FnSat Try.prog 24 args [] (Is o) := by
  unfold allE at h
  split at h
  · rename_i r hr
    cases h
    simp only [pickO, cond_true, Option.some.injEq] at ho
    subst ho
    exact E_ok mixed (tabT_ok (addP_ok noT_ok get2_ok)) 100 30 (.fn 24) args [] _ hr
  · cases h
def putG (P : Int → List UInt8 → List UInt8) (PE : Int → List UInt8 → Int) : List V → Option (List (Bool × (V × St)))
  | [.agg [.int .u8 t, .str s]] => some [(okTag t, (.tuple [.str (P t s), .int .i64 (PE t s)], []))]
  | _ => none
def getG (GT : List UInt8 → Int) (GX GR : List UInt8 → List UInt8) (GE : List UInt8 → Int) : List V → Option V
  | [.str s] => some (.tuple [.agg [.int .u8 (GT s), .str (GX s)], .str (GR s), .int .i64 (GE s)])
  | _ => none
def manyG (M : Int → Int → List UInt8) : List V → Option (List (Bool × (V × St)))
  | [.int .u8 b, .int .i64 n] => some [(okN n, (.str (M b n), []))]
  | _ => none
def wrongG (GE : List UInt8 → Int) : List V → Option V
  | [.str s] => some (.int .i64 (GE s))
  | _ => none
noncomputable def TN (M : Int → Int → List UInt8) (P : Int → List UInt8 → List UInt8) (PE : Int → List UInt8 → Int) (GT : List UInt8 → Int) (GX GR : List UInt8 → List UInt8) (GE : List UInt8 → Int) : Tab :=
  ⟨addT (addP (addP (addP (addP (addP (addT (addP (addT noT 20 (putG P PE)) 21 (getG GT GX GR GE)) 22 (manyG M)) 23 (wrongG GE)) 16 intF) 12 readF) 14 rdboolF) 11 awF) 24 allE, noL, noLks 70⟩
theorem TN_ok : TabOk3 Try.prog (TN manyB putB putE getT2 getX2 getR2 getE2) :=
  ⟨addT_ok (addP_ok (addP_ok (addP_ok (addP_ok (addP_ok (addT_ok (addP_ok (addT_ok noT_ok put_ok) get2_ok) many_ok) wrong_ok) int_ok) read_ok) rdbool_ok) awF_ok) allE_ok, noL_ok, noLks_ok 70⟩
theorem names_tree (M : Int → Int → List UInt8) (P : Int → List UInt8 → List UInt8) (PE : Int → List UInt8 → Int) (GT : List UInt8 → Int) (GX GR : List UInt8 → List UInt8) (GE : List UInt8 → Int) (R : V → Prop) : runW Try.prog (TN M P PE GT GX GR GE) 70 10 7 [] R =
   (
    bif ((P 48 (M 7 0)).length + 1).ble 9223372036854775807 then
      bif PE 48 (M 7 0) != 0 then R (V.bool false)
      else
        bif GE (P 48 (M 7 0) ++ [122]) != 0 then R (V.bool false)
        else
          bif GT (P 48 (M 7 0) ++ [122]) != 48 then R (V.bool false)
          else
            bif !GX (P 48 (M 7 0) ++ [122]) == M 7 0 then R (V.bool false)
            else
              bif !GR (P 48 (M 7 0) ++ [122]) == [122] then R (V.bool false)
              else
                bif decide (0 ≤ IntKind.i64.wrap ((↑(P 48 (M 7 0)).length : Int) - 1)) then
                  bif true && (IntKind.i64.wrap ((↑(P 48 (M 7 0)).length : Int) - 1)).toNat.ble (P 48 (M 7 0)).length then
                    bif
                        GE
                            (List.take ((IntKind.i64.wrap ((↑(P 48 (M 7 0)).length : Int) - 1)).toNat - 0)
                              (List.drop 0 (P 48 (M 7 0)))) !=
                          8 then
                      R (V.bool false)
                    else
                      bif ((P 48 (M 7 1)).length + 1).ble 9223372036854775807 then
                        bif PE 48 (M 7 1) != 0 then R (V.bool false)
                        else
                          bif GE (P 48 (M 7 1) ++ [122]) != 0 then R (V.bool false)
                          else
                            bif GT (P 48 (M 7 1) ++ [122]) != 48 then R (V.bool false)
                            else
                              bif !GX (P 48 (M 7 1) ++ [122]) == M 7 1 then R (V.bool false)
                              else
                                bif !GR (P 48 (M 7 1) ++ [122]) == [122] then R (V.bool false)
                                else
                                  bif decide (0 ≤ IntKind.i64.wrap ((↑(P 48 (M 7 1)).length : Int) - 1)) then
                                    bif
                                        true &&
                                          (IntKind.i64.wrap ((↑(P 48 (M 7 1)).length : Int) - 1)).toNat.ble
                                            (P 48 (M 7 1)).length then
                                      bif
                                          GE
                                              (List.take ((IntKind.i64.wrap ((↑(P 48 (M 7 1)).length : Int) - 1)).toNat - 0)
                                                (List.drop 0 (P 48 (M 7 1)))) !=
                                            8 then
                                        R (V.bool false)
                                      else
                                        bif ((P 48 (M 7 127)).length + 1).ble 9223372036854775807 then
                                          bif PE 48 (M 7 127) != 0 then R (V.bool false)
                                          else
                                            bif GE (P 48 (M 7 127) ++ [122]) != 0 then R (V.bool false)
                                            else
                                              bif GT (P 48 (M 7 127) ++ [122]) != 48 then R (V.bool false)
                                              else
                                                bif !GX (P 48 (M 7 127) ++ [122]) == M 7 127 then R (V.bool false)
                                                else
                                                  bif !GR (P 48 (M 7 127) ++ [122]) == [122] then R (V.bool false)
                                                  else
                                                    bif
                                                        decide
                                                          (0 ≤ IntKind.i64.wrap ((↑(P 48 (M 7 127)).length : Int) - 1)) then
                                                      bif
                                                          true &&
                                                            (IntKind.i64.wrap
                                                                    ((↑(P 48 (M 7 127)).length : Int) - 1)).toNat.ble
                                                              (P 48 (M 7 127)).length then
                                                        bif
                                                            GE
                                                                (List.take
                                                                  ((IntKind.i64.wrap
                                                                        ((↑(P 48 (M 7 127)).length : Int) - 1)).toNat -
                                                                    0)
                                                                  (List.drop 0 (P 48 (M 7 127)))) !=
                                                              8 then
                                                          R (V.bool false)
                                                        else
                                                          bif ((P 48 (M 7 128)).length + 1).ble 9223372036854775807 then
                                                            bif PE 48 (M 7 128) != 0 then R (V.bool false)
                                                            else
                                                              bif GE (P 48 (M 7 128) ++ [122]) != 0 then R (V.bool false)
                                                              else
                                                                bif GT (P 48 (M 7 128) ++ [122]) != 48 then R (V.bool false)
                                                                else
                                                                  bif !GX (P 48 (M 7 128) ++ [122]) == M 7 128 then
                                                                    R (V.bool false)
                                                                  else
                                                                    bif !GR (P 48 (M 7 128) ++ [122]) == [122] then
                                                                      R (V.bool false)
                                                                    else
                                                                      bif
                                                                          decide
                                                                            (0 ≤
                                                                              IntKind.i64.wrap
                                                                                ((↑(P 48 (M 7 128)).length : Int) - 1)) then
                                                                        bif
                                                                            true &&
                                                                              (IntKind.i64.wrap
                                                                                      ((↑(P 48 (M 7 128)).length : Int) -
                                                                                        1)).toNat.ble
                                                                                (P 48 (M 7 128)).length then
                                                                          bif
                                                                              GE
                                                                                  (List.take
                                                                                    ((IntKind.i64.wrap
                                                                                          ((↑(P 48 (M 7 128)).length :
                                                                                              Int) -
                                                                                            1)).toNat -
                                                                                      0)
                                                                                    (List.drop 0 (P 48 (M 7 128)))) !=
                                                                                8 then
                                                                            R (V.bool false)
                                                                          else
                                                                            bif
                                                                                ((P 48 (M 7 255)).length + 1).ble
                                                                                  9223372036854775807 then
                                                                              bif PE 48 (M 7 255) != 0 then R (V.bool false)
                                                                              else
                                                                                bif GE (P 48 (M 7 255) ++ [122]) != 0 then
                                                                                  R (V.bool false)
                                                                                else
                                                                                  bif
                                                                                      GT (P 48 (M 7 255) ++ [122]) !=
                                                                                        48 then
                                                                                    R (V.bool false)
                                                                                  else
                                                                                    bif
                                                                                        !GX (P 48 (M 7 255) ++ [122]) ==
                                                                                            M 7 255 then
                                                                                      R (V.bool false)
                                                                                    else
                                                                                      bif
                                                                                          !GR (P 48 (M 7 255) ++ [122]) ==
                                                                                              [122] then
                                                                                        R (V.bool false)
                                                                                      else
                                                                                        bif
                                                                                            decide
                                                                                              (0 ≤
                                                                                                IntKind.i64.wrap
                                                                                                  ((↑(P 48
                                                                                                            (M 7
                                                                                                              255)).length :
                                                                                                      Int) -
                                                                                                    1)) then
                                                                                          bif
                                                                                              true &&
                                                                                                (IntKind.i64.wrap
                                                                                                        ((↑(P 48
                                                                                                                  (M 7
                                                                                                                    255)).length :
                                                                                                            Int) -
                                                                                                          1)).toNat.ble
                                                                                                  (P 48
                                                                                                      (M 7 255)).length then
                                                                                            bif
                                                                                                GE
                                                                                                    (List.take
                                                                                                      ((IntKind.i64.wrap
                                                                                                            ((↑(P 48
                                                                                                                      (M 7
                                                                                                                        255)).length :
                                                                                                                Int) -
                                                                                                              1)).toNat -
                                                                                                        0)
                                                                                                      (List.drop 0
                                                                                                        (P 48
                                                                                                          (M 7 255)))) !=
                                                                                                  8 then
                                                                                              R (V.bool false)
                                                                                            else
                                                                                              bif
                                                                                                  ((P 48 (M 7 256)).length +
                                                                                                        1).ble
                                                                                                    9223372036854775807 then
                                                                                                bif
                                                                                                    PE 48 (M 7 256) !=
                                                                                                      0 then
                                                                                                  R (V.bool false)
                                                                                                else
                                                                                                  bif
                                                                                                      GE
                                                                                                          (P 48 (M 7 256) ++
                                                                                                            [122]) !=
                                                                                                        0 then
                                                                                                    R (V.bool false)
                                                                                                  else
                                                                                                    bif
                                                                                                        GT
                                                                                                            (P 48
                                                                                                                (M 7 256) ++
                                                                                                              [122]) !=
                                                                                                          48 then
                                                                                                      R (V.bool false)
                                                                                                    else
                                                                                                      bif
                                                                                                          !GX
                                                                                                                (P 48
                                                                                                                    (M 7
                                                                                                                      256) ++
                                                                                                                  [122]) ==
                                                                                                              M 7 256 then
                                                                                                        R (V.bool false)
                                                                                                      else
                                                                                                        bif
                                                                                                            !GR
                                                                                                                  (P 48
                                                                                                                      (M 7
                                                                                                                        256) ++
                                                                                                                    [122]) ==
                                                                                                                [122] then
                                                                                                          R (V.bool false)
                                                                                                        else
                                                                                                          bif
                                                                                                              decide
                                                                                                                (0 ≤
                                                                                                                  IntKind.i64.wrap
                                                                                                                    ((↑(P 48
                                                                                                                              (M
                                                                                                                                7
                                                                                                                                256)).length :
                                                                                                                        Int) -
                                                                                                                      1)) then
                                                                                                            bif
                                                                                                                true &&
                                                                                                                  (IntKind.i64.wrap
                                                                                                                          ((↑(P
                                                                                                                                    48
                                                                                                                                    (M
                                                                                                                                      7
                                                                                                                                      256)).length :
                                                                                                                              Int) -
                                                                                                                            1)).toNat.ble
                                                                                                                    (P 48
                                                                                                                        (M 7
                                                                                                                          256)).length then
                                                                                                              bif
                                                                                                                  GE
                                                                                                                      (List.take
                                                                                                                        ((IntKind.i64.wrap
                                                                                                                              ((↑(P
                                                                                                                                        48
                                                                                                                                        (M
                                                                                                                                          7
                                                                                                                                          256)).length :
                                                                                                                                  Int) -
                                                                                                                                1)).toNat -
                                                                                                                          0)
                                                                                                                        (List.drop
                                                                                                                          0
                                                                                                                          (P
                                                                                                                            48
                                                                                                                            (M
                                                                                                                              7
                                                                                                                              256)))) !=
                                                                                                                    8 then
                                                                                                                R
                                                                                                                  (V.bool
                                                                                                                    false)
                                                                                                              else
                                                                                                                bif
                                                                                                                    ((P 48
                                                                                                                              (M
                                                                                                                                7
                                                                                                                                65535)).length +
                                                                                                                          1).ble
                                                                                                                      9223372036854775807 then
                                                                                                                  bif
                                                                                                                      PE 48
                                                                                                                          (M
                                                                                                                            7
                                                                                                                            65535) !=
                                                                                                                        0 then
                                                                                                                    R
                                                                                                                      (V.bool
                                                                                                                        false)
                                                                                                                  else
                                                                                                                    bif
                                                                                                                        GE
                                                                                                                            (P
                                                                                                                                48
                                                                                                                                (M
                                                                                                                                  7
                                                                                                                                  65535) ++
                                                                                                                              [122]) !=
                                                                                                                          0 then
                                                                                                                      R
                                                                                                                        (V.bool
                                                                                                                          false)
                                                                                                                    else
                                                                                                                      bif
                                                                                                                          GT
                                                                                                                              (P
                                                                                                                                  48
                                                                                                                                  (M
                                                                                                                                    7
                                                                                                                                    65535) ++
                                                                                                                                [122]) !=
                                                                                                                            48 then
                                                                                                                        R
                                                                                                                          (V.bool
                                                                                                                            false)
                                                                                                                      else
                                                                                                                        bif
                                                                                                                            !GX
                                                                                                                                  (P
                                                                                                                                      48
                                                                                                                                      (M
                                                                                                                                        7
                                                                                                                                        65535) ++
                                                                                                                                    [122]) ==
                                                                                                                                M
                                                                                                                                  7
                                                                                                                                  65535 then
                                                                                                                          R
                                                                                                                            (V.bool
                                                                                                                              false)
                                                                                                                        else
                                                                                                                          bif
                                                                                                                              !GR
                                                                                                                                    (P
                                                                                                                                        48
                                                                                                                                        (M
                                                                                                                                          7
                                                                                                                                          65535) ++
                                                                                                                                      [122]) ==
                                                                                                                                  [122] then
                                                                                                                            R
                                                                                                                              (V.bool
                                                                                                                                false)
                                                                                                                          else
                                                                                                                            bif
                                                                                                                                decide
                                                                                                                                  (0 ≤
                                                                                                                                    IntKind.i64.wrap
                                                                                                                                      ((↑(P
                                                                                                                                                48
                                                                                                                                                (M
                                                                                                                                                  7
                                                                                                                                                  65535)).length :
                                                                                                                                          Int) -
                                                                                                                                        1)) then
                                                                                                                              bif
                                                                                                                                  true &&
                                                                                                                                    (IntKind.i64.wrap
                                                                                                                                            ((↑(P
                                                                                                                                                      48
                                                                                                                                                      (M
                                                                                                                                                        7
                                                                                                                                                        65535)).length :
                                                                                                                                                Int) -
                                                                                                                                              1)).toNat.ble
                                                                                                                                      (P
                                                                                                                                          48
                                                                                                                                          (M
                                                                                                                                            7
                                                                                                                                            65535)).length then
                                                                                                                                bif
                                                                                                                                    GE
                                                                                                                                        (List.take
                                                                                                                                          ((IntKind.i64.wrap
                                                                                                                                                ((↑(P
                                                                                                                                                          48
                                                                                                                                                          (M
                                                                                                                                                            7
                                                                                                                                                            65535)).length :
                                                                                                                                                    Int) -
                                                                                                                                                  1)).toNat -
                                                                                                                                            0)
                                                                                                                                          (List.drop
                                                                                                                                            0
                                                                                                                                            (P
                                                                                                                                              48
                                                                                                                                              (M
                                                                                                                                                7
                                                                                                                                                65535)))) !=
                                                                                                                                      8 then
                                                                                                                                  R
                                                                                                                                    (V.bool
                                                                                                                                      false)
                                                                                                                                else
                                                                                                                                  bif
                                                                                                                                      PE
                                                                                                                                          4
                                                                                                                                          (M
                                                                                                                                            0
                                                                                                                                            65536) !=
                                                                                                                                        40 then
                                                                                                                                    R
                                                                                                                                      (V.bool
                                                                                                                                        false)
                                                                                                                                  else
                                                                                                                                    bif
                                                                                                                                        PE
                                                                                                                                            255
                                                                                                                                            [] !=
                                                                                                                                          4 then
                                                                                                                                      R
                                                                                                                                        (V.bool
                                                                                                                                          false)
                                                                                                                                    else
                                                                                                                                      bif
                                                                                                                                          PE
                                                                                                                                              31
                                                                                                                                              [] !=
                                                                                                                                            4 then
                                                                                                                                        R
                                                                                                                                          (V.bool
                                                                                                                                            false)
                                                                                                                                      else
                                                                                                                                        bif
                                                                                                                                            !P
                                                                                                                                                  0
                                                                                                                                                  [] ==
                                                                                                                                                [0,
                                                                                                                                                  0] then
                                                                                                                                          R
                                                                                                                                            (V.bool
                                                                                                                                              false)
                                                                                                                                        else
                                                                                                                                          bif
                                                                                                                                              PE
                                                                                                                                                  0
                                                                                                                                                  [] !=
                                                                                                                                                0 then
                                                                                                                                            R
                                                                                                                                              (V.bool
                                                                                                                                                false)
                                                                                                                                          else
                                                                                                                                            bif
                                                                                                                                                GE
                                                                                                                                                    [] !=
                                                                                                                                                  8 then
                                                                                                                                              R
                                                                                                                                                (V.bool
                                                                                                                                                  false)
                                                                                                                                            else
                                                                                                                                              bif
                                                                                                                                                  GE
                                                                                                                                                      [4,
                                                                                                                                                        129,
                                                                                                                                                        0] !=
                                                                                                                                                    4 then
                                                                                                                                                R
                                                                                                                                                  (V.bool
                                                                                                                                                    false)
                                                                                                                                              else
                                                                                                                                                bif
                                                                                                                                                    GE
                                                                                                                                                        [4,
                                                                                                                                                          130,
                                                                                                                                                          0,
                                                                                                                                                          255] !=
                                                                                                                                                      4 then
                                                                                                                                                  R
                                                                                                                                                    (V.bool
                                                                                                                                                      false)
                                                                                                                                                else
                                                                                                                                                  bif
                                                                                                                                                      GE
                                                                                                                                                          [4,
                                                                                                                                                            130,
                                                                                                                                                            0] !=
                                                                                                                                                        4 then
                                                                                                                                                    R
                                                                                                                                                      (V.bool
                                                                                                                                                        false)
                                                                                                                                                  else
                                                                                                                                                    bif
                                                                                                                                                        GE
                                                                                                                                                            [4,
                                                                                                                                                              131,
                                                                                                                                                              1,
                                                                                                                                                              0,
                                                                                                                                                              0] !=
                                                                                                                                                          4 then
                                                                                                                                                      R
                                                                                                                                                        (V.bool
                                                                                                                                                          false)
                                                                                                                                                    else
                                                                                                                                                      bif
                                                                                                                                                          GE
                                                                                                                                                              [4,
                                                                                                                                                                255] !=
                                                                                                                                                            4 then
                                                                                                                                                        R
                                                                                                                                                          (V.bool
                                                                                                                                                            false)
                                                                                                                                                      else
                                                                                                                                                        bif
                                                                                                                                                            GE
                                                                                                                                                                [63,
                                                                                                                                                                  0] !=
                                                                                                                                                              4 then
                                                                                                                                                          R
                                                                                                                                                            (V.bool
                                                                                                                                                              false)
                                                                                                                                                        else
                                                                                                                                                          bif
                                                                                                                                                              GE
                                                                                                                                                                  [191] !=
                                                                                                                                                                4 then
                                                                                                                                                            R
                                                                                                                                                              (V.bool
                                                                                                                                                                false)
                                                                                                                                                          else
                                                                                                                                                            bif
                                                                                                                                                                GE
                                                                                                                                                                    [255,
                                                                                                                                                                      0] !=
                                                                                                                                                                  4 then
                                                                                                                                                              R
                                                                                                                                                                (V.bool
                                                                                                                                                                  false)
                                                                                                                                                            else
                                                                                                                                                              bif
                                                                                                                                                                  GE
                                                                                                                                                                      [4,
                                                                                                                                                                        129] !=
                                                                                                                                                                    8 then
                                                                                                                                                                R
                                                                                                                                                                  (V.bool
                                                                                                                                                                    false)
                                                                                                                                                              else
                                                                                                                                                                bif
                                                                                                                                                                    GE
                                                                                                                                                                        [4,
                                                                                                                                                                          130] !=
                                                                                                                                                                      8 then
                                                                                                                                                                  R
                                                                                                                                                                    (V.bool
                                                                                                                                                                      false)
                                                                                                                                                                else
                                                                                                                                                                  bif
                                                                                                                                                                      GE
                                                                                                                                                                          [4,
                                                                                                                                                                            130,
                                                                                                                                                                            1] !=
                                                                                                                                                                        8 then
                                                                                                                                                                    R
                                                                                                                                                                      (V.bool
                                                                                                                                                                        false)
                                                                                                                                                                  else
                                                                                                                                                                    bif
                                                                                                                                                                        GE
                                                                                                                                                                            [4,
                                                                                                                                                                              130,
                                                                                                                                                                              1,
                                                                                                                                                                              0] !=
                                                                                                                                                                          8 then
                                                                                                                                                                      R
                                                                                                                                                                        (V.bool
                                                                                                                                                                          false)
                                                                                                                                                                    else
                                                                                                                                                                      bif
                                                                                                                                                                          GE
                                                                                                                                                                              [4,
                                                                                                                                                                                129,
                                                                                                                                                                                128] !=
                                                                                                                                                                            8 then
                                                                                                                                                                        R
                                                                                                                                                                          (V.bool
                                                                                                                                                                            false)
                                                                                                                                                                      else
                                                                                                                                                                        bif
                                                                                                                                                                            GE
                                                                                                                                                                                [48,
                                                                                                                                                                                  1] !=
                                                                                                                                                                              8 then
                                                                                                                                                                          R
                                                                                                                                                                            (V.bool
                                                                                                                                                                              false)
                                                                                                                                                                        else
                                                                                                                                                                          bif
                                                                                                                                                                              (1 +
                                                                                                                                                                                    (M
                                                                                                                                                                                        0
                                                                                                                                                                                        8).length).ble
                                                                                                                                                                                9223372036854775807 then
                                                                                                                                                                            bif
                                                                                                                                                                                readN
                                                                                                                                                                                    ([1] ++
                                                                                                                                                                                      M
                                                                                                                                                                                        0
                                                                                                                                                                                        8) !=
                                                                                                                                                                                  0 then
                                                                                                                                                                              R
                                                                                                                                                                                (V.bool
                                                                                                                                                                                  false)
                                                                                                                                                                            else
                                                                                                                                                                              bif
                                                                                                                                                                                  readE
                                                                                                                                                                                      ([1] ++
                                                                                                                                                                                        M
                                                                                                                                                                                          0
                                                                                                                                                                                          8) !=
                                                                                                                                                                                    4 then
                                                                                                                                                                                R
                                                                                                                                                                                  (V.bool
                                                                                                                                                                                    false)
                                                                                                                                                                              else
                                                                                                                                                                                bif
                                                                                                                                                                                    readN
                                                                                                                                                                                        (M
                                                                                                                                                                                          0
                                                                                                                                                                                          9) !=
                                                                                                                                                                                      0 then
                                                                                                                                                                                  R
                                                                                                                                                                                    (V.bool
                                                                                                                                                                                      false)
                                                                                                                                                                                else
                                                                                                                                                                                  bif
                                                                                                                                                                                      readE
                                                                                                                                                                                          (M
                                                                                                                                                                                            0
                                                                                                                                                                                            9) !=
                                                                                                                                                                                        4 then
                                                                                                                                                                                    R
                                                                                                                                                                                      (V.bool
                                                                                                                                                                                        false)
                                                                                                                                                                                  else
                                                                                                                                                                                    R
                                                                                                                                                                                      (V.bool
                                                                                                                                                                                        true)
                                                                                                                                                                          else
                                                                                                                                                                            False
                                                                                                                              else
                                                                                                                                False
                                                                                                                            else
                                                                                                                              False
                                                                                                                else False
                                                                                                            else False
                                                                                                          else False
                                                                                              else False
                                                                                          else False
                                                                                        else False
                                                                            else False
                                                                        else False
                                                                      else False
                                                          else False
                                                      else False
                                                    else False
                                        else False
                                    else False
                                  else False
                      else False
                  else False
                else False
    else False) := by kernel_rfl
theorem size_cut (n : Nat) (hn : n ≤ 65535) (x : List UInt8) (j : Nat) (hj : j < (lenB n).length) : sizeA ((lenB n ++ x).take j) = (0, 0, 8) := by
  unfold lenB at hj ⊢
  split at hj
  · rename_i h
    rw [if_pos h]
    have h1 : ¬ (UInt8.ofNat (n / 256)).toNat = 0 := by rw [byte_ofNat (by omega)]; omega
    simp only [List.length_cons, List.length_nil] at hj
    obtain rfl | rfl | rfl : j = 0 ∨ j = 1 ∨ j = 2 := by omega
    · rfl
    · rfl
    · show sizeA [130, UInt8.ofNat (n / 256)] = (0, 0, 8)
      have h0 : (130 : UInt8).toNat = 130 := rfl
      simp only [sizeA, h0]
      rw [if_neg (by omega), if_neg (by omega), if_pos trivial, if_neg h1]
  · rename_i h
    rw [if_neg h]
    split at hj
    · rename_i h2
      rw [if_pos h2]
      simp only [List.length_cons, List.length_nil] at hj
      obtain rfl | rfl : j = 0 ∨ j = 1 := by omega
      · rfl
      · rfl
    · rename_i h2
      rw [if_neg h2]
      simp only [List.length_cons, List.length_nil] at hj
      obtain rfl : j = 0 := by omega
      rfl
/-- What is cut within one is too short. -/
theorem put_cut {t : Int} {x : List UInt8} (ht : okTag t = true) (h : putE t x = 0) (k : Nat) (hk : k < (putB t x).length) : getE ((putB t x).take k) = 8 := by
  obtain ⟨n, rfl, hn⟩ := okTag_spec ht
  unfold putE at h
  by_cases h1 : (n : Int) % 32 = 31
  · rw [if_pos h1] at h; omega
  rw [if_neg h1] at h
  by_cases h2 : x.length > 65535
  · rw [if_pos h2] at h; omega
  have e : putB n x = UInt8.ofNat n :: (lenB x.length ++ x) := by
    unfold putB; rw [if_neg h1, if_neg h2]; simp
  rw [e] at hk ⊢
  cases k with
  | zero => rfl
  | succ j =>
    simp only [List.length_cons, List.length_append] at hk
    have hb := byte_ofNat hn
    rw [List.take_succ_cons]
    simp only [getE]
    rw [hb, if_neg (by omega)]
    by_cases hj : j < (lenB x.length).length
    · have := size_cut x.length (by omega) x j hj
      simp only [sizeE, this]
      rfl
    · have e2 : (lenB x.length ++ x).take j = lenB x.length ++ x.take (j - (lenB x.length).length) := by
        rw [List.take_append, List.take_of_length_le (by omega)]
      have := size_len x.length (by omega) (x.take (j - (lenB x.length).length))
      rw [e2]
      simp only [sizeE, sizeU, sizeN, this]
      rw [if_pos trivial, if_pos ?_]
      simp only [List.length_append, List.length_take]
      omega
theorem manyB_len (b n : Int) : (manyB b n).length = n.toNat := by simp [manyB]
theorem names_item (n : Int) (h0 : 0 ≤ n) (h1 : n ≤ 65535) {A : Prop} (hA : A) :
    (bif ((putB 48 (manyB 7 n)).length + 1).ble 9223372036854775807 then
      bif putE 48 (manyB 7 n) != 0 then V.bool false = V.bool true
      else bif getE2 (putB 48 (manyB 7 n) ++ [122]) != 0 then V.bool false = V.bool true
      else bif getT2 (putB 48 (manyB 7 n) ++ [122]) != 48 then V.bool false = V.bool true
      else bif !getX2 (putB 48 (manyB 7 n) ++ [122]) == manyB 7 n then V.bool false = V.bool true
      else bif !getR2 (putB 48 (manyB 7 n) ++ [122]) == [122] then V.bool false = V.bool true
      else bif decide (0 ≤ IntKind.i64.wrap (((putB 48 (manyB 7 n)).length : Int) - 1)) then
        bif true && (IntKind.i64.wrap (((putB 48 (manyB 7 n)).length : Int) - 1)).toNat.ble (putB 48 (manyB 7 n)).length then
          bif getE2 (List.take ((IntKind.i64.wrap (((putB 48 (manyB 7 n)).length : Int) - 1)).toNat - 0) (List.drop 0 (putB 48 (manyB 7 n)))) != 8 then V.bool false = V.bool true else A
        else False
      else False
    else False) := by
  have hl := manyB_len 7 n
  have hE : putE 48 (manyB 7 n) = 0 := by unfold putE; rw [if_neg (by omega), if_neg (by omega)]
  have hlen := putB_len 48 (manyB 7 n)
  obtain ⟨a1, a2, a3, a4⟩ := put_get (t := 48) (x := manyB 7 n) (s := [122]) rfl hE
  have ha : (putB 48 (manyB 7 n) ++ [122]).length ≤ 1099511627776 := by simp; omega
  obtain ⟨b1, b2, b3, b4⟩ := get2_eq ha
  have hpos : 1 ≤ (putB 48 (manyB 7 n)).length := by
    cases hp : putB 48 (manyB 7 n) with
    | nil => exact absurd hE (put_none.2 hp)
    | cons => simp
  have hw : IntKind.i64.wrap (((putB 48 (manyB 7 n)).length : Int) - 1) = (((putB 48 (manyB 7 n)).length - 1 : Nat) : Int) := by
    rw [IntWalk.i64_in _ ⟨by omega, by omega⟩]; omega
  have hc := put_cut (t := 48) (x := manyB 7 n) rfl hE ((putB 48 (manyB 7 n)).length - 1) (by omega)
  have hc2 : getE2 (List.take ((putB 48 (manyB 7 n)).length - 1) (putB 48 (manyB 7 n))) = 8 := by
    rw [getE2_eq (by simp; omega)]; exact hc
  rw [hw, Int.toNat_natCast, Nat.sub_zero, List.drop_zero, hc2, hE, b1, b2, b3, b4, a1, a2, a3, a4]
  refine must_intro (Nat.ble_eq_true_of_le (by omega)) ?_
  simp only [bne_self_eq_false, beq_self_eq_true, Bool.not_true, cond_false]
  refine must_intro (decide_eq_true (by omega)) (must_intro ?_ hA)
  rw [Bool.true_and]
  exact Nat.ble_eq_true_of_le (by omega)
end Go.Proofs.Ytpjopdemhkcifaa
