/- CertWithin: what it comes to. -/
import Derived.Test.YtakfcajmfgnchaaDoorWPlain
import Derived.Test.YtakfcajmfgnchaaDoorEnc
namespace Go.Proofs.YtakfcajmfgnchaaDoor
open Go Go.Vm Go.RowKit
set_option linter.unusedVariables false
set_option maxRecDepth 100000
set_option linter.unusedSectionVars false
variable [Φ : Frz]
theorem wi_round (s t : List UInt8) (i : Int) (R : Exit → List (Option V) → St → Prop) : roundW Tryd.prog T3 9 10 (rounds 9) 14 26 [0,1,4,5] [.str s, .str t, .bool false, .int .i64 i] [] R =
   (
 bif decide (IntKind.i64.wrap (i + (↑s.length : Int)) ≤ (↑t.length : Int)) then bif decide (0 ≤ i) then bif decide (0 ≤ IntKind.i64.wrap (i + (↑s.length : Int))) then bif
 i.toNat.ble (IntKind.i64.wrap (i + (↑s.length : Int))).toNat && (IntKind.i64.wrap (i + (↑s.length : Int))).toNat.ble t.length then bif List.take ((IntKind.i64.wrap (i +
 (↑s.length : Int))).toNat - i.toNat) (List.drop i.toNat t) == s then R Exit.ret [some (V.str s), some (V.str t), some (V.bool true), some (V.int IntKind.i64 i)] [] else R
 Exit.normal [some (V.str s), some (V.str t), some (V.bool false), some (V.int IntKind.i64 (IntKind.i64.wrap (i + 1)))] [] else False else False else False else R
 (Exit.exit 0) [some (V.str s), some (V.str t), some (V.bool false), some (V.int IntKind.i64 i)] []) := by kernel_rfl
structure WI where
  s : List UInt8
  t : List UInt8
  i : Nat
def wiV (q : WI) : List V := [.str q.s, .str q.t, .bool false, .int .i64 q.i]
def wiJ (_ : WI) : St := []
def wiPre (q : WI) : Bool := Nat.ble q.i q.t.length && (Nat.ble q.s.length 1000000 && Nat.ble q.t.length 1000000)
def wiMu (q : WI) : Nat := q.t.length - q.i
def wiDec : List (Option V) → St → Option WI
  | [some (.str s), some (.str t), some (.bool false), some (.int .i64 0)], _ => some ⟨s, t, 0⟩
  | _, _ => none
def wiOutG (s t : List UInt8) (b : Bool) (K : Exit → List V → St → Prop) : Prop :=
  bif b then ∀ j : Int, K .ret [.str s, .str t, .bool true, .int .i64 j] [] else ∀ j : Int, K (.exit 0) [.str s, .str t, .bool false, .int .i64 j] []
def wiOut : Asks WI := fun q K => wiOutG q.s q.t (withinL q.s (q.t.drop q.i)) K
theorem wi_roundOk (q : WI) (hx : wiPre q = true) : roundW Tryd.prog T3 9 10 (rounds 9) 14 26 [0,1,4,5] (wiV q) (wiJ q) (RoundOkA 0 wiPre wiV wiJ wiMu wiOut q) := by
  obtain ⟨s, t, i⟩ := q
  unfold wiPre at hx
  simp only [Bool.and_eq_true] at hx
  have p1 : i ≤ t.length := Nat.le_of_ble_eq_true hx.1
  have p2 : s.length ≤ 1000000 := Nat.le_of_ble_eq_true hx.2.1
  have p3 : t.length ≤ 1000000 := Nat.le_of_ble_eq_true hx.2.2
  show roundW Tryd.prog T3 9 10 (rounds 9) 14 26 [0,1,4,5] [.str s, .str t, .bool false, .int .i64 i] [] _
  rw [wi_round]
  have w1 : IntKind.i64.wrap ((i : Int) + (s.length : Int)) = ((i + s.length : Nat) : Int) := by rw [IntWalk.i64_in _ ⟨by omega, by omega⟩]; omega
  have w2 : IntKind.i64.wrap ((i : Int) + 1) = ((i + 1 : Nat) : Int) := by rw [IntWalk.i64_in _ ⟨by omega, by omega⟩]; omega
  rw [w1]
  refine bif_intro (fun h => ?_) (fun h => ?_)
  · have h := of_decide_eq_true h
    have hl : i + s.length ≤ t.length := by omega
    have c1 : decide ((0 : Int) ≤ (i : Int)) = true := decide_eq_true (by omega)
    have c2 : decide ((0 : Int) ≤ ((i + s.length : Nat) : Int)) = true := decide_eq_true (by omega)
    have c3 : i.ble (i + s.length) = true := Nat.ble_eq_true_of_le (by omega)
    have c4 : (i + s.length).ble t.length = true := Nat.ble_eq_true_of_le hl
    simp only [c1, c2, Int.toNat_natCast, c3, c4, cond_true, Bool.and_self, Nat.add_sub_cancel_left, w2]
    refine bif_intro (fun e => ?_) (fun e => ?_)
    · refine ⟨[.str s, .str t, .bool true, .int .i64 i], [], fun K hK => ?_, vs_fits [.str s, .str t, .bool true, .int .i64 i] rfl _ rfl _⟩
      have hK : wiOutG s t (withinL s (t.drop i)) K := hK
      rw [within_here (eq_of_beq e)] at hK
      exact hK _
    · cases hd : t.drop i with
      | nil =>
        have := congrArg List.length hd
        rw [List.length_drop, List.length_nil] at this
        have hs : s = [] := List.eq_nil_of_length_eq_zero (by omega)
        subst hs
        rw [hd] at e
        cases e
      | cons c r =>
        obtain ⟨e1, e2, e3⟩ := dropA_cons hd
        have hlen := congrArg List.length hd
        rw [List.length_drop, List.length_cons] at hlen
        refine ⟨⟨s, t, i + 1⟩, ?_, vs_fits [.str s, .str t, .bool false, .int .i64 (i + 1 : Nat)] rfl _ rfl _, by simp only [wiMu]; omega, fun K hK => ?_⟩
        · unfold wiPre; simp only [Bool.and_eq_true]
          exact ⟨Nat.ble_eq_true_of_le (show i + 1 ≤ t.length by omega), hx.2⟩
        · have hK : wiOutG s t (withinL s (t.drop i)) K := hK
          show wiOutG s t (withinL s (t.drop (i + 1))) K
          rw [hd, withinL, decide_eq_true (show s.length ≤ (c :: r).length by rw [List.length_cons]; omega), cond_true, ← hd, e, Bool.false_or] at hK
          rw [e2]; exact hK
  · have h := of_decide_eq_false h
    refine ⟨_, [], fun K hK => ?_, vs_fits [.str s, .str t, .bool false, .int .i64 i] rfl _ rfl _⟩
    have hK : wiOutG s t (withinL s (t.drop i)) K := hK
    rw [within_short (by rw [List.length_drop]; omega)] at hK
    exact hK _
noncomputable def lkWI : Nat → Trans → Trans := withLoop 26 (loopA 0 (szOf Tryd.prog 14) [0,1,4,5] wiDec wiPre wiV wiJ wiOut) (rounds 9)
theorem lkWI_ok : FnLoopsW Tryd.prog 0 lkWI 14 := by
  unfold lkWI
  exact fnLoopW (fnRoundsW 9 0 14) (by kernel_rfl) fun f st Q h => loopA_ok (P := Tryd.prog) (T := T3) (k := 0) (lim := 9) (n := 10) (g := 14) (p0 := 26) (lk := rounds 9) mixed T3_ok (roundsW 9 _ _) wiMu wi_roundOk h
noncomputable def WI1 : Tab := ⟨noT, noL, addLk (noLks 9) 14 0 lkWI⟩
theorem WI1_ok : TabOk3 Tryd.prog WI1 := ⟨noT_ok, noL_ok, addLk_ok (noLks_ok 9) lkWI_ok⟩
theorem wi_tree (s t : List UInt8) (R : V → Prop) : runW Tryd.prog WI1 9 10 14 [.str s, .str t] R =
   (
 Fits 0 [V.str s, V.str t, V.bool false, V.int IntKind.i64 0] [] [some (V.str s), some (V.str t), some (V.bool false), some (V.int IntKind.i64 0)] [] ∧ bif wiPre { s := s, t := t, i := 0 }
 then bif withinL s (List.drop 0 t) then ∀ (j : Int), R (V.bool true) else ∀ (j : Int), R (V.bool false) else False) := by kernel_rfl
def wiT : List V → Option (List (Bool × (V × St)))
  | [.str s, .str t] => some [(Nat.ble s.length 1000000 && Nat.ble t.length 1000000, (.bool (withinL s t), []))]
  | _ => none
theorem wi_ok (args : List V) (l : List (Bool × (V × St))) (o : V × St) (h : wiT args = some l) (ho : pickO l = some o) : FnSat Tryd.prog 14 args [] (Is o) := by
  unfold wiT at h
  split at h
  · rename_i s t
    cases h
    obtain ⟨hk, rfl⟩ := pickO_one ho
    refine pureW_of (lim := 9) (n := 10) mixed WI1_ok rfl rfl ?_
    rw [wi_tree]
    refine ⟨vs_fits _ rfl _ rfl _, must_intro (by unfold wiPre; rw [hk]; exact (Bool.and_true _).trans (Nat.ble_eq_true_of_le (Nat.zero_le _))) ?_⟩
    rw [List.drop_zero]
    cases withinL s t with
    | true => intro _; rfl
    | false => intro _; rfl
  · cases h
noncomputable def WT : Tab := ⟨addT (addP (addP (addT (addP noT 9 worksF) 10 largeP) 11 spkiP) 12 digP) 14 wiT, addS noL 13 encG, noLks 9⟩
theorem WT_ok : TabOk3 Tryd.prog WT := ⟨addT_ok (addP_ok (addP_ok (addT_ok (addP_ok noT_ok worksF_ok) largeP_ok) spki_ok) dig_ok) wi_ok, addS_ok noL_ok encG_ok, noLks_ok 9⟩
theorem within_law (k g : List UInt8) (x : Value) (n : Nat) (cs : List V) (f u : Int) (ca : Bool) (key name : List UInt8) (R : V → Prop) : runW Tryd.prog WT 9 10 3 [.agg [.str k, .str g, .lst x n cs, .int .i64 f, .int .i64 u, .bool ca], .str key, .str name] R =
   (
 bif okS n cs then bif largeV (k) (g) cs then R (V.bool true) else bif decide ((↑key.length : Int) > 300) then R (V.bool true) else bif decide ((↑name.length : Int) > 300)
 then R (V.bool true) else bif decide ((↑key.length : Int) ≥ 1) then bif !(!spkiB key == []) == decide ((↑key.length : Int) ≤ 64) then R (V.bool false) else bif decide
 ((↑key.length : Int) ≤ 64) then bif !(spkiB key == spkiB (k)) == (key == k) then R (V.bool false) else bif decide ((↑key.length : Int) ≤ 64) then bif (↑(spkiB key).length
 : Int) != IntKind.i64.wrap ((↑key.length : Int) + 4) then R (V.bool false) else bif (↑(digB key).length : Int) != 32 then R (V.bool false) else bif cs.length.beq (n * 1)
 && (cs.all isStrV && cs.length.beq n) && (List.map strOfV cs).length.ble 9223372036854775807 then bif encE (k) (g) (List.map strOfV cs) f u ca != 0 then R (V.bool true)
 else bif n.beq 0 then bif (spkiB (k)).length.ble 1000000 && (encB (k) (g) (List.map strOfV cs) f u ca).length.ble 1000000 then bif withinL (spkiB (k)) (encB (k) (g)
 (List.map strOfV cs) f u ca) then bif encE ((k)) ((g)) [name] f u ca != 0 then R (V.bool true) else R (V.bool (decide ((↑(encB ((k)) ((g)) [name] f u ca).length : Int) ≥
 IntKind.i64.wrap (IntKind.i64.wrap ((↑(encB (k) (g) (List.map strOfV cs) f u ca).length : Int) + (↑name.length : Int)) + 2)))) else R (V.bool false) else False else bif
 cs.length.beq (n * 1) && cs.all V.one then bif (0 + n).ble 9223372036854775807 && ((0 + n) * 16).ble 140737488355328 then bif cs.length.beq ((0 + n) * 1) then bif (0 + n
 + 1).ble 9223372036854775807 && ((0 + n + 1) * 16).ble 140737488355328 then bif (0 + (0 + n + 1) * 1).ble (cs ++ [V.str name]).length && ((List.take ((0 + n + 1) * 1)
 (List.drop 0 (cs ++ [V.str name]))).all isStrV && (List.take ((0 + n + 1) * 1) (List.drop 0 (cs ++ [V.str name]))).length.beq (0 + n + 1)) && (List.map strOfV (List.take
 ((0 + n + 1) * 1) (List.drop 0 (cs ++ [V.str name])))).length.ble 9223372036854775807 then bif (spkiB (k)).length.ble 1000000 && (encB (k) (g) (List.map strOfV cs) f u
 ca).length.ble 1000000 then bif withinL (spkiB (k)) (encB (k) (g) (List.map strOfV cs) f u ca) then bif encE ((k)) ((g)) (List.map strOfV (List.take ((0 + n + 1) * 1)
 (List.drop 0 (cs ++ [V.str name])))) f u ca != 0 then R (V.bool true) else R (V.bool (decide ((↑(encB ((k)) ((g)) (List.map strOfV (List.take ((0 + n + 1) * 1) (List.drop
 0 (cs ++ [V.str name])))) f u ca).length : Int) ≥ IntKind.i64.wrap (IntKind.i64.wrap ((↑(encB (k) (g) (List.map strOfV cs) f u ca).length : Int) + (↑name.length : Int)) +
 2)))) else R (V.bool false) else False else False else False else False else False else False else False else bif cs.length.beq (n * 1) && (cs.all isStrV && cs.length.beq
 n) && (List.map strOfV cs).length.ble 9223372036854775807 then bif encE (k) (g) (List.map strOfV cs) f u ca != 0 then R (V.bool true) else bif n.beq 0 then bif (spkiB
 (k)).length.ble 1000000 && (encB (k) (g) (List.map strOfV cs) f u ca).length.ble 1000000 then bif withinL (spkiB (k)) (encB (k) (g) (List.map strOfV cs) f u ca) then bif
 encE ((k)) ((g)) [name] f u ca != 0 then R (V.bool true) else R (V.bool (decide ((↑(encB ((k)) ((g)) [name] f u ca).length : Int) ≥ IntKind.i64.wrap (IntKind.i64.wrap
 ((↑(encB (k) (g) (List.map strOfV cs) f u ca).length : Int) + (↑name.length : Int)) + 2)))) else R (V.bool false) else False else bif cs.length.beq (n * 1) && cs.all
 V.one then bif (0 + n).ble 9223372036854775807 && ((0 + n) * 16).ble 140737488355328 then bif cs.length.beq ((0 + n) * 1) then bif (0 + n + 1).ble 9223372036854775807 &&
 ((0 + n + 1) * 16).ble 140737488355328 then bif (0 + (0 + n + 1) * 1).ble (cs ++ [V.str name]).length && ((List.take ((0 + n + 1) * 1) (List.drop 0 (cs ++ [V.str
 name]))).all isStrV && (List.take ((0 + n + 1) * 1) (List.drop 0 (cs ++ [V.str name]))).length.beq (0 + n + 1)) && (List.map strOfV (List.take ((0 + n + 1) * 1)
 (List.drop 0 (cs ++ [V.str name])))).length.ble 9223372036854775807 then bif (spkiB (k)).length.ble 1000000 && (encB (k) (g) (List.map strOfV cs) f u ca).length.ble
 1000000 then bif withinL (spkiB (k)) (encB (k) (g) (List.map strOfV cs) f u ca) then bif encE ((k)) ((g)) (List.map strOfV (List.take ((0 + n + 1) * 1) (List.drop 0 (cs
 ++ [V.str name])))) f u ca != 0 then R (V.bool true) else R (V.bool (decide ((↑(encB ((k)) ((g)) (List.map strOfV (List.take ((0 + n + 1) * 1) (List.drop 0 (cs ++ [V.str
 name])))) f u ca).length : Int) ≥ IntKind.i64.wrap (IntKind.i64.wrap ((↑(encB (k) (g) (List.map strOfV cs) f u ca).length : Int) + (↑name.length : Int)) + 2)))) else R
 (V.bool false) else False else False else False else False else False else False else False else bif decide ((↑key.length : Int) ≤ 64) then bif (↑(spkiB key).length :
 Int) != IntKind.i64.wrap ((↑key.length : Int) + 4) then R (V.bool false) else bif (↑(digB key).length : Int) != 32 then R (V.bool false) else bif cs.length.beq (n * 1) &&
 (cs.all isStrV && cs.length.beq n) && (List.map strOfV cs).length.ble 9223372036854775807 then bif encE (k) (g) (List.map strOfV cs) f u ca != 0 then R (V.bool true) else
 bif n.beq 0 then bif (spkiB (k)).length.ble 1000000 && (encB (k) (g) (List.map strOfV cs) f u ca).length.ble 1000000 then bif withinL (spkiB (k)) (encB (k) (g) (List.map
 strOfV cs) f u ca) then bif encE ((k)) ((g)) [name] f u ca != 0 then R (V.bool true) else R (V.bool (decide ((↑(encB ((k)) ((g)) [name] f u ca).length : Int) ≥
 IntKind.i64.wrap (IntKind.i64.wrap ((↑(encB (k) (g) (List.map strOfV cs) f u ca).length : Int) + (↑name.length : Int)) + 2)))) else R (V.bool false) else False else bif
 cs.length.beq (n * 1) && cs.all V.one then bif (0 + n).ble 9223372036854775807 && ((0 + n) * 16).ble 140737488355328 then bif cs.length.beq ((0 + n) * 1) then bif (0 + n
 + 1).ble 9223372036854775807 && ((0 + n + 1) * 16).ble 140737488355328 then bif (0 + (0 + n + 1) * 1).ble (cs ++ [V.str name]).length && ((List.take ((0 + n + 1) * 1)
 (List.drop 0 (cs ++ [V.str name]))).all isStrV && (List.take ((0 + n + 1) * 1) (List.drop 0 (cs ++ [V.str name]))).length.beq (0 + n + 1)) && (List.map strOfV (List.take
 ((0 + n + 1) * 1) (List.drop 0 (cs ++ [V.str name])))).length.ble 9223372036854775807 then bif (spkiB (k)).length.ble 1000000 && (encB (k) (g) (List.map strOfV cs) f u
 ca).length.ble 1000000 then bif withinL (spkiB (k)) (encB (k) (g) (List.map strOfV cs) f u ca) then bif encE ((k)) ((g)) (List.map strOfV (List.take ((0 + n + 1) * 1)
 (List.drop 0 (cs ++ [V.str name])))) f u ca != 0 then R (V.bool true) else R (V.bool (decide ((↑(encB ((k)) ((g)) (List.map strOfV (List.take ((0 + n + 1) * 1) (List.drop
 0 (cs ++ [V.str name])))) f u ca).length : Int) ≥ IntKind.i64.wrap (IntKind.i64.wrap ((↑(encB (k) (g) (List.map strOfV cs) f u ca).length : Int) + (↑name.length : Int)) +
 2)))) else R (V.bool false) else False else False else False else False else False else False else False else bif cs.length.beq (n * 1) && (cs.all isStrV && cs.length.beq
 n) && (List.map strOfV cs).length.ble 9223372036854775807 then bif encE (k) (g) (List.map strOfV cs) f u ca != 0 then R (V.bool true) else bif n.beq 0 then bif (spkiB
 (k)).length.ble 1000000 && (encB (k) (g) (List.map strOfV cs) f u ca).length.ble 1000000 then bif withinL (spkiB (k)) (encB (k) (g) (List.map strOfV cs) f u ca) then bif
 encE ((k)) ((g)) [name] f u ca != 0 then R (V.bool true) else R (V.bool (decide ((↑(encB ((k)) ((g)) [name] f u ca).length : Int) ≥ IntKind.i64.wrap (IntKind.i64.wrap
 ((↑(encB (k) (g) (List.map strOfV cs) f u ca).length : Int) + (↑name.length : Int)) + 2)))) else R (V.bool false) else False else bif cs.length.beq (n * 1) && cs.all
 V.one then bif (0 + n).ble 9223372036854775807 && ((0 + n) * 16).ble 140737488355328 then bif cs.length.beq ((0 + n) * 1) then bif (0 + n + 1).ble 9223372036854775807 &&
 ((0 + n + 1) * 16).ble 140737488355328 then bif (0 + (0 + n + 1) * 1).ble (cs ++ [V.str name]).length && ((List.take ((0 + n + 1) * 1) (List.drop 0 (cs ++ [V.str
 name]))).all isStrV && (List.take ((0 + n + 1) * 1) (List.drop 0 (cs ++ [V.str name]))).length.beq (0 + n + 1)) && (List.map strOfV (List.take ((0 + n + 1) * 1)
 (List.drop 0 (cs ++ [V.str name])))).length.ble 9223372036854775807 then bif (spkiB (k)).length.ble 1000000 && (encB (k) (g) (List.map strOfV cs) f u ca).length.ble
 1000000 then bif withinL (spkiB (k)) (encB (k) (g) (List.map strOfV cs) f u ca) then bif encE ((k)) ((g)) (List.map strOfV (List.take ((0 + n + 1) * 1) (List.drop 0 (cs
 ++ [V.str name])))) f u ca != 0 then R (V.bool true) else R (V.bool (decide ((↑(encB ((k)) ((g)) (List.map strOfV (List.take ((0 + n + 1) * 1) (List.drop 0 (cs ++ [V.str
 name])))) f u ca).length : Int) ≥ IntKind.i64.wrap (IntKind.i64.wrap ((↑(encB (k) (g) (List.map strOfV cs) f u ca).length : Int) + (↑name.length : Int)) + 2)))) else R
 (V.bool false) else False else False else False else False else False else False else False else bif !(!spkiB key == []) == false then R (V.bool false) else bif
 cs.length.beq (n * 1) && (cs.all isStrV && cs.length.beq n) && (List.map strOfV cs).length.ble 9223372036854775807 then bif encE (k) (g) (List.map strOfV cs) f u ca != 0
 then R (V.bool true) else bif n.beq 0 then bif (spkiB (k)).length.ble 1000000 && (encB (k) (g) (List.map strOfV cs) f u ca).length.ble 1000000 then bif withinL (spkiB
 (k)) (encB (k) (g) (List.map strOfV cs) f u ca) then bif encE ((k)) ((g)) [name] f u ca != 0 then R (V.bool true) else R (V.bool (decide ((↑(encB ((k)) ((g)) [name] f u
 ca).length : Int) ≥ IntKind.i64.wrap (IntKind.i64.wrap ((↑(encB (k) (g) (List.map strOfV cs) f u ca).length : Int) + (↑name.length : Int)) + 2)))) else R (V.bool false)
 else False else bif cs.length.beq (n * 1) && cs.all V.one then bif (0 + n).ble 9223372036854775807 && ((0 + n) * 16).ble 140737488355328 then bif cs.length.beq ((0 + n) *
 1) then bif (0 + n + 1).ble 9223372036854775807 && ((0 + n + 1) * 16).ble 140737488355328 then bif (0 + (0 + n + 1) * 1).ble (cs ++ [V.str name]).length && ((List.take
 ((0 + n + 1) * 1) (List.drop 0 (cs ++ [V.str name]))).all isStrV && (List.take ((0 + n + 1) * 1) (List.drop 0 (cs ++ [V.str name]))).length.beq (0 + n + 1)) && (List.map
 strOfV (List.take ((0 + n + 1) * 1) (List.drop 0 (cs ++ [V.str name])))).length.ble 9223372036854775807 then bif (spkiB (k)).length.ble 1000000 && (encB (k) (g) (List.map
 strOfV cs) f u ca).length.ble 1000000 then bif withinL (spkiB (k)) (encB (k) (g) (List.map strOfV cs) f u ca) then bif encE ((k)) ((g)) (List.map strOfV (List.take ((0 +
 n + 1) * 1) (List.drop 0 (cs ++ [V.str name])))) f u ca != 0 then R (V.bool true) else R (V.bool (decide ((↑(encB ((k)) ((g)) (List.map strOfV (List.take ((0 + n + 1) *
 1) (List.drop 0 (cs ++ [V.str name])))) f u ca).length : Int) ≥ IntKind.i64.wrap (IntKind.i64.wrap ((↑(encB (k) (g) (List.map strOfV cs) f u ca).length : Int) +
 (↑name.length : Int)) + 2)))) else R (V.bool false) else False else False else False else False else False else False else False else False) := by kernel_rfl
theorem heads (k key : List UInt8) {T F : Prop} (t : T) : bif decide ((↑key.length : Int) ≥ 1) then (bif !(!spkiB key == []) == decide ((↑key.length : Int) ≤ 64) then F else bif decide ((↑key.length : Int) ≤ 64) then (bif !(spkiB key == spkiB k) == (key == k) then F else bif decide ((↑key.length : Int) ≤ 64) then (bif (↑(spkiB key).length : Int) != IntKind.i64.wrap ((↑key.length : Int) + 4) then F else bif (↑(digB key).length : Int) != 32 then F else T) else T) else bif decide ((↑key.length : Int) ≤ 64) then (bif (↑(spkiB key).length : Int) != IntKind.i64.wrap ((↑key.length : Int) + 4) then F else bif (↑(digB key).length : Int) != 32 then F else T) else T) else bif !(!spkiB key == []) == false then F else T := by
  by_cases h : 1 ≤ key.length ∧ key.length ≤ 64
  · have e1 := spki_len4 h.1 h.2
    have e2 : (spkiB key == []) = false := by
      cases hq : (spkiB key == []) with
      | false => rfl
      | true => have := congrArg List.length (eq_of_beq hq); rw [e1] at this; simp at this
    have e3 := spki_same (k' := k) h.1 h.2
    have e4 := dig_len h.1 h.2
    have e5 : decide ((↑key.length : Int) ≥ 1) = true := decide_eq_true (by omega)
    have e6 : decide ((↑key.length : Int) ≤ 64) = true := decide_eq_true (by omega)
    have e7 : IntKind.i64.wrap ((↑key.length : Int) + 4) = ((key.length + 4 : Nat) : Int) := by rw [IntWalk.i64_in _ ⟨by omega, by omega⟩]; omega
    rw [e5, e6, e2, e3, e1, e4, e7, bne_self_eq_false, beq_self_eq_true]
    exact t
  · have e1 := spki_none h
    have e2 : (spkiB key == []) = true := by rw [e1]; rfl
    by_cases h1 : 1 ≤ key.length
    · have e5 : decide ((↑key.length : Int) ≥ 1) = true := decide_eq_true (by omega)
      have e6 : decide ((↑key.length : Int) ≤ 64) = false := decide_eq_false (by omega)
      rw [e5, e6, e2]; exact t
    · have e5 : decide ((↑key.length : Int) ≥ 1) = false := decide_eq_false (by omega)
      rw [e5, e2]; exact t
theorem oneW : ∀ l : List (List UInt8), (strs l).all V.one = true
  | [] => rfl
  | a :: r => oneW r
theorem appW (l : List (List UInt8)) (s : List UInt8) : strs l ++ [.str s] = strs (l ++ [s]) := by unfold strs; rw [List.map_append]; rfl
theorem tkW (l : List (List UInt8)) (s : List UInt8) : List.take (l.length + 1) (strs (l ++ [s])) = strs (l ++ [s]) := List.take_of_length_le (by rw [strs_len, List.length_append]; exact Nat.le_refl _)
theorem within_last {k g : List UInt8} {l : List (List UInt8)} {f u : Int} {ca : Bool} {name : List UInt8} (hn : name.length ≤ 300) (h : encE k g l f u ca = 0) (h1 : (spkiB k).length ≤ 1000000 ∧ (encB k g l f u ca).length ≤ 512) :
    bif (spkiB k).length.ble 1000000 && (encB k g l f u ca).length.ble 1000000 then (bif withinL (spkiB k) (encB k g l f u ca) then bif encE k g (l ++ [name]) f u ca != 0 then V.bool true = V.bool true else V.bool (decide ((↑(encB k g (l ++ [name]) f u ca).length : Int) ≥ IntKind.i64.wrap (IntKind.i64.wrap ((↑(encB k g l f u ca).length : Int) + (↑name.length : Int)) + 2))) = V.bool true else V.bool false = V.bool true) else False := by
  refine must_intro (by rw [Nat.ble_eq_true_of_le h1.1, Nat.ble_eq_true_of_le (show (encB k g l f u ca).length ≤ 1000000 by omega)]; rfl) ?_
  rw [enc_within h, cond_true]
  refine bif_intro (fun _ => rfl) (fun e => ?_)
  have e : encE k g (l ++ [name]) f u ca = 0 := by
    rw [bne, Bool.not_eq_false'] at e; exact eq_of_beq e
  have := enc_longer h e
  have w : IntKind.i64.wrap (IntKind.i64.wrap ((↑(encB k g l f u ca).length : Int) + (↑name.length : Int)) + 2) = ((encB k g l f u ca).length + name.length + 2 : Nat) := by
    rw [IntWalk.i64_in ((↑(encB k g l f u ca).length : Int) + (↑name.length : Int)) ⟨by omega, by omega⟩, IntWalk.i64_in _ ⟨by omega, by omega⟩]; omega
  rw [w, decide_eq_true (by omega)]
theorem within_close (k g : List UInt8) (x : Value) (l : List (List UInt8)) (f u : Int) (ca : Bool) (key name : List UInt8) (h1 : l.length ≤ 9223372036854775807) :
    FnSat Tryd.prog 3 [.agg [.str k, .str g, lstS x l, .int .i64 f, .int .i64 u, .bool ca], .str key, .str name] [] (fun v _ => v = .bool true) := by
  refine runW_ok (lim := 9) (n := 10) mixed WT_ok ?_
  unfold lstS
  refine cast (within_law k g x l.length (strs l) f u ca key name (fun v => v = .bool true)).symm ?_
  refine must_intro (okS_mk h1) ?_
  refine bif_intro (fun _ => rfl) (fun _ => ?_)
  refine bif_intro (fun _ => rfl) (fun _ => ?_)
  refine bif_intro (fun _ => rfl) (fun g2 => ?_)
  have g2 := of_decide_eq_false g2
  have g3 : name.length ≤ 300 := by omega
  refine heads k key ?_
  refine must_intro (by rw [strs_len, Nat.mul_one, Nat.beq_refl, strs_isStr, strs_strOf, Nat.ble_eq_true_of_le h1]; rfl) ?_
  rw [strs_strOf]
  refine bif_intro (fun _ => rfl) (fun e => ?_)
  have e : encE k g l f u ca = 0 := by
    rw [bne, Bool.not_eq_false'] at e; exact eq_of_beq e
  obtain ⟨a1, a2, a3⟩ := enc_zero e
  obtain ⟨⟨b1, b2⟩, _, _, b5⟩ := encOk_all a1
  have fin : (spkiB k).length ≤ 1000000 ∧ (encB k g l f u ca).length ≤ 512 := ⟨by rw [spki_len4 b1 b2]; omega, by rw [a2]; exact a3⟩
  refine bif_intro (fun n0 => ?_) (fun _ => ?_)
  · have n1 : l = [] := List.eq_nil_of_length_eq_zero (Nat.eq_of_beq_eq_true n0)
    subst n1
    exact within_last (l := []) g3 e fin
  · have m1 : (l.length * 16).ble 140737488355328 = true := Nat.ble_eq_true_of_le (by omega)
    have m2 : (l.length + 1).ble 9223372036854775807 = true := Nat.ble_eq_true_of_le (by omega)
    have m3 : ((l.length + 1) * 16).ble 140737488355328 = true := Nat.ble_eq_true_of_le (by omega)
    have m4 : l.length.ble 9223372036854775807 = true := Nat.ble_eq_true_of_le h1
    have m5 : (l.length + 1).ble (l.length + 1) = true := Nat.ble_eq_true_of_le (Nat.le_refl _)
    simp only [strs_len, Nat.mul_one, Nat.zero_add, Nat.beq_refl, strs_isStr, strs_strOf, oneW, List.drop_zero, appW, tkW, List.length_append, List.length_cons, List.length_nil, m1, m2, m3, m4, m5, Bool.and_self, cond_true]
    have q := within_last g3 e fin
    simp only [eq_self] at q ⊢
    exact q
end Go.Proofs.YtakfcajmfgnchaaDoor
