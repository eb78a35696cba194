/- CodeBack: what it comes to. -/
import Derived.Test.YtlgapohnmcmhdaaDoorWorks
import Derived.Test.YtlgapohnmcmhdaaDoorNums
import Derived.Test.YtlgapohnmcmhdaaDoorNumBack2
import Derived.Test.YtlgapohnmcmhdaaDoorUnb
namespace Go.Proofs.YtlgapohnmcmhdaaDoor
open Go Go.Vm Go.RowKit
set_option linter.unusedVariables false
theorem long2_tree (s t : List UInt8) (c z : Nat) (R : V → St → Prop) : lookT 9 (rounds 9) [.slice 0 0 2 false c z] [.ro false [.str s, .str t]] R =
   (
 R
 (V.bool
 (decide
 (IntKind.i64.wrap
 (IntKind.i64.wrap (0 + if 9000 < (↑s.length : Int) then 9000 else (↑s.length : Int)) +
 if 9000 < (↑t.length : Int) then 9000 else (↑t.length : Int)) ≥
 9000)))
 [Blk.ro false [V.str s, V.str t]]) := by kernel_rfl
def cut9 (m : Int) : Int := if 9000 < m then 9000 else m
def long2 (s t : List UInt8) : Bool := decide (9000 ≤ cut9 (s.length : Int) + cut9 (t.length : Int))
def long2G : List V → St → Option (List (Bool × (V × St)))
  | [.slice 0 0 2 false _ _], [.ro false [.str s, .str t]] => some [(true, (.bool (long2 s t), []))]
  | _, _ => none
def numTG2 (OL : List UInt8 → Bool) (NV NE : List UInt8 → Int → Int) : List V → Option (List (Bool × (V × St)))
  | [.str s, .int .i64 most] => some [(OL s && isI64 most, (.tuple [.int .i64 (NV s most), .int .i64 (NE s most)], []))]
  | _ => none
def unTG (OL : List UInt8 → Bool) (U E : List UInt8 → List UInt8) (F : List UInt8 → Int) : List V → Option (List (Bool × (V × St)))
  | [.str s] => some [(OL s, (.tuple [.str (U s), .int .i64 (F s)], []))]
  | _ => none
noncomputable def T10 (OL : List UInt8 → Bool) (HX B6 UX UB : List UInt8 → List UInt8) (EX EB : List UInt8 → Int) (NV NE : List UInt8 → Int → Int) : Tab := ⟨addP (addT (addT (addT (addT (addT (addT noT 31 itoaF) 20 (numTG2 OL NV NE)) 11 (hexTG OL HX)) 12 (hexTG OL B6)) 15 (unTG OL UX UX EX)) 17 (unTG OL UB UB EB)) 10 worksF, addM noL 9 long2G, noLks 9⟩
theorem back_tree (OL : List UInt8 → Bool) (HX B6 UX UB : List UInt8 → List UInt8) (EX EB : List UInt8 → Int) (NV NE : List UInt8 → Int → Int) (s t : List UInt8) (n : Int) (R : V → Prop) : runW Tryd.prog (T10 OL HX B6 UX UB EX EB NV NE) 9 10 6 [.str s, .str t, .int .i64 n] R =
   (
 bif long2 s t then R (V.bool true)
 else
 bif OL s then
 bif OL (HX s) then
 bif OL s then
 bif OL (B6 s) then
 bif !UX (HX s) == s then R (V.bool false)
 else
 bif EX (HX s) != 0 then R (V.bool false)
 else
 bif !UB (B6 s) == s then R (V.bool false)
 else
 bif EB (B6 s) != 0 then R (V.bool false)
 else
 bif OL t then
 bif OL t then
 bif OL t && true then
 bif EX t == 0 then
 bif OL (UX t) then
 bif !HX (UX t) == t then R (V.bool false)
 else
 bif EB t == 0 then
 bif OL (UB t) then
 bif !B6 (UB t) == t then R (V.bool false)
 else
 bif NE t 9223372036854775807 == 0 then
 bif isI64 (NV t 9223372036854775807) then
 bif !Lib.itoa (NV t 9223372036854775807) == t then R (V.bool false)
 else
 bif isI64 n then
 bif OL (Lib.itoa n) && true then
 bif decide (n < 0) then
 bif NE (Lib.itoa n) 9223372036854775807 == 4 then R (V.bool true)
 else
 bif decide (n ≥ 0) then
 bif NE (Lib.itoa n) 9223372036854775807 == 0 then
 R (V.bool (NV (Lib.itoa n) 9223372036854775807 == n))
 else R (V.bool false)
 else R (V.bool false)
 else
 bif decide (n ≥ 0) then
 bif NE (Lib.itoa n) 9223372036854775807 == 0 then
 R (V.bool (NV (Lib.itoa n) 9223372036854775807 == n))
 else R (V.bool false)
 else R (V.bool false)
 else False
 else False
 else False
 else
 bif isI64 n then
 bif OL (Lib.itoa n) && true then
 bif decide (n < 0) then
 bif NE (Lib.itoa n) 9223372036854775807 == 4 then R (V.bool true)
 else
 bif decide (n ≥ 0) then
 bif NE (Lib.itoa n) 9223372036854775807 == 0 then
 R (V.bool (NV (Lib.itoa n) 9223372036854775807 == n))
 else R (V.bool false)
 else R (V.bool false)
 else
 bif decide (n ≥ 0) then
 bif NE (Lib.itoa n) 9223372036854775807 == 0 then
 R (V.bool (NV (Lib.itoa n) 9223372036854775807 == n))
 else R (V.bool false)
 else R (V.bool false)
 else False
 else False
 else False
 else
 bif NE t 9223372036854775807 == 0 then
 bif isI64 (NV t 9223372036854775807) then
 bif !Lib.itoa (NV t 9223372036854775807) == t then R (V.bool false)
 else
 bif isI64 n then
 bif OL (Lib.itoa n) && true then
 bif decide (n < 0) then
 bif NE (Lib.itoa n) 9223372036854775807 == 4 then R (V.bool true)
 else
 bif decide (n ≥ 0) then
 bif NE (Lib.itoa n) 9223372036854775807 == 0 then
 R (V.bool (NV (Lib.itoa n) 9223372036854775807 == n))
 else R (V.bool false)
 else R (V.bool false)
 else
 bif decide (n ≥ 0) then
 bif NE (Lib.itoa n) 9223372036854775807 == 0 then
 R (V.bool (NV (Lib.itoa n) 9223372036854775807 == n))
 else R (V.bool false)
 else R (V.bool false)
 else False
 else False
 else False
 else
 bif isI64 n then
 bif OL (Lib.itoa n) && true then
 bif decide (n < 0) then
 bif NE (Lib.itoa n) 9223372036854775807 == 4 then R (V.bool true)
 else
 bif decide (n ≥ 0) then
 bif NE (Lib.itoa n) 9223372036854775807 == 0 then
 R (V.bool (NV (Lib.itoa n) 9223372036854775807 == n))
 else R (V.bool false)
 else R (V.bool false)
 else
 bif decide (n ≥ 0) then
 bif NE (Lib.itoa n) 9223372036854775807 == 0 then
 R (V.bool (NV (Lib.itoa n) 9223372036854775807 == n))
 else R (V.bool false)
 else R (V.bool false)
 else False
 else False
 else False
 else
 bif EB t == 0 then
 bif OL (UB t) then
 bif !B6 (UB t) == t then R (V.bool false)
 else
 bif NE t 9223372036854775807 == 0 then
 bif isI64 (NV t 9223372036854775807) then
 bif !Lib.itoa (NV t 9223372036854775807) == t then R (V.bool false)
 else
 bif isI64 n then
 bif OL (Lib.itoa n) && true then
 bif decide (n < 0) then
 bif NE (Lib.itoa n) 9223372036854775807 == 4 then R (V.bool true)
 else
 bif decide (n ≥ 0) then
 bif NE (Lib.itoa n) 9223372036854775807 == 0 then
 R (V.bool (NV (Lib.itoa n) 9223372036854775807 == n))
 else R (V.bool false)
 else R (V.bool false)
 else
 bif decide (n ≥ 0) then
 bif NE (Lib.itoa n) 9223372036854775807 == 0 then
 R (V.bool (NV (Lib.itoa n) 9223372036854775807 == n))
 else R (V.bool false)
 else R (V.bool false)
 else False
 else False
 else False
 else
 bif isI64 n then
 bif OL (Lib.itoa n) && true then
 bif decide (n < 0) then
 bif NE (Lib.itoa n) 9223372036854775807 == 4 then R (V.bool true)
 else
 bif decide (n ≥ 0) then
 bif NE (Lib.itoa n) 9223372036854775807 == 0 then
 R (V.bool (NV (Lib.itoa n) 9223372036854775807 == n))
 else R (V.bool false)
 else R (V.bool false)
 else
 bif decide (n ≥ 0) then
 bif NE (Lib.itoa n) 9223372036854775807 == 0 then
 R (V.bool (NV (Lib.itoa n) 9223372036854775807 == n))
 else R (V.bool false)
 else R (V.bool false)
 else False
 else False
 else False
 else
 bif NE t 9223372036854775807 == 0 then
 bif isI64 (NV t 9223372036854775807) then
 bif !Lib.itoa (NV t 9223372036854775807) == t then R (V.bool false)
 else
 bif isI64 n then
 bif OL (Lib.itoa n) && true then
 bif decide (n < 0) then
 bif NE (Lib.itoa n) 9223372036854775807 == 4 then R (V.bool true)
 else
 bif decide (n ≥ 0) then
 bif NE (Lib.itoa n) 9223372036854775807 == 0 then
 R (V.bool (NV (Lib.itoa n) 9223372036854775807 == n))
 else R (V.bool false)
 else R (V.bool false)
 else
 bif decide (n ≥ 0) then
 bif NE (Lib.itoa n) 9223372036854775807 == 0 then
 R (V.bool (NV (Lib.itoa n) 9223372036854775807 == n))
 else R (V.bool false)
 else R (V.bool false)
 else False
 else False
 else False
 else
 bif isI64 n then
 bif OL (Lib.itoa n) && true then
 bif decide (n < 0) then
 bif NE (Lib.itoa n) 9223372036854775807 == 4 then R (V.bool true)
 else
 bif decide (n ≥ 0) then
 bif NE (Lib.itoa n) 9223372036854775807 == 0 then
 R (V.bool (NV (Lib.itoa n) 9223372036854775807 == n))
 else R (V.bool false)
 else R (V.bool false)
 else
 bif decide (n ≥ 0) then
 bif NE (Lib.itoa n) 9223372036854775807 == 0 then
 R (V.bool (NV (Lib.itoa n) 9223372036854775807 == n))
 else R (V.bool false)
 else R (V.bool false)
 else False
 else False
 else False
 else False
 else False
 else False
 else False
 else False
 else False) := by kernel_rfl
theorem cut9_sum (a b : Nat) : IntKind.i64.wrap (IntKind.i64.wrap (0 + if 9000 < (a : Int) then 9000 else (a : Int)) + if 9000 < (b : Int) then 9000 else (b : Int)) = cut9 (a : Int) + cut9 (b : Int) := by
  have ha : 0 ≤ cut9 (a : Int) ∧ cut9 (a : Int) ≤ 9000 := by unfold cut9; split <;> omega
  have hb : 0 ≤ cut9 (b : Int) ∧ cut9 (b : Int) ≤ 9000 := by unfold cut9; split <;> omega
  show IntKind.i64.wrap (IntKind.i64.wrap (0 + cut9 (a : Int)) + cut9 (b : Int)) = _
  rw [IntWalk.i64_in (0 + cut9 (a : Int)) ⟨by omega, by omega⟩, IntWalk.i64_in _ ⟨by omega, by omega⟩, Int.zero_add]
theorem long2G_ok (args : List V) (s : St) (l : List (Bool × (V × St))) (v : V) (n : St) (h : long2G args s = some l) (ho : pickO l = some (v, n)) : (∀ b ∈ s, flatL b.cs = true) ∧ FnSat Tryd.prog 9 args s (fun u st => Fits 0 [v] n [some u] st) := by
  unfold long2G at h
  split at h
  · rename_i c z s t
    cases h
    cases ho
    refine ⟨by simp [Blk.cs, flatL, V.flat], lookT_ok (lk := rounds 9) (fnRoundsW 9 _ _) ?_⟩
    rw [long2_tree, cut9_sum]
    exact ⟨[], [.bool (long2 s t)], rfl, rfl, FitsM.of trivial, by simp, fun i hi => by omega⟩
  · cases h
def uxU (s : List UInt8) : List UInt8 := (B64.unhexF s).getD []
def uxE (s : List UInt8) : Int := bif (B64.unhexF s).isSome then 0 else 4
def ubU (s : List UInt8) : List UInt8 := (B64.unb s).getD []
def ubE (s : List UInt8) : Int := bif (B64.unb s).isSome then 0 else 4
theorem T10_ok : TabOk3 Tryd.prog (T10 okL B64.hex B64.b64 uxU ubU uxE ubE numV numE) :=
  ⟨addP_ok (addT_ok (addT_ok (addT_ok (addT_ok (addT_ok (addT_ok noT_ok itoa_ok) cnum_ok) hex_ok) b64_ok) unhex_ok) unb_ok) works_ok, addM_ok noL_ok long2G_ok, noLks_ok 9⟩
theorem unhex_len : ∀ (s t : List UInt8), B64.unhexF s = some t → t.length ≤ s.length := by
  intro s t h
  have := B64.hex_unhex s t h
  rw [← this, B64.hex_len]; omega
theorem unb_len (s t : List UInt8) (h : B64.unb s = some t) : t.length ≤ s.length := by
  have := B64.b64_unb h
  rw [← this, B64.b64_len]; omega
theorem uxE_zero {t : List UInt8} (h : (uxE t == 0) = true) : B64.hex (uxU t) = t ∧ (uxU t).length ≤ t.length := by
  unfold uxE at h
  unfold uxU
  cases hu : B64.unhexF t with
  | none => rw [hu] at h; cases h
  | some r => exact ⟨B64.hex_unhex t r hu, unhex_len t r hu⟩
theorem ubE_zero {t : List UInt8} (h : (ubE t == 0) = true) : B64.b64 (ubU t) = t ∧ (ubU t).length ≤ t.length := by
  unfold ubE at h
  unfold ubU
  cases hu : B64.unb t with
  | none => rw [hu] at h; cases h
  | some r => exact ⟨B64.b64_unb hu, unb_len t r hu⟩
theorem numV_i64 {t : List UInt8} (h : (numE t 9223372036854775807 == 0) = true) : isI64 (numV t 9223372036854775807) = true := by
  have h := eq_of_beq h
  unfold numE at h
  unfold numV
  cases ho : okNum t with
  | false => rw [ho] at h; cases h
  | true =>
    rw [ho] at h
    cases hm : decide ((numF 0 t : Int) ≤ 9223372036854775807) with
    | false => rw [hm] at h; cases h
    | true =>
      have := of_decide_eq_true hm
      show isI64 (numF 0 t : Int) = true
      unfold isI64
      rw [Bool.and_eq_true]
      exact ⟨decide_eq_true (by omega), decide_eq_true (by omega)⟩
theorem okNum_neg {n : Int} (h : n < 0) : okNum (Lib.itoa n) = false := by
  unfold Lib.itoa
  rw [if_pos h]
  unfold okNum
  rw [List.all_cons]
  have : isD 45 = false := by decide
  rw [this]
  simp
theorem numE_neg {n most : Int} (h : n < 0) : numE (Lib.itoa n) most = 4 := by unfold numE; rw [okNum_neg h]; rfl
theorem back_sat (s t : List UInt8) (n : Int) (hs : s.length ≤ 9223372036854775807) (ht : t.length ≤ 9223372036854775807) (hn : isI64 n = true) : FnSat Tryd.prog 6 [.str s, .str t, .int .i64 n] [] (fun v _ => v = .bool true) := by
  refine runW_ok (lim := 9) (n := 10) mixed T10_ok ?_
  rw [back_tree]
  refine bif_intro (fun h => rfl) (fun h => ?_)
  have hl : (s.length : Int) < 9000 ∧ (t.length : Int) < 9000 := by
    have h := of_decide_eq_false h
    unfold cut9 at h
    split at h <;> split at h <;> omega
  have o1 : okL s = true := decide_eq_true (by omega)
  have o2 : okL t = true := decide_eq_true (by omega)
  have o3 : okL (B64.hex s) = true := decide_eq_true (by rw [B64.hex_len]; omega)
  have o4 : okL (B64.b64 s) = true := decide_eq_true (by rw [B64.b64_len]; omega)
  have o5 := okL_itoa hn
  have e1 : uxU (B64.hex s) = s := by unfold uxU; rw [B64.unhex_hex]; rfl
  have e2 : uxE (B64.hex s) = 0 := by unfold uxE; rw [B64.unhex_hex]; rfl
  have e3 : ubU (B64.b64 s) = s := by unfold ubU; rw [B64.unb_b64]; rfl
  have e4 : ubE (B64.b64 s) = 0 := by unfold ubE; rw [B64.unb_b64]; rfl
  have tail : (bif isI64 n then
      bif okL (Lib.itoa n) && true then
        bif decide (n < 0) then
          bif numE (Lib.itoa n) 9223372036854775807 == 4 then V.bool true = V.bool true
          else
            bif decide (n ≥ 0) then
              bif numE (Lib.itoa n) 9223372036854775807 == 0 then
                V.bool (numV (Lib.itoa n) 9223372036854775807 == n) = V.bool true
              else V.bool false = V.bool true
            else V.bool false = V.bool true
        else
          bif decide (n ≥ 0) then
            bif numE (Lib.itoa n) 9223372036854775807 == 0 then
              V.bool (numV (Lib.itoa n) 9223372036854775807 == n) = V.bool true
            else V.bool false = V.bool true
          else V.bool false = V.bool true
      else False
    else False) := by
    refine must_intro hn (must_intro (by rw [o5]; rfl) (bif_intro (fun h => ?_) (fun h => ?_)))
    · have h := of_decide_eq_true h
      rw [numE_neg h]; rfl
    · have h := of_decide_eq_false h
      obtain ⟨q1, q2⟩ := num_itoa (n := n) (most := 9223372036854775807) (by omega) (isI64_spec hn).2
      rw [decide_eq_true (show n ≥ 0 by omega), q1, q2, beq_self_eq_true, beq_self_eq_true]; rfl
  have m1 : ∀ A : Prop, A → (bif numE t 9223372036854775807 == 0 then
      bif isI64 (numV t 9223372036854775807) then
        bif !Lib.itoa (numV t 9223372036854775807) == t then V.bool false = V.bool true else A
      else False
    else A) := by
    intro A hA
    refine bif_intro (fun h => must_intro (numV_i64 h) ?_) (fun _ => hA)
    rw [itoa_numV (eq_of_beq h), beq_self_eq_true]; exact hA
  have m2 : ∀ A : Prop, A → (bif ubE t == 0 then
      bif okL (ubU t) then
        bif !B64.b64 (ubU t) == t then V.bool false = V.bool true else A
      else False
    else A) := by
    intro A hA
    refine bif_intro (fun h => ?_) (fun _ => hA)
    obtain ⟨q1, q2⟩ := ubE_zero h
    refine must_intro (decide_eq_true (by omega)) ?_
    rw [q1, beq_self_eq_true]; exact hA
  have m3 : ∀ A : Prop, A → (bif uxE t == 0 then
      bif okL (uxU t) then
        bif !B64.hex (uxU t) == t then V.bool false = V.bool true else A
      else False
    else A) := by
    intro A hA
    refine bif_intro (fun h => ?_) (fun _ => hA)
    obtain ⟨q1, q2⟩ := uxE_zero h
    refine must_intro (decide_eq_true (by omega)) ?_
    rw [q1, beq_self_eq_true]; exact hA
  rw [o1, o2, o3, o4, e1, e2, e3, e4, beq_self_eq_true]
  exact m3 _ (m2 _ (m1 _ tail))
theorem codeBack_walk (s t : ByteArray) (n : Int) (w0 : s.size ≤ maxLen) (w1 : t.size ≤ maxLen) (w2 : (Lit.int .i64 n).wf = true) (w : World) (hg : GOk w.heap.size w) : Calls Tryd.prog 6 #[.string s, .string t, .int .i64 n] w (fun e w' => e = .returned (.bool true) ∧ Below w.heap.size w w') := by
  have h := law_of_sat (back_sat s.data.toList t.data.toList n (by have := w0; unfold maxLen at this; rw [Array.length_toList]; exact this) (by have := w1; unfold maxLen at this; rw [Array.length_toList]; exact this) w2) (rargs := [.string s, .string t, .int .i64 n]) rfl w hg
  exact h
end Go.Proofs.YtlgapohnmcmhdaaDoor
