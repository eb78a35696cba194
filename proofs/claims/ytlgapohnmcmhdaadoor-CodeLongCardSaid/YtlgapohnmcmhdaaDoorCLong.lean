/- CodeLong: what it comes to. -/
import Derived.Test.YtlgapohnmcmhdaaDoorWorks
import Derived.Test.YtlgapohnmcmhdaaDoorBase
import Derived.Test.YtlgapohnmcmhdaaDoorDig
namespace Go.Proofs.YtlgapohnmcmhdaaDoor
open Go Go.Vm Go.RowKit
set_option linter.unusedVariables false
theorem long2_tree (s t : List UInt8) (c z : Nat) (R : V → St → Prop) : lookT 9 (rounds 9) [.slice 0 0 2 false c z] [.ro false [.str s, .str t]] R =
   (
 R
 (V.bool
 (decide
 (IntKind.i64.wrap
 (IntKind.i64.wrap (0 + if 9000 < (↑s.length : Int) then 9000 else (↑s.length : Int)) +
 if 9000 < (↑t.length : Int) then 9000 else (↑t.length : Int)) ≥
 9000)))
 [Blk.ro false [V.str s, V.str t]]) := by kernel_rfl
def cut9 (m : Int) : Int := if 9000 < m then 9000 else m
def long2 (s t : List UInt8) : Bool := decide (9000 ≤ cut9 (s.length : Int) + cut9 (t.length : Int))
def long2G : List V → St → Option (List (Bool × (V × St)))
  | [.slice 0 0 2 false _ _], [.ro false [.str s, .str t]] => some [(true, (.bool (long2 s t), []))]
  | _, _ => none
theorem cut9_sum (a b : Nat) : IntKind.i64.wrap (IntKind.i64.wrap (0 + if 9000 < (a : Int) then 9000 else (a : Int)) + if 9000 < (b : Int) then 9000 else (b : Int)) = cut9 (a : Int) + cut9 (b : Int) := by
  have ha : 0 ≤ cut9 (a : Int) ∧ cut9 (a : Int) ≤ 9000 := by unfold cut9; split <;> omega
  have hb : 0 ≤ cut9 (b : Int) ∧ cut9 (b : Int) ≤ 9000 := by unfold cut9; split <;> omega
  show IntKind.i64.wrap (IntKind.i64.wrap (0 + cut9 (a : Int)) + cut9 (b : Int)) = _
  rw [IntWalk.i64_in (0 + cut9 (a : Int)) ⟨by omega, by omega⟩, IntWalk.i64_in _ ⟨by omega, by omega⟩, Int.zero_add]
theorem long2G_ok (args : List V) (s : St) (l : List (Bool × (V × St))) (v : V) (n : St) (h : long2G args s = some l) (ho : pickO l = some (v, n)) : (∀ b ∈ s, flatL b.cs = true) ∧ FnSat Tryd.prog 9 args s (fun u st => Fits 0 [v] n [some u] st) := by
  unfold long2G at h
  split at h
  · rename_i c z s t
    cases h
    cases ho
    refine ⟨by simp [Blk.cs, flatL, V.flat], lookT_ok (lk := rounds 9) (fnRoundsW 9 _ _) ?_⟩
    rw [long2_tree, cut9_sum]
    exact ⟨[], [.bool (long2 s t)], rfl, rfl, FitsM.of trivial, by simp, fun i hi => by omega⟩
  · cases h
def hexTG2 (OL : List UInt8 → Bool) (HX : List UInt8 → List UInt8) : List V → Option (List (Bool × (V × St)))
  | [.str s] => some [(OL s, (.str (HX s), []))]
  | _ => none
noncomputable def T11 (OL : List UInt8 → Bool) (HX B6 SM : List UInt8 → List UInt8) : Tab := ⟨addP (addT (addT (addT noT 11 (hexTG2 OL HX)) 12 (hexTG2 OL B6)) 23 (hexTG2 OL SM)) 10 worksF, addM noL 9 long2G, noLks 9⟩
theorem T11_ok : TabOk3 Tryd.prog (T11 okL B64.hex B64.b64 sumF) := ⟨addP_ok (addT_ok (addT_ok (addT_ok noT_ok hex_ok) b64_ok) sum_ok) works_ok, addM_ok noL_ok long2G_ok, noLks_ok 9⟩
theorem long_law_tree (OL : List UInt8 → Bool) (HX B6 SM : List UInt8 → List UInt8) (s t : List UInt8) (R : V → Prop) : runW Tryd.prog (T11 OL HX B6 SM) 9 10 7 [.str s, .str t] R =
   (
 bif long2 s t then R (V.bool true)
 else
 bif OL s then
 bif (↑(HX s).length : Int) != IntKind.i64.wrap (2 * (↑s.length : Int)) then R (V.bool false)
 else
 bif OL s then
 bif
 (↑(B6 s).length : Int) !=
 IntKind.i64.wrap (IntKind.i64.wrap ((IntKind.i64.wrap ((↑s.length : Int) + 2)).tdiv 3) * 4) then
 R (V.bool false)
 else
 bif (s.length + t.length).ble 9223372036854775807 then
 bif OL (s ++ t) then
 bif OL s then
 bif OL t then
 bif ((HX s).length + (HX t).length).ble 9223372036854775807 then
 bif !HX (s ++ t) == HX s ++ HX t then R (V.bool false)
 else
 bif OL s then
 bif (↑(SM s).length : Int) != 32 then R (V.bool false)
 else
 bif decide (0 ≤ IntKind.i64.wrap ((↑s.length : Int) - (↑s.length : Int).tmod 3)) then
 bif
 true &&
 (IntKind.i64.wrap ((↑s.length : Int) - (↑s.length : Int).tmod 3)).toNat.ble
 s.length then
 bif
 ((List.take
 ((IntKind.i64.wrap ((↑s.length : Int) - (↑s.length : Int).tmod 3)).toNat -
 0)
 (List.drop 0 s)).length +
 t.length).ble
 9223372036854775807 then
 bif
 OL
 (List.take
 ((IntKind.i64.wrap ((↑s.length : Int) - (↑s.length : Int).tmod 3)).toNat - 0)
 (List.drop 0 s) ++
 t) then
 bif
 OL
 (List.take
 ((IntKind.i64.wrap ((↑s.length : Int) - (↑s.length : Int).tmod 3)).toNat - 0)
 (List.drop 0 s)) then
 bif OL t then
 bif
 ((B6
 (List.take
 ((IntKind.i64.wrap
 ((↑s.length : Int) - (↑s.length : Int).tmod 3)).toNat -
 0)
 (List.drop 0 s))).length +
 (B6 t).length).ble
 9223372036854775807 then
 R
 (V.bool
 (B6
 (List.take
 ((IntKind.i64.wrap
 ((↑s.length : Int) - (↑s.length : Int).tmod 3)).toNat -
 0)
 (List.drop 0 s) ++
 t) ==
 B6
 (List.take
 ((IntKind.i64.wrap
 ((↑s.length : Int) - (↑s.length : Int).tmod 3)).toNat -
 0)
 (List.drop 0 s)) ++
 B6 t))
 else False
 else False
 else False
 else False
 else False
 else False
 else False
 else False
 else False
 else False
 else False
 else False
 else False
 else False
 else False) := by kernel_rfl
theorem long_sat (s t : List UInt8) : FnSat Tryd.prog 7 [.str s, .str t] [] (fun v _ => v = .bool true) := by
  refine runW_ok (lim := 9) (n := 10) mixed T11_ok ?_
  rw [long_law_tree]
  refine bif_intro (fun h => rfl) (fun h => ?_)
  have hl : (s.length : Int) < 9000 ∧ (t.length : Int) < 9000 := by
    have h := of_decide_eq_false h
    unfold cut9 at h
    split at h <;> split at h <;> omega
  have o1 : okL s = true := decide_eq_true (by omega)
  have o2 : okL t = true := decide_eq_true (by omega)
  have o3 : okL (s ++ t) = true := decide_eq_true (by rw [List.length_append]; omega)
  have e1 : IntKind.i64.wrap (2 * (s.length : Int)) = ((2 * s.length : Nat) : Int) := by rw [IntWalk.i64_in _ ⟨by omega, by omega⟩]; omega
  have e2 : IntKind.i64.wrap (IntKind.i64.wrap ((IntKind.i64.wrap ((s.length : Int) + 2)).tdiv 3) * 4) = (((s.length + 2) / 3 * 4 : Nat) : Int) := by
    have a1 : IntKind.i64.wrap ((s.length : Int) + 2) = ((s.length + 2 : Nat) : Int) := by rw [IntWalk.i64_in _ ⟨by omega, by omega⟩]; omega
    rw [a1, Int.tdiv_eq_ediv_of_nonneg (by omega)]
    have a2 : ((s.length + 2 : Nat) : Int) / 3 = (((s.length + 2) / 3 : Nat) : Int) := by omega
    rw [a2, IntWalk.i64_in (((s.length + 2) / 3 : Nat) : Int) ⟨by omega, by omega⟩, IntWalk.i64_in _ ⟨by omega, by omega⟩]; omega
  have e3 : IntKind.i64.wrap ((s.length : Int) - (s.length : Int).tmod 3) = ((s.length - s.length % 3 : Nat) : Int) := by
    rw [Int.tmod_eq_emod_of_nonneg (by omega), IntWalk.i64_in _ ⟨by omega, by omega⟩]; omega
  simp only [e1, e2, e3, Int.toNat_natCast, Nat.sub_zero, List.drop_zero, B64.hex_len, B64.b64_len, B64.hex_append, bne_self_eq_false, beq_self_eq_true]
  have hk : (s.take (s.length - s.length % 3)).length = s.length - s.length % 3 := by rw [List.length_take]; omega
  have o4 : okL (s.take (s.length - s.length % 3) ++ t) = true := decide_eq_true (by rw [List.length_append, hk]; omega)
  have o5 : okL (s.take (s.length - s.length % 3)) = true := decide_eq_true (by rw [hk]; omega)
  have hb := B64.b64_append (s.take (s.length - s.length % 3)) t (by rw [hk]; omega)
  have n32 : (((sumF s).length : Int) != 32) = false := rfl
  rw [o1, o2, o3, o4, o5, n32, hb, beq_self_eq_true]
  repeat' (first | with_reducible rfl | refine must_intro (by first | with_reducible rfl | exact Nat.ble_eq_true_of_le (by first | omega | (rw [hk]; omega)) | exact decide_eq_true (by omega) | (rw [Bool.true_and]; exact Nat.ble_eq_true_of_le (by omega))) ?_)
theorem codeLong_walk (s t : ByteArray) (w0 : s.size ≤ maxLen) (w1 : t.size ≤ maxLen) (w : World) (hg : GOk w.heap.size w) : Calls Tryd.prog 7 #[.string s, .string t] w (fun e w' => e = .returned (.bool true) ∧ Below w.heap.size w w') := by
  have h := law_of_sat (long_sat s.data.toList t.data.toList) (rargs := [.string s, .string t]) rfl w hg
  exact h
end Go.Proofs.YtlgapohnmcmhdaaDoor
