/- CodeNumbers: what it comes to. -/
import Derived.Test.YtlgapohnmcmhdaaDoorWorks
import Derived.Test.YtlgapohnmcmhdaaDoorNums
import Derived.Test.YtlgapohnmcmhdaaDoorLong
namespace Go.Proofs.YtlgapohnmcmhdaaDoor
open Go Go.Vm Go.RowKit
set_option linter.unusedVariables false
def numTG (OL : List UInt8 → Bool) (NV NE : List UInt8 → Int → Int) : List V → Option (List (Bool × (V × St)))
  | [.str s, .int .i64 most] => some [(OL s && isI64 most, (.tuple [.int .i64 (NV s most), .int .i64 (NE s most)], []))]
  | _ => none
noncomputable def T8 (OL : List UInt8 → Bool) (NV NE : List UInt8 → Int → Int) : Tab := ⟨addP (addT (addT (addT (addT noT 31 itoaF) 22 itoaF) 20 (numTG OL NV NE)) 21 (numTG OL NV NE)) 10 worksF, addM noL 9 longG, noLks 9⟩
theorem T8_ok : TabOk3 Tryd.prog (T8 okL numV numE) := ⟨addP_ok (addT_ok (addT_ok (addT_ok (addT_ok noT_ok itoa_ok) rshow_ok) cnum_ok) rnum_ok) works_ok, addM_ok noL_ok longG_ok, noLks_ok 9⟩
theorem numbers_tree (OL : List UInt8 → Bool) (NV NE : List UInt8 → Int → Int) (n : Int) (s : List UInt8) (most : Int) (R : V → Prop) : runW Tryd.prog (T8 OL NV NE) 9 10 4 [.int .i64 n, .str s, .int .i64 most] R =
   (
    bif longB s then R (V.bool true)
    else
      bif isI64 n then
        bif (1 + s.length).ble 9223372036854775807 then
          bif OL s && isI64 most then
            bif OL s && isI64 most then
              bif NV s most != NV s most then R (V.bool false)
              else
                bif NE s most != NE s most then R (V.bool false)
                else
                  bif OL (Lib.itoa n) && isI64 most then
                    bif OL (Lib.itoa n) && isI64 most then
                      bif NV (Lib.itoa n) most != NV (Lib.itoa n) most then R (V.bool false)
                      else
                        bif NE (Lib.itoa n) most != NE (Lib.itoa n) most then R (V.bool false)
                        else
                          bif OL ([48] ++ s) && isI64 most then
                            bif OL ([48] ++ s) && isI64 most then
                              bif NV ([48] ++ s) most != NV ([48] ++ s) most then R (V.bool false)
                              else
                                bif NE ([48] ++ s) most != NE ([48] ++ s) most then R (V.bool false)
                                else
                                  bif isI64 n then
                                    bif isI64 n then bif Lib.itoa n == Lib.itoa n then R (V.bool true) else R (V.bool false)
                                    else False
                                  else False
                            else False
                          else False
                    else False
                  else False
            else False
          else False
        else False
      else False) := by kernel_rfl
theorem bne_self {α : Type} [BEq α] [LawfulBEq α] (a : α) : (a != a) = false := by simp
theorem numbers_sat (n : Int) (s : List UInt8) (most : Int) (hs : s.length ≤ 9223372036854775807) (hn : isI64 n = true) (hm : isI64 most = true) : FnSat Tryd.prog 4 [.int .i64 n, .str s, .int .i64 most] [] (fun v _ => v = .bool true) := by
  refine runW_ok (lim := 9) (n := 10) mixed T8_ok ?_
  rw [numbers_tree]
  refine bif_intro (fun h => rfl) (fun h => ?_)
  have hl : (s.length : Int) < 9000 := by have := of_decide_eq_false h; omega
  have o1 : okL s = true := decide_eq_true (by omega)
  have o2 : okL ([48] ++ s) = true := by unfold okL; exact decide_eq_true (by rw [List.length_append, List.length_singleton]; omega)
  have o3 := okL_itoa hn
  rw [hn, hm, o1, o2, o3, bne_self, bne_self, bne_self, bne_self, bne_self, bne_self, beq_self_eq_true]
  exact must_intro rfl (must_intro (Nat.ble_eq_true_of_le (by omega)) rfl)
theorem codeNumbers_walk (n : Int) (s : ByteArray) (most : Int) (w0 : (Lit.int .i64 n).wf = true) (w1 : s.size ≤ maxLen) (w2 : (Lit.int .i64 most).wf = true) (w : World) (hg : GOk w.heap.size w) : Calls Tryd.prog 4 #[.int .i64 n, .string s, .int .i64 most] w (fun e w' => e = .returned (.bool true) ∧ Below w.heap.size w w') := by
  have h := law_of_sat (numbers_sat n s.data.toList most (by have := w1; unfold maxLen at this; rw [Array.length_toList]; exact this) w0 w2) (rargs := [.int .i64 n, .string s, .int .i64 most]) rfl w hg
  exact h
end Go.Proofs.YtlgapohnmcmhdaaDoor
