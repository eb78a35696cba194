/- Whether what is asked is large, of asks of a policy alone too. -/
import Derived.Test.YtakfcajmfgnchaaGreatDoorLargeT
namespace Go.Proofs.YtakfcajmfgnchaaGreatDoor
open Go Go.Vm Go.RowKit
set_option linter.unusedVariables false
set_option linter.unusedSectionVars false
set_option maxRecDepth 100000
variable [Φ : Frz]
theorem real_nilS (m : List MB) : real m .nilSlice = some (.slice none 0 0) := by simp [real]
theorem real_lst0 (m : List MB) : real m (.lst (.slice none 0 0) 0 []) = some (.slice none 0 0) := real_lst_mk (xs := []) rfl (by simp [LstOk])
theorem real_aggE (m : List MB) (l : List V) : real m (.agg l) = (realL m l).map fun xs => .agg xs.toArray := by
 simp only [real]
 cases realL m l <;> rfl
theorem fnSat_congr {P : Program} {g : FuncId} {args args' : List V} {st : St} {Q : V → St → Prop} (he : ∀ m : List MB, realL m args = realL m args') (h : FnSat P g args' st Q) : FnSat P g args st Q := fun B W0 m w rargs ha hr => h B W0 m w rargs (by rw [← he m]; exact ha) hr
def largeU (LG : List UInt8 → List V → List V → Bool) : List V → Option (List (Bool × (V × St)))
 | [.agg [.bool _, .bool _, .str h, .bool _, .int .u8 _, .bool _, .lst _ _ _, .lst _ _ _, .lst _ n3 c3, .bool _, .int .u8 _, .lst _ n4 c4, .int .i64 _]] => some [(okT n3 c3 && okS n4 c4, (.bool (LG h c4 c3), []))]
 | [.agg [.bool _, .bool _, .str h, .bool _, .int .u8 _, .bool _, .nilSlice, .nilSlice, .nilSlice, .bool _, .int .u8 _, .lst _ n4 c4, .int .i64 _]] => some [(okS n4 c4, (.bool (LG h c4 []), []))]
 | _ => none
theorem largeU_ok (args : List V) (l : List (Bool × (V × St))) (o : V × St) (h : largeU largeV' args = some l) (ho : pickO l = some o) : FnSat Tryz.prog 9 args [] (Is o) := by
 unfold largeU at h
 split at h
 ·exact largeT_ok _ _ _ h ho
 ·rename_i pl rq hh mx co se ha mo x4 n4 c4 ag
  cases h
  obtain ⟨hb, rfl⟩ := pickO_one ho
  obtain ⟨ms, rfl, rfl, g3, g4⟩ := okS_spec hb
  unfold largeV'
  rw [g4]
  refine fnSat_congr (args' := [.agg [.bool pl, .bool rq, .str hh, .bool mx, .int .u8 co, .bool se, .lst (.slice none 0 0) 0 [], .lst (.slice none 0 0) 0 [], .lst (.slice none 0 0) ([] : List TL).length (tls []), .bool ha, .int .u8 mo, .lst x4 ms.length (strs ms), .int .i64 ag]]) (fun m => ?_) (large_sat pl rq hh mx co se _ 0 [] _ 0 [] _ [] ha mo x4 ms ag g3 (by simp))
  show realL m _ = realL m [.agg [.bool pl, .bool rq, .str hh, .bool mx, .int .u8 co, .bool se, .lst (.slice none 0 0) 0 [], .lst (.slice none 0 0) 0 [], .lst (.slice none 0 0) 0 [], .bool ha, .int .u8 mo, .lst x4 ms.length (strs ms), .int .i64 ag]]
  simp only [realL, real_aggE, real_nilS, real_lst0]
 ·cases h
end Go.Proofs.YtakfcajmfgnchaaGreatDoor
