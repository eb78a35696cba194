/- CertBack, CertCut: the walks. -/
import Derived.Test.YtpjopdemhkcifaaCert5
namespace Go.Proofs.Ytpjopdemhkcifaa
open Go Go.Vm Go.RowKit
set_option linter.unusedVariables false
set_option linter.unusedSectionVars false
set_option maxRecDepth 100000
variable [Φ : Frz]
def mn (n : Nat) : Nat := min 9000 n
def largeC (k g : List UInt8) (l : List (List UInt8)) : Bool := decide (((lgN (mn k.length + mn g.length) l : Nat) : Int) ≥ 9000)
def largeV (k g : List UInt8) (cs : List V) : Bool := largeC k g (cs.map strOfV)
def largeP : List V → Option (List (Bool × (V × St)))
  | [.agg [.str k, .str g, .lst _ n cs, .int .i64 _, .int .i64 _, .bool _]] => some [(okS n cs, (.bool (largeV k g cs), []))]
  | _ => none
theorem mn_eq (n : Nat) : (if (n : Int) < 9000 then (n : Int) else 9000) = ((mn n : Nat) : Int) := by
  unfold mn; split <;> omega
theorem mn_le (n : Nat) : mn n ≤ 9000 := by unfold mn; omega
theorem largeP_ok (args : List V) (l : List (Bool × (V × St))) (o : V × St) (h : largeP args = some l) (ho : pickO l = some o) : FnSat Try.prog 28 args [] (Is o) := by
  unfold largeP at h
  split at h
  · rename_i k g x n cs f u ca
    cases h
    obtain ⟨hb, rfl⟩ := pickO_one ho
    obtain ⟨l, rfl, rfl, p2, p3⟩ := okS_spec hb
    refine pureW_of (lim := 9) (n := 10) mixed G3_ok rfl rfl ?_
    rw [lg_tree]
    have a1 := mn_le k.length
    have a2 := mn_le g.length
    have e : IntKind.i64.wrap ((if (k.length : Int) < 9000 then (k.length : Int) else 9000) + if (g.length : Int) < 9000 then (g.length : Int) else 9000) = ((mn k.length + mn g.length : Nat) : Int) := by
      rw [mn_eq, mn_eq, IntWalk.i64_in _ ⟨by omega, by omega⟩]; omega
    simp only [e, Int.toNat_natCast]
    refine ⟨lg_fits ⟨k, g, x, l.length, strs l, f, u, ca⟩ _ 0, must_intro ?_ (fun j => ?_)⟩
    · unfold lgPre; simp only [Bool.and_eq_true]
      exact ⟨hb, Nat.ble_eq_true_of_le (Nat.zero_le _), Nat.ble_eq_true_of_le (show mn k.length + mn g.length ≤ 20000 by omega)⟩
    · unfold largeV largeC lgS; rfl
  · cases h
def encG : List V → St → Option (List (Bool × (V × St)))
  | [.agg [.str k, .str g, p, .int .i64 f, .int .i64 u, .bool ca]], st => match viewS st p with
    | some (b, l) => some [(b && Nat.ble l.length 9223372036854775807, (.tuple [.str (encB k g l f u ca), .int .i64 (encE k g l f u ca)], st))]
    | none => none
  | _, _ => none
theorem encG_ok (args : List V) (s : St) (l : List (Bool × (V × St))) (o : V × St) (h : encG args s = some l) (ho : pickO l = some o) : FnSat Try.prog 29 args s (Is o) := by
  unfold encG at h
  split at h
  · rename_i k g p f u ca
    split at h
    · rename_i b ls hv
      cases h
      obtain ⟨hb, rfl⟩ := pickO_one ho
      simp only [Bool.and_eq_true] at hb
      obtain ⟨rfl, h1⟩ := hb
      refine frz_sat rfl fun B W0 w m rargs hr ha => ?_
      obtain ⟨a, r, q1, q2, rfl⟩ := realL_cons ha
      simp only [realL, Option.some.injEq] at q2
      subst q2
      obtain ⟨y, hy⟩ := cert_frz hr hv q1
      exact ⟨[.agg [.str k, .str g, lstS y ls, .int .i64 f, .int .i64 u, .bool ca]], by simp only [realL, hy], @en_sat (Frz.of w) k g y ls f u ca (Nat.le_of_ble_eq_true h1)⟩
    · cases h
  · cases h
noncomputable def H0 : Tab := ⟨addT (addT (addP noT 27 worksF) 28 largeP) 30 decG, addS (addS (addS noL 29 encG) 31 mayG) 32 sameG, noLks 9⟩
theorem H0_ok : TabOk3 Try.prog H0 := ⟨addT_ok (addT_ok (addP_ok noT_ok worksF_ok) largeP_ok) decG_ok, addS_ok (addS_ok (addS_ok noL_ok encG_ok) mayG_ok) sameG_ok, noLks_ok 9⟩
theorem cut_law (k g : List UInt8) (x : Value) (n : Nat) (cs : List V) (f u : Int) (ca : Bool) (at_ : Int) (more : List UInt8) (R : V → Prop) : runW Try.prog H0 9 10 9 [.agg [.str k, .str g, .lst x n cs, .int .i64 f, .int .i64 u, .bool ca], .int .i64 at_, .str more] R =
   (
    bif okS n cs then
      bif largeV (k) (g) cs then R (V.bool true)
      else
        bif decide ((↑more.length : Int) > 300) then R (V.bool true)
        else
          bif
              cs.length.beq (n * 1) && (cs.all isStrV && cs.length.beq n) &&
                (List.map strOfV cs).length.ble 9223372036854775807 then
            bif encE (k) (g) (List.map strOfV cs) f u ca != 0 then
              R (V.bool (encB (k) (g) (List.map strOfV cs) f u ca == []))
            else
              bif
                  !IntKind.u64.wrap
                        (↑(encB (k) (g) (List.map strOfV cs) f u ca).length : Int) ==
                      0 then
                bif
                    decide
                      (0 ≤
                        IntKind.i64.wrap
                          ((IntKind.u64.wrap at_).tmod
                            (IntKind.u64.wrap
                              (↑(encB (k) (g) (List.map strOfV cs) f u ca).length :
                                Int)))) then
                  bif
                      true &&
                        (IntKind.i64.wrap
                                ((IntKind.u64.wrap at_).tmod
                                  (IntKind.u64.wrap
                                    (↑(encB (k) (g) (List.map strOfV cs) f u ca).length :
                                      Int)))).toNat.ble
                          (encB (k) (g) (List.map strOfV cs) f u ca).length then
                    bif
                        decE
                            (List.take
                              ((IntKind.i64.wrap
                                    ((IntKind.u64.wrap at_).tmod
                                      (IntKind.u64.wrap
                                        (↑(encB (k) (g) (List.map strOfV cs) f u ca).length :
                                          Int)))).toNat -
                                0)
                              (List.drop 0 (encB (k) (g) (List.map strOfV cs) f u ca))) !=
                          0 then
                      bif
                          ((encB (k) (g) (List.map strOfV cs) f u ca).length +
                                more.length).ble
                            9223372036854775807 then
                        bif decE (encB (k) (g) (List.map strOfV cs) f u ca ++ more) != 0 then
                          bif
                              decE
                                  (List.take
                                    ((IntKind.i64.wrap
                                          ((IntKind.u64.wrap at_).tmod
                                            (IntKind.u64.wrap
                                              (↑(encB (k) (g) (List.map strOfV cs) f u
                                                      ca).length :
                                                Int)))).toNat -
                                      0)
                                    (List.drop 0
                                      (encB (k) (g) (List.map strOfV cs) f u ca))) ==
                                4 then
                            R
                              (V.bool
                                ((decE (encB (k) (g) (List.map strOfV cs) f u ca ++ more) ==
                                    0) ==
                                  (more == [])))
                          else R (V.bool false)
                        else
                          bif
                              (dN (encB (k) (g) (List.map strOfV cs) f u ca ++ more)).beq
                                0 then
                            bif
                                decE
                                    (List.take
                                      ((IntKind.i64.wrap
                                            ((IntKind.u64.wrap at_).tmod
                                              (IntKind.u64.wrap
                                                (↑(encB (k) (g) (List.map strOfV cs) f u
                                                        ca).length :
                                                  Int)))).toNat -
                                        0)
                                      (List.drop 0
                                        (encB (k) (g) (List.map strOfV cs) f u ca))) ==
                                  4 then
                              R (V.bool (true == (more == [])))
                            else R (V.bool false)
                          else
                            bif
                                decE
                                    (List.take
                                      ((IntKind.i64.wrap
                                            ((IntKind.u64.wrap at_).tmod
                                              (IntKind.u64.wrap
                                                (↑(encB (k) (g) (List.map strOfV cs) f u
                                                        ca).length :
                                                  Int)))).toNat -
                                        0)
                                      (List.drop 0
                                        (encB (k) (g) (List.map strOfV cs) f u ca))) ==
                                  4 then
                              R (V.bool (true == (more == [])))
                            else R (V.bool false)
                      else False
                    else
                      bif
                          (dN
                                (List.take
                                  ((IntKind.i64.wrap
                                        ((IntKind.u64.wrap at_).tmod
                                          (IntKind.u64.wrap
                                            (↑(encB (k) (g) (List.map strOfV cs) f u
                                                    ca).length :
                                              Int)))).toNat -
                                    0)
                                  (List.drop 0
                                    (encB (k) (g) (List.map strOfV cs) f u ca)))).beq
                            0 then
                        bif
                            ((encB (k) (g) (List.map strOfV cs) f u ca).length +
                                  more.length).ble
                              9223372036854775807 then
                          bif
                              decE (encB (k) (g) (List.map strOfV cs) f u ca ++ more) !=
                                0 then
                            R (V.bool false)
                          else
                            bif
                                (dN (encB (k) (g) (List.map strOfV cs) f u ca ++ more)).beq
                                  0 then
                              R (V.bool false)
                            else R (V.bool false)
                        else False
                      else
                        bif
                            ((encB (k) (g) (List.map strOfV cs) f u ca).length +
                                  more.length).ble
                              9223372036854775807 then
                          bif
                              decE (encB (k) (g) (List.map strOfV cs) f u ca ++ more) !=
                                0 then
                            R (V.bool false)
                          else
                            bif
                                (dN (encB (k) (g) (List.map strOfV cs) f u ca ++ more)).beq
                                  0 then
                              R (V.bool false)
                            else R (V.bool false)
                        else False
                  else False
                else False
              else False
          else False
    else False) := by kernel_rfl
theorem back_law (k g : List UInt8) (x : Value) (n : Nat) (cs : List V) (f u : Int) (ca : Bool) (k' g' : List UInt8) (y : Value) (m : Nat) (ds : List V) (f' u' : Int) (ca' : Bool) (s : List UInt8) (R : V → Prop) : runW Try.prog H0 9 10 10 [.agg [.str k, .str g, .lst x n cs, .int .i64 f, .int .i64 u, .bool ca], .agg [.str k', .str g', .lst y m ds, .int .i64 f', .int .i64 u', .bool ca'], .str s] R =
   (
    bif okS n cs then
      bif largeV (k) (g) cs then R (V.bool true)
      else
        bif okS m ds then
          bif largeV (k') (g') ds then R (V.bool true)
          else
            bif decide ((↑s.length : Int) > 3000) then R (V.bool true)
            else
              bif
                  cs.length.beq (n * 1) && (cs.all isStrV && cs.length.beq n) &&
                    (List.map strOfV cs).length.ble 9223372036854775807 then
                bif
                    ds.length.beq (m * 1) && (ds.all isStrV && ds.length.beq m) &&
                      (List.map strOfV ds).length.ble 9223372036854775807 then
                  bif
                      cs.length.beq (n * 1) && (cs.all isStrV && cs.length.beq n) &&
                        (List.map strOfV cs).length.ble 9223372036854775807 then
                    bif !(mayC (k) (g) f u && (List.map strOfV cs).all patN) then
                      bif !(encE (k) (g) (List.map strOfV cs) f u ca == 4) == true then
                        R (V.bool false)
                      else
                        bif encE (k) (g) (List.map strOfV cs) f u ca != 0 then
                          bif !encB (k) (g) (List.map strOfV cs) f u ca == [] then
                            R (V.bool false)
                          else
                            bif
                                decide
                                  ((↑(encB (k) (g) (List.map strOfV cs) f u ca).length :
                                      Int) >
                                    512) then
                              R (V.bool false)
                            else
                              bif encE (k) (g) (List.map strOfV cs) f u ca == 0 then
                                bif decE (encB (k) (g) (List.map strOfV cs) f u ca) != 0 then
                                  bif
                                      decE (encB (k) (g) (List.map strOfV cs) f u ca) !=
                                        0 then
                                    R (V.bool false)
                                  else
                                    bif
                                        true &&
                                          (cs.length.beq (n * 1) && (cs.all isStrV && cs.length.beq n) &&
                                            (true && (List.map strOfV cs).length.ble 9223372036854775807)) then
                                      bif
                                          !sameC [] [] [] 0 0 false (k) (g)
                                              (List.map strOfV cs) f u ca then
                                        R (V.bool false)
                                      else
                                        bif
                                            encE (k') (g') (List.map strOfV ds) f' u' ca' ==
                                              0 then
                                          bif
                                              cs.length.beq (n * 1) && (cs.all isStrV && cs.length.beq n) &&
                                                (ds.length.beq (m * 1) && (ds.all isStrV && ds.length.beq m) &&
                                                  ((List.map strOfV cs).length.ble 9223372036854775807 &&
                                                    (List.map strOfV ds).length.ble 9223372036854775807)) then
                                            bif
                                                !(encB (k) (g) (List.map strOfV cs) f u ca ==
                                                      encB (k') (g') (List.map strOfV ds) f'
                                                        u' ca') ==
                                                    sameC (k) (g) (List.map strOfV cs) f u ca
                                                      (k') (g') (List.map strOfV ds) f' u'
                                                      ca' then
                                              R (V.bool false)
                                            else
                                              bif decE s != 0 then
                                                bif decE s != 0 then R (V.bool true) else R (V.bool false)
                                              else
                                                bif (dN s).beq 0 then
                                                  bif
                                                      mayC ((dK s)) ((dG s)) (dF s) (dU s) &&
                                                        true then
                                                    bif
                                                        encE ((dK s)) ((dG s)) [] (dF s)
                                                            (dU s) (dCa s) ==
                                                          0 then
                                                      R
                                                        (V.bool
                                                          (encB ((dK s)) ((dG s)) [] (dF s)
                                                              (dU s) (dCa s) ==
                                                            s))
                                                    else R (V.bool false)
                                                  else R (V.bool false)
                                                else
                                                  bif
                                                      (0 + dN s * 1).ble (shiftL 3 (strs (dL s))).length &&
                                                          ((List.take (dN s * 1) (List.drop 0 (shiftL 3 (strs (dL s))))).all
                                                              isStrV &&
                                                            (List.take (dN s * 1)
                                                                    (List.drop 0 (shiftL 3 (strs (dL s))))).length.beq
                                                              (dN s)) &&
                                                        (List.map strOfV
                                                                (List.take (dN s * 1)
                                                                  (List.drop 0 (shiftL 3 (strs (dL s)))))).length.ble
                                                          9223372036854775807 then
                                                    bif
                                                        (0 + dN s * 1).ble (shiftL 3 (strs (dL s))).length &&
                                                            ((List.take (dN s * 1)
                                                                    (List.drop 0 (shiftL 3 (strs (dL s))))).all
                                                                isStrV &&
                                                              (List.take (dN s * 1)
                                                                      (List.drop 0 (shiftL 3 (strs (dL s))))).length.beq
                                                                (dN s)) &&
                                                          (List.map strOfV
                                                                  (List.take (dN s * 1)
                                                                    (List.drop 0 (shiftL 3 (strs (dL s)))))).length.ble
                                                            9223372036854775807 then
                                                      bif
                                                          mayC ((dK s)) ((dG s)) (dF s)
                                                              (dU s) &&
                                                            (List.map strOfV
                                                                  (List.take (dN s * 1)
                                                                    (List.drop 0 (shiftL 3 (strs (dL s)))))).all
                                                              patN then
                                                        bif
                                                            encE ((dK s)) ((dG s))
                                                                (List.map strOfV
                                                                  (List.take (dN s * 1)
                                                                    (List.drop 0 (shiftL 3 (strs (dL s))))))
                                                                (dF s) (dU s) (dCa s) ==
                                                              0 then
                                                          R
                                                            (V.bool
                                                              (encB ((dK s)) ((dG s))
                                                                  (List.map strOfV
                                                                    (List.take (dN s * 1)
                                                                      (List.drop 0 (shiftL 3 (strs (dL s))))))
                                                                  (dF s) (dU s) (dCa s) ==
                                                                s))
                                                        else R (V.bool false)
                                                      else R (V.bool false)
                                                    else False
                                                  else False
                                          else False
                                        else
                                          bif decE s != 0 then bif decE s != 0 then R (V.bool true) else R (V.bool false)
                                          else
                                            bif (dN s).beq 0 then
                                              bif
                                                  mayC ((dK s)) ((dG s)) (dF s) (dU s) &&
                                                    true then
                                                bif
                                                    encE ((dK s)) ((dG s)) [] (dF s) (dU s)
                                                        (dCa s) ==
                                                      0 then
                                                  R
                                                    (V.bool
                                                      (encB ((dK s)) ((dG s)) [] (dF s) (dU s)
                                                          (dCa s) ==
                                                        s))
                                                else R (V.bool false)
                                              else R (V.bool false)
                                            else
                                              bif
                                                  (0 + dN s * 1).ble (shiftL 3 (strs (dL s))).length &&
                                                      ((List.take (dN s * 1) (List.drop 0 (shiftL 3 (strs (dL s))))).all
                                                          isStrV &&
                                                        (List.take (dN s * 1)
                                                                (List.drop 0 (shiftL 3 (strs (dL s))))).length.beq
                                                          (dN s)) &&
                                                    (List.map strOfV
                                                            (List.take (dN s * 1)
                                                              (List.drop 0 (shiftL 3 (strs (dL s)))))).length.ble
                                                      9223372036854775807 then
                                                bif
                                                    (0 + dN s * 1).ble (shiftL 3 (strs (dL s))).length &&
                                                        ((List.take (dN s * 1) (List.drop 0 (shiftL 3 (strs (dL s))))).all
                                                            isStrV &&
                                                          (List.take (dN s * 1)
                                                                  (List.drop 0 (shiftL 3 (strs (dL s))))).length.beq
                                                            (dN s)) &&
                                                      (List.map strOfV
                                                              (List.take (dN s * 1)
                                                                (List.drop 0 (shiftL 3 (strs (dL s)))))).length.ble
                                                        9223372036854775807 then
                                                  bif
                                                      mayC ((dK s)) ((dG s)) (dF s) (dU s) &&
                                                        (List.map strOfV
                                                              (List.take (dN s * 1)
                                                                (List.drop 0 (shiftL 3 (strs (dL s)))))).all
                                                          patN then
                                                    bif
                                                        encE ((dK s)) ((dG s))
                                                            (List.map strOfV
                                                              (List.take (dN s * 1) (List.drop 0 (shiftL 3 (strs (dL s))))))
                                                            (dF s) (dU s) (dCa s) ==
                                                          0 then
                                                      R
                                                        (V.bool
                                                          (encB ((dK s)) ((dG s))
                                                              (List.map strOfV
                                                                (List.take (dN s * 1)
                                                                  (List.drop 0 (shiftL 3 (strs (dL s))))))
                                                              (dF s) (dU s) (dCa s) ==
                                                            s))
                                                    else R (V.bool false)
                                                  else R (V.bool false)
                                                else False
                                              else False
                                    else False
                                else
                                  bif
                                      (dN (encB (k) (g) (List.map strOfV cs) f u ca)).beq
                                        0 then
                                    bif
                                        true &&
                                          (cs.length.beq (n * 1) && (cs.all isStrV && cs.length.beq n) &&
                                            (true && (List.map strOfV cs).length.ble 9223372036854775807)) then
                                      bif
                                          !sameC
                                              ((dK
                                                    (encB (k) (g) (List.map strOfV cs) f u
                                                      ca)))
                                              ((dG
                                                    (encB (k) (g) (List.map strOfV cs) f u
                                                      ca)))
                                              []
                                              (dF (encB (k) (g) (List.map strOfV cs) f u ca))
                                              (dU (encB (k) (g) (List.map strOfV cs) f u ca))
                                              (dCa (encB (k) (g) (List.map strOfV cs) f u ca))
                                              (k) (g) (List.map strOfV cs) f u ca then
                                        R (V.bool false)
                                      else
                                        bif
                                            encE (k') (g') (List.map strOfV ds) f' u' ca' ==
                                              0 then
                                          bif
                                              cs.length.beq (n * 1) && (cs.all isStrV && cs.length.beq n) &&
                                                (ds.length.beq (m * 1) && (ds.all isStrV && ds.length.beq m) &&
                                                  ((List.map strOfV cs).length.ble 9223372036854775807 &&
                                                    (List.map strOfV ds).length.ble 9223372036854775807)) then
                                            bif
                                                !(encB (k) (g) (List.map strOfV cs) f u ca ==
                                                      encB (k') (g') (List.map strOfV ds) f'
                                                        u' ca') ==
                                                    sameC (k) (g) (List.map strOfV cs) f u ca
                                                      (k') (g') (List.map strOfV ds) f' u'
                                                      ca' then
                                              R (V.bool false)
                                            else
                                              bif decE s != 0 then
                                                bif decE s != 0 then R (V.bool true) else R (V.bool false)
                                              else
                                                bif (dN s).beq 0 then
                                                  bif
                                                      mayC ((dK s)) ((dG s)) (dF s) (dU s) &&
                                                        true then
                                                    bif
                                                        encE ((dK s)) ((dG s)) [] (dF s)
                                                            (dU s) (dCa s) ==
                                                          0 then
                                                      R
                                                        (V.bool
                                                          (encB ((dK s)) ((dG s)) [] (dF s)
                                                              (dU s) (dCa s) ==
                                                            s))
                                                    else R (V.bool false)
                                                  else R (V.bool false)
                                                else
                                                  bif
                                                      (0 + dN s * 1).ble (shiftL 3 (strs (dL s))).length &&
                                                          ((List.take (dN s * 1) (List.drop 0 (shiftL 3 (strs (dL s))))).all
                                                              isStrV &&
                                                            (List.take (dN s * 1)
                                                                    (List.drop 0 (shiftL 3 (strs (dL s))))).length.beq
                                                              (dN s)) &&
                                                        (List.map strOfV
                                                                (List.take (dN s * 1)
                                                                  (List.drop 0 (shiftL 3 (strs (dL s)))))).length.ble
                                                          9223372036854775807 then
                                                    bif
                                                        (0 + dN s * 1).ble (shiftL 3 (strs (dL s))).length &&
                                                            ((List.take (dN s * 1)
                                                                    (List.drop 0 (shiftL 3 (strs (dL s))))).all
                                                                isStrV &&
                                                              (List.take (dN s * 1)
                                                                      (List.drop 0 (shiftL 3 (strs (dL s))))).length.beq
                                                                (dN s)) &&
                                                          (List.map strOfV
                                                                  (List.take (dN s * 1)
                                                                    (List.drop 0 (shiftL 3 (strs (dL s)))))).length.ble
                                                            9223372036854775807 then
                                                      bif
                                                          mayC ((dK s)) ((dG s)) (dF s)
                                                              (dU s) &&
                                                            (List.map strOfV
                                                                  (List.take (dN s * 1)
                                                                    (List.drop 0 (shiftL 3 (strs (dL s)))))).all
                                                              patN then
                                                        bif
                                                            encE ((dK s)) ((dG s))
                                                                (List.map strOfV
                                                                  (List.take (dN s * 1)
                                                                    (List.drop 0 (shiftL 3 (strs (dL s))))))
                                                                (dF s) (dU s) (dCa s) ==
                                                              0 then
                                                          R
                                                            (V.bool
                                                              (encB ((dK s)) ((dG s))
                                                                  (List.map strOfV
                                                                    (List.take (dN s * 1)
                                                                      (List.drop 0 (shiftL 3 (strs (dL s))))))
                                                                  (dF s) (dU s) (dCa s) ==
                                                                s))
                                                        else R (V.bool false)
                                                      else R (V.bool false)
                                                    else False
                                                  else False
                                          else False
                                        else
                                          bif decE s != 0 then bif decE s != 0 then R (V.bool true) else R (V.bool false)
                                          else
                                            bif (dN s).beq 0 then
                                              bif
                                                  mayC ((dK s)) ((dG s)) (dF s) (dU s) &&
                                                    true then
                                                bif
                                                    encE ((dK s)) ((dG s)) [] (dF s) (dU s)
                                                        (dCa s) ==
                                                      0 then
                                                  R
                                                    (V.bool
                                                      (encB ((dK s)) ((dG s)) [] (dF s) (dU s)
                                                          (dCa s) ==
                                                        s))
                                                else R (V.bool false)
                                              else R (V.bool false)
                                            else
                                              bif
                                                  (0 + dN s * 1).ble (shiftL 3 (strs (dL s))).length &&
                                                      ((List.take (dN s * 1) (List.drop 0 (shiftL 3 (strs (dL s))))).all
                                                          isStrV &&
                                                        (List.take (dN s * 1)
                                                                (List.drop 0 (shiftL 3 (strs (dL s))))).length.beq
                                                          (dN s)) &&
                                                    (List.map strOfV
                                                            (List.take (dN s * 1)
                                                              (List.drop 0 (shiftL 3 (strs (dL s)))))).length.ble
                                                      9223372036854775807 then
                                                bif
                                                    (0 + dN s * 1).ble (shiftL 3 (strs (dL s))).length &&
                                                        ((List.take (dN s * 1) (List.drop 0 (shiftL 3 (strs (dL s))))).all
                                                            isStrV &&
                                                          (List.take (dN s * 1)
                                                                  (List.drop 0 (shiftL 3 (strs (dL s))))).length.beq
                                                            (dN s)) &&
                                                      (List.map strOfV
                                                              (List.take (dN s * 1)
                                                                (List.drop 0 (shiftL 3 (strs (dL s)))))).length.ble
                                                        9223372036854775807 then
                                                  bif
                                                      mayC ((dK s)) ((dG s)) (dF s) (dU s) &&
                                                        (List.map strOfV
                                                              (List.take (dN s * 1)
                                                                (List.drop 0 (shiftL 3 (strs (dL s)))))).all
                                                          patN then
                                                    bif
                                                        encE ((dK s)) ((dG s))
                                                            (List.map strOfV
                                                              (List.take (dN s * 1) (List.drop 0 (shiftL 3 (strs (dL s))))))
                                                            (dF s) (dU s) (dCa s) ==
                                                          0 then
                                                      R
                                                        (V.bool
                                                          (encB ((dK s)) ((dG s))
                                                              (List.map strOfV
                                                                (List.take (dN s * 1)
                                                                  (List.drop 0 (shiftL 3 (strs (dL s))))))
                                                              (dF s) (dU s) (dCa s) ==
                                                            s))
                                                    else R (V.bool false)
                                                  else R (V.bool false)
                                                else False
                                              else False
                                    else False
                                  else
                                    bif
                                        (0 +
                                                  dN
                                                      (encB (k) (g) (List.map strOfV cs) f u
                                                        ca) *
                                                    1).ble
                                              (shiftL 2
                                                  (strs
                                                    (dL
                                                      (encB (k) (g) (List.map strOfV cs) f u
                                                        ca)))).length &&
                                            ((List.take
                                                    (dN
                                                        (encB (k) (g) (List.map strOfV cs) f u
                                                          ca) *
                                                      1)
                                                    (List.drop 0
                                                      (shiftL 2
                                                        (strs
                                                          (dL
                                                            (encB (k) (g) (List.map strOfV cs)
                                                              f u ca)))))).all
                                                isStrV &&
                                              (List.take
                                                      (dN
                                                          (encB (k) (g) (List.map strOfV cs) f
                                                            u ca) *
                                                        1)
                                                      (List.drop 0
                                                        (shiftL 2
                                                          (strs
                                                            (dL
                                                              (encB (k) (g)
                                                                (List.map strOfV cs) f u ca)))))).length.beq
                                                (dN
                                                  (encB (k) (g) (List.map strOfV cs) f u
                                                    ca))) &&
                                          (cs.length.beq (n * 1) && (cs.all isStrV && cs.length.beq n) &&
                                            ((List.map strOfV
                                                      (List.take
                                                        (dN
                                                            (encB (k) (g) (List.map strOfV cs)
                                                              f u ca) *
                                                          1)
                                                        (List.drop 0
                                                          (shiftL 2
                                                            (strs
                                                              (dL
                                                                (encB (k) (g)
                                                                  (List.map strOfV cs) f u ca))))))).length.ble
                                                9223372036854775807 &&
                                              (List.map strOfV cs).length.ble 9223372036854775807)) then
                                      bif
                                          !sameC
                                              ((dK
                                                    (encB (k) (g) (List.map strOfV cs) f u
                                                      ca)))
                                              ((dG
                                                    (encB (k) (g) (List.map strOfV cs) f u
                                                      ca)))
                                              (List.map strOfV
                                                (List.take
                                                  (dN
                                                      (encB (k) (g) (List.map strOfV cs) f u
                                                        ca) *
                                                    1)
                                                  (List.drop 0
                                                    (shiftL 2
                                                      (strs
                                                        (dL
                                                          (encB (k) (g) (List.map strOfV cs) f
                                                            u ca)))))))
                                              (dF (encB (k) (g) (List.map strOfV cs) f u ca))
                                              (dU (encB (k) (g) (List.map strOfV cs) f u ca))
                                              (dCa (encB (k) (g) (List.map strOfV cs) f u ca))
                                              (k) (g) (List.map strOfV cs) f u ca then
                                        R (V.bool false)
                                      else
                                        bif
                                            encE (k') (g') (List.map strOfV ds) f' u' ca' ==
                                              0 then
                                          bif
                                              cs.length.beq (n * 1) && (cs.all isStrV && cs.length.beq n) &&
                                                (ds.length.beq (m * 1) && (ds.all isStrV && ds.length.beq m) &&
                                                  ((List.map strOfV cs).length.ble 9223372036854775807 &&
                                                    (List.map strOfV ds).length.ble 9223372036854775807)) then
                                            bif
                                                !(encB (k) (g) (List.map strOfV cs) f u ca ==
                                                      encB (k') (g') (List.map strOfV ds) f'
                                                        u' ca') ==
                                                    sameC (k) (g) (List.map strOfV cs) f u ca
                                                      (k') (g') (List.map strOfV ds) f' u'
                                                      ca' then
                                              R (V.bool false)
                                            else
                                              bif decE s != 0 then
                                                bif decE s != 0 then R (V.bool true) else R (V.bool false)
                                              else
                                                bif (dN s).beq 0 then
                                                  bif
                                                      mayC ((dK s)) ((dG s)) (dF s) (dU s) &&
                                                        true then
                                                    bif
                                                        encE ((dK s)) ((dG s)) [] (dF s)
                                                            (dU s) (dCa s) ==
                                                          0 then
                                                      R
                                                        (V.bool
                                                          (encB ((dK s)) ((dG s)) [] (dF s)
                                                              (dU s) (dCa s) ==
                                                            s))
                                                    else R (V.bool false)
                                                  else R (V.bool false)
                                                else
                                                  bif
                                                      (0 + dN s * 1).ble (shiftL 4 (strs (dL s))).length &&
                                                          ((List.take (dN s * 1) (List.drop 0 (shiftL 4 (strs (dL s))))).all
                                                              isStrV &&
                                                            (List.take (dN s * 1)
                                                                    (List.drop 0 (shiftL 4 (strs (dL s))))).length.beq
                                                              (dN s)) &&
                                                        (List.map strOfV
                                                                (List.take (dN s * 1)
                                                                  (List.drop 0 (shiftL 4 (strs (dL s)))))).length.ble
                                                          9223372036854775807 then
                                                    bif
                                                        (0 + dN s * 1).ble (shiftL 4 (strs (dL s))).length &&
                                                            ((List.take (dN s * 1)
                                                                    (List.drop 0 (shiftL 4 (strs (dL s))))).all
                                                                isStrV &&
                                                              (List.take (dN s * 1)
                                                                      (List.drop 0 (shiftL 4 (strs (dL s))))).length.beq
                                                                (dN s)) &&
                                                          (List.map strOfV
                                                                  (List.take (dN s * 1)
                                                                    (List.drop 0 (shiftL 4 (strs (dL s)))))).length.ble
                                                            9223372036854775807 then
                                                      bif
                                                          mayC ((dK s)) ((dG s)) (dF s)
                                                              (dU s) &&
                                                            (List.map strOfV
                                                                  (List.take (dN s * 1)
                                                                    (List.drop 0 (shiftL 4 (strs (dL s)))))).all
                                                              patN then
                                                        bif
                                                            encE ((dK s)) ((dG s))
                                                                (List.map strOfV
                                                                  (List.take (dN s * 1)
                                                                    (List.drop 0 (shiftL 4 (strs (dL s))))))
                                                                (dF s) (dU s) (dCa s) ==
                                                              0 then
                                                          R
                                                            (V.bool
                                                              (encB ((dK s)) ((dG s))
                                                                  (List.map strOfV
                                                                    (List.take (dN s * 1)
                                                                      (List.drop 0 (shiftL 4 (strs (dL s))))))
                                                                  (dF s) (dU s) (dCa s) ==
                                                                s))
                                                        else R (V.bool false)
                                                      else R (V.bool false)
                                                    else False
                                                  else False
                                          else False
                                        else
                                          bif decE s != 0 then bif decE s != 0 then R (V.bool true) else R (V.bool false)
                                          else
                                            bif (dN s).beq 0 then
                                              bif
                                                  mayC ((dK s)) ((dG s)) (dF s) (dU s) &&
                                                    true then
                                                bif
                                                    encE ((dK s)) ((dG s)) [] (dF s) (dU s)
                                                        (dCa s) ==
                                                      0 then
                                                  R
                                                    (V.bool
                                                      (encB ((dK s)) ((dG s)) [] (dF s) (dU s)
                                                          (dCa s) ==
                                                        s))
                                                else R (V.bool false)
                                              else R (V.bool false)
                                            else
                                              bif
                                                  (0 + dN s * 1).ble (shiftL 4 (strs (dL s))).length &&
                                                      ((List.take (dN s * 1) (List.drop 0 (shiftL 4 (strs (dL s))))).all
                                                          isStrV &&
                                                        (List.take (dN s * 1)
                                                                (List.drop 0 (shiftL 4 (strs (dL s))))).length.beq
                                                          (dN s)) &&
                                                    (List.map strOfV
                                                            (List.take (dN s * 1)
                                                              (List.drop 0 (shiftL 4 (strs (dL s)))))).length.ble
                                                      9223372036854775807 then
                                                bif
                                                    (0 + dN s * 1).ble (shiftL 4 (strs (dL s))).length &&
                                                        ((List.take (dN s * 1) (List.drop 0 (shiftL 4 (strs (dL s))))).all
                                                            isStrV &&
                                                          (List.take (dN s * 1)
                                                                  (List.drop 0 (shiftL 4 (strs (dL s))))).length.beq
                                                            (dN s)) &&
                                                      (List.map strOfV
                                                              (List.take (dN s * 1)
                                                                (List.drop 0 (shiftL 4 (strs (dL s)))))).length.ble
                                                        9223372036854775807 then
                                                  bif
                                                      mayC ((dK s)) ((dG s)) (dF s) (dU s) &&
                                                        (List.map strOfV
                                                              (List.take (dN s * 1)
                                                                (List.drop 0 (shiftL 4 (strs (dL s)))))).all
                                                          patN then
                                                    bif
                                                        encE ((dK s)) ((dG s))
                                                            (List.map strOfV
                                                              (List.take (dN s * 1) (List.drop 0 (shiftL 4 (strs (dL s))))))
                                                            (dF s) (dU s) (dCa s) ==
                                                          0 then
                                                      R
                                                        (V.bool
                                                          (encB ((dK s)) ((dG s))
                                                              (List.map strOfV
                                                                (List.take (dN s * 1)
                                                                  (List.drop 0 (shiftL 4 (strs (dL s))))))
                                                              (dF s) (dU s) (dCa s) ==
                                                            s))
                                                    else R (V.bool false)
                                                  else R (V.bool false)
                                                else False
                                              else False
                                    else False
                              else
                                bif decE s != 0 then bif decE s != 0 then R (V.bool true) else R (V.bool false)
                                else
                                  bif (dN s).beq 0 then
                                    bif mayC ((dK s)) ((dG s)) (dF s) (dU s) && true then
                                      bif
                                          encE ((dK s)) ((dG s)) [] (dF s) (dU s) (dCa s) ==
                                            0 then
                                        R
                                          (V.bool
                                            (encB ((dK s)) ((dG s)) [] (dF s) (dU s)
                                                (dCa s) ==
                                              s))
                                      else R (V.bool false)
                                    else R (V.bool false)
                                  else
                                    bif
                                        (0 + dN s * 1).ble (shiftL 2 (strs (dL s))).length &&
                                            ((List.take (dN s * 1) (List.drop 0 (shiftL 2 (strs (dL s))))).all isStrV &&
                                              (List.take (dN s * 1) (List.drop 0 (shiftL 2 (strs (dL s))))).length.beq
                                                (dN s)) &&
                                          (List.map strOfV
                                                  (List.take (dN s * 1) (List.drop 0 (shiftL 2 (strs (dL s)))))).length.ble
                                            9223372036854775807 then
                                      bif
                                          (0 + dN s * 1).ble (shiftL 2 (strs (dL s))).length &&
                                              ((List.take (dN s * 1) (List.drop 0 (shiftL 2 (strs (dL s))))).all isStrV &&
                                                (List.take (dN s * 1) (List.drop 0 (shiftL 2 (strs (dL s))))).length.beq
                                                  (dN s)) &&
                                            (List.map strOfV
                                                    (List.take (dN s * 1)
                                                      (List.drop 0 (shiftL 2 (strs (dL s)))))).length.ble
                                              9223372036854775807 then
                                        bif
                                            mayC ((dK s)) ((dG s)) (dF s) (dU s) &&
                                              (List.map strOfV
                                                    (List.take (dN s * 1) (List.drop 0 (shiftL 2 (strs (dL s)))))).all
                                                patN then
                                          bif
                                              encE ((dK s)) ((dG s))
                                                  (List.map strOfV
                                                    (List.take (dN s * 1) (List.drop 0 (shiftL 2 (strs (dL s))))))
                                                  (dF s) (dU s) (dCa s) ==
                                                0 then
                                            R
                                              (V.bool
                                                (encB ((dK s)) ((dG s))
                                                    (List.map strOfV
                                                      (List.take (dN s * 1) (List.drop 0 (shiftL 2 (strs (dL s))))))
                                                    (dF s) (dU s) (dCa s) ==
                                                  s))
                                          else R (V.bool false)
                                        else R (V.bool false)
                                      else False
                                    else False
                        else
                          bif
                              decide
                                ((↑(encB (k) (g) (List.map strOfV cs) f u ca).length : Int) >
                                  512) then
                            R (V.bool false)
                          else
                            bif encE (k) (g) (List.map strOfV cs) f u ca == 0 then
                              bif decE (encB (k) (g) (List.map strOfV cs) f u ca) != 0 then
                                bif decE (encB (k) (g) (List.map strOfV cs) f u ca) != 0 then
                                  R (V.bool false)
                                else
                                  bif
                                      true &&
                                        (cs.length.beq (n * 1) && (cs.all isStrV && cs.length.beq n) &&
                                          (true && (List.map strOfV cs).length.ble 9223372036854775807)) then
                                    bif
                                        !sameC [] [] [] 0 0 false (k) (g) (List.map strOfV cs)
                                            f u ca then
                                      R (V.bool false)
                                    else
                                      bif
                                          encE (k') (g') (List.map strOfV ds) f' u' ca' ==
                                            0 then
                                        bif
                                            cs.length.beq (n * 1) && (cs.all isStrV && cs.length.beq n) &&
                                              (ds.length.beq (m * 1) && (ds.all isStrV && ds.length.beq m) &&
                                                ((List.map strOfV cs).length.ble 9223372036854775807 &&
                                                  (List.map strOfV ds).length.ble 9223372036854775807)) then
                                          bif
                                              !(encB (k) (g) (List.map strOfV cs) f u ca ==
                                                    encB (k') (g') (List.map strOfV ds) f' u'
                                                      ca') ==
                                                  sameC (k) (g) (List.map strOfV cs) f u ca
                                                    (k') (g') (List.map strOfV ds) f' u'
                                                    ca' then
                                            R (V.bool false)
                                          else
                                            bif decE s != 0 then bif decE s != 0 then R (V.bool true) else R (V.bool false)
                                            else
                                              bif (dN s).beq 0 then
                                                bif
                                                    mayC ((dK s)) ((dG s)) (dF s) (dU s) &&
                                                      true then
                                                  bif
                                                      encE ((dK s)) ((dG s)) [] (dF s) (dU s)
                                                          (dCa s) ==
                                                        0 then
                                                    R
                                                      (V.bool
                                                        (encB ((dK s)) ((dG s)) [] (dF s)
                                                            (dU s) (dCa s) ==
                                                          s))
                                                  else R (V.bool false)
                                                else R (V.bool false)
                                              else
                                                bif
                                                    (0 + dN s * 1).ble (shiftL 3 (strs (dL s))).length &&
                                                        ((List.take (dN s * 1) (List.drop 0 (shiftL 3 (strs (dL s))))).all
                                                            isStrV &&
                                                          (List.take (dN s * 1)
                                                                  (List.drop 0 (shiftL 3 (strs (dL s))))).length.beq
                                                            (dN s)) &&
                                                      (List.map strOfV
                                                              (List.take (dN s * 1)
                                                                (List.drop 0 (shiftL 3 (strs (dL s)))))).length.ble
                                                        9223372036854775807 then
                                                  bif
                                                      (0 + dN s * 1).ble (shiftL 3 (strs (dL s))).length &&
                                                          ((List.take (dN s * 1) (List.drop 0 (shiftL 3 (strs (dL s))))).all
                                                              isStrV &&
                                                            (List.take (dN s * 1)
                                                                    (List.drop 0 (shiftL 3 (strs (dL s))))).length.beq
                                                              (dN s)) &&
                                                        (List.map strOfV
                                                                (List.take (dN s * 1)
                                                                  (List.drop 0 (shiftL 3 (strs (dL s)))))).length.ble
                                                          9223372036854775807 then
                                                    bif
                                                        mayC ((dK s)) ((dG s)) (dF s)
                                                            (dU s) &&
                                                          (List.map strOfV
                                                                (List.take (dN s * 1)
                                                                  (List.drop 0 (shiftL 3 (strs (dL s)))))).all
                                                            patN then
                                                      bif
                                                          encE ((dK s)) ((dG s))
                                                              (List.map strOfV
                                                                (List.take (dN s * 1)
                                                                  (List.drop 0 (shiftL 3 (strs (dL s))))))
                                                              (dF s) (dU s) (dCa s) ==
                                                            0 then
                                                        R
                                                          (V.bool
                                                            (encB ((dK s)) ((dG s))
                                                                (List.map strOfV
                                                                  (List.take (dN s * 1)
                                                                    (List.drop 0 (shiftL 3 (strs (dL s))))))
                                                                (dF s) (dU s) (dCa s) ==
                                                              s))
                                                      else R (V.bool false)
                                                    else R (V.bool false)
                                                  else False
                                                else False
                                        else False
                                      else
                                        bif decE s != 0 then bif decE s != 0 then R (V.bool true) else R (V.bool false)
                                        else
                                          bif (dN s).beq 0 then
                                            bif
                                                mayC ((dK s)) ((dG s)) (dF s) (dU s) &&
                                                  true then
                                              bif
                                                  encE ((dK s)) ((dG s)) [] (dF s) (dU s)
                                                      (dCa s) ==
                                                    0 then
                                                R
                                                  (V.bool
                                                    (encB ((dK s)) ((dG s)) [] (dF s) (dU s)
                                                        (dCa s) ==
                                                      s))
                                              else R (V.bool false)
                                            else R (V.bool false)
                                          else
                                            bif
                                                (0 + dN s * 1).ble (shiftL 3 (strs (dL s))).length &&
                                                    ((List.take (dN s * 1) (List.drop 0 (shiftL 3 (strs (dL s))))).all
                                                        isStrV &&
                                                      (List.take (dN s * 1)
                                                              (List.drop 0 (shiftL 3 (strs (dL s))))).length.beq
                                                        (dN s)) &&
                                                  (List.map strOfV
                                                          (List.take (dN s * 1)
                                                            (List.drop 0 (shiftL 3 (strs (dL s)))))).length.ble
                                                    9223372036854775807 then
                                              bif
                                                  (0 + dN s * 1).ble (shiftL 3 (strs (dL s))).length &&
                                                      ((List.take (dN s * 1) (List.drop 0 (shiftL 3 (strs (dL s))))).all
                                                          isStrV &&
                                                        (List.take (dN s * 1)
                                                                (List.drop 0 (shiftL 3 (strs (dL s))))).length.beq
                                                          (dN s)) &&
                                                    (List.map strOfV
                                                            (List.take (dN s * 1)
                                                              (List.drop 0 (shiftL 3 (strs (dL s)))))).length.ble
                                                      9223372036854775807 then
                                                bif
                                                    mayC ((dK s)) ((dG s)) (dF s) (dU s) &&
                                                      (List.map strOfV
                                                            (List.take (dN s * 1)
                                                              (List.drop 0 (shiftL 3 (strs (dL s)))))).all
                                                        patN then
                                                  bif
                                                      encE ((dK s)) ((dG s))
                                                          (List.map strOfV
                                                            (List.take (dN s * 1) (List.drop 0 (shiftL 3 (strs (dL s))))))
                                                          (dF s) (dU s) (dCa s) ==
                                                        0 then
                                                    R
                                                      (V.bool
                                                        (encB ((dK s)) ((dG s))
                                                            (List.map strOfV
                                                              (List.take (dN s * 1) (List.drop 0 (shiftL 3 (strs (dL s))))))
                                                            (dF s) (dU s) (dCa s) ==
                                                          s))
                                                  else R (V.bool false)
                                                else R (V.bool false)
                                              else False
                                            else False
                                  else False
                              else
                                bif (dN (encB (k) (g) (List.map strOfV cs) f u ca)).beq 0 then
                                  bif
                                      true &&
                                        (cs.length.beq (n * 1) && (cs.all isStrV && cs.length.beq n) &&
                                          (true && (List.map strOfV cs).length.ble 9223372036854775807)) then
                                    bif
                                        !sameC
                                            ((dK
                                                  (encB (k) (g) (List.map strOfV cs) f u
                                                    ca)))
                                            ((dG
                                                  (encB (k) (g) (List.map strOfV cs) f u
                                                    ca)))
                                            [] (dF (encB (k) (g) (List.map strOfV cs) f u ca))
                                            (dU (encB (k) (g) (List.map strOfV cs) f u ca))
                                            (dCa (encB (k) (g) (List.map strOfV cs) f u ca))
                                            (k) (g) (List.map strOfV cs) f u ca then
                                      R (V.bool false)
                                    else
                                      bif
                                          encE (k') (g') (List.map strOfV ds) f' u' ca' ==
                                            0 then
                                        bif
                                            cs.length.beq (n * 1) && (cs.all isStrV && cs.length.beq n) &&
                                              (ds.length.beq (m * 1) && (ds.all isStrV && ds.length.beq m) &&
                                                ((List.map strOfV cs).length.ble 9223372036854775807 &&
                                                  (List.map strOfV ds).length.ble 9223372036854775807)) then
                                          bif
                                              !(encB (k) (g) (List.map strOfV cs) f u ca ==
                                                    encB (k') (g') (List.map strOfV ds) f' u'
                                                      ca') ==
                                                  sameC (k) (g) (List.map strOfV cs) f u ca
                                                    (k') (g') (List.map strOfV ds) f' u'
                                                    ca' then
                                            R (V.bool false)
                                          else
                                            bif decE s != 0 then bif decE s != 0 then R (V.bool true) else R (V.bool false)
                                            else
                                              bif (dN s).beq 0 then
                                                bif
                                                    mayC ((dK s)) ((dG s)) (dF s) (dU s) &&
                                                      true then
                                                  bif
                                                      encE ((dK s)) ((dG s)) [] (dF s) (dU s)
                                                          (dCa s) ==
                                                        0 then
                                                    R
                                                      (V.bool
                                                        (encB ((dK s)) ((dG s)) [] (dF s)
                                                            (dU s) (dCa s) ==
                                                          s))
                                                  else R (V.bool false)
                                                else R (V.bool false)
                                              else
                                                bif
                                                    (0 + dN s * 1).ble (shiftL 3 (strs (dL s))).length &&
                                                        ((List.take (dN s * 1) (List.drop 0 (shiftL 3 (strs (dL s))))).all
                                                            isStrV &&
                                                          (List.take (dN s * 1)
                                                                  (List.drop 0 (shiftL 3 (strs (dL s))))).length.beq
                                                            (dN s)) &&
                                                      (List.map strOfV
                                                              (List.take (dN s * 1)
                                                                (List.drop 0 (shiftL 3 (strs (dL s)))))).length.ble
                                                        9223372036854775807 then
                                                  bif
                                                      (0 + dN s * 1).ble (shiftL 3 (strs (dL s))).length &&
                                                          ((List.take (dN s * 1) (List.drop 0 (shiftL 3 (strs (dL s))))).all
                                                              isStrV &&
                                                            (List.take (dN s * 1)
                                                                    (List.drop 0 (shiftL 3 (strs (dL s))))).length.beq
                                                              (dN s)) &&
                                                        (List.map strOfV
                                                                (List.take (dN s * 1)
                                                                  (List.drop 0 (shiftL 3 (strs (dL s)))))).length.ble
                                                          9223372036854775807 then
                                                    bif
                                                        mayC ((dK s)) ((dG s)) (dF s)
                                                            (dU s) &&
                                                          (List.map strOfV
                                                                (List.take (dN s * 1)
                                                                  (List.drop 0 (shiftL 3 (strs (dL s)))))).all
                                                            patN then
                                                      bif
                                                          encE ((dK s)) ((dG s))
                                                              (List.map strOfV
                                                                (List.take (dN s * 1)
                                                                  (List.drop 0 (shiftL 3 (strs (dL s))))))
                                                              (dF s) (dU s) (dCa s) ==
                                                            0 then
                                                        R
                                                          (V.bool
                                                            (encB ((dK s)) ((dG s))
                                                                (List.map strOfV
                                                                  (List.take (dN s * 1)
                                                                    (List.drop 0 (shiftL 3 (strs (dL s))))))
                                                                (dF s) (dU s) (dCa s) ==
                                                              s))
                                                      else R (V.bool false)
                                                    else R (V.bool false)
                                                  else False
                                                else False
                                        else False
                                      else
                                        bif decE s != 0 then bif decE s != 0 then R (V.bool true) else R (V.bool false)
                                        else
                                          bif (dN s).beq 0 then
                                            bif
                                                mayC ((dK s)) ((dG s)) (dF s) (dU s) &&
                                                  true then
                                              bif
                                                  encE ((dK s)) ((dG s)) [] (dF s) (dU s)
                                                      (dCa s) ==
                                                    0 then
                                                R
                                                  (V.bool
                                                    (encB ((dK s)) ((dG s)) [] (dF s) (dU s)
                                                        (dCa s) ==
                                                      s))
                                              else R (V.bool false)
                                            else R (V.bool false)
                                          else
                                            bif
                                                (0 + dN s * 1).ble (shiftL 3 (strs (dL s))).length &&
                                                    ((List.take (dN s * 1) (List.drop 0 (shiftL 3 (strs (dL s))))).all
                                                        isStrV &&
                                                      (List.take (dN s * 1)
                                                              (List.drop 0 (shiftL 3 (strs (dL s))))).length.beq
                                                        (dN s)) &&
                                                  (List.map strOfV
                                                          (List.take (dN s * 1)
                                                            (List.drop 0 (shiftL 3 (strs (dL s)))))).length.ble
                                                    9223372036854775807 then
                                              bif
                                                  (0 + dN s * 1).ble (shiftL 3 (strs (dL s))).length &&
                                                      ((List.take (dN s * 1) (List.drop 0 (shiftL 3 (strs (dL s))))).all
                                                          isStrV &&
                                                        (List.take (dN s * 1)
                                                                (List.drop 0 (shiftL 3 (strs (dL s))))).length.beq
                                                          (dN s)) &&
                                                    (List.map strOfV
                                                            (List.take (dN s * 1)
                                                              (List.drop 0 (shiftL 3 (strs (dL s)))))).length.ble
                                                      9223372036854775807 then
                                                bif
                                                    mayC ((dK s)) ((dG s)) (dF s) (dU s) &&
                                                      (List.map strOfV
                                                            (List.take (dN s * 1)
                                                              (List.drop 0 (shiftL 3 (strs (dL s)))))).all
                                                        patN then
                                                  bif
                                                      encE ((dK s)) ((dG s))
                                                          (List.map strOfV
                                                            (List.take (dN s * 1) (List.drop 0 (shiftL 3 (strs (dL s))))))
                                                          (dF s) (dU s) (dCa s) ==
                                                        0 then
                                                    R
                                                      (V.bool
                                                        (encB ((dK s)) ((dG s))
                                                            (List.map strOfV
                                                              (List.take (dN s * 1) (List.drop 0 (shiftL 3 (strs (dL s))))))
                                                            (dF s) (dU s) (dCa s) ==
                                                          s))
                                                  else R (V.bool false)
                                                else R (V.bool false)
                                              else False
                                            else False
                                  else False
                                else
                                  bif
                                      (0 +
                                                dN
                                                    (encB (k) (g) (List.map strOfV cs) f u
                                                      ca) *
                                                  1).ble
                                            (shiftL 2
                                                (strs
                                                  (dL
                                                    (encB (k) (g) (List.map strOfV cs) f u
                                                      ca)))).length &&
                                          ((List.take
                                                  (dN
                                                      (encB (k) (g) (List.map strOfV cs) f u
                                                        ca) *
                                                    1)
                                                  (List.drop 0
                                                    (shiftL 2
                                                      (strs
                                                        (dL
                                                          (encB (k) (g) (List.map strOfV cs) f
                                                            u ca)))))).all
                                              isStrV &&
                                            (List.take
                                                    (dN
                                                        (encB (k) (g) (List.map strOfV cs) f u
                                                          ca) *
                                                      1)
                                                    (List.drop 0
                                                      (shiftL 2
                                                        (strs
                                                          (dL
                                                            (encB (k) (g) (List.map strOfV cs)
                                                              f u ca)))))).length.beq
                                              (dN
                                                (encB (k) (g) (List.map strOfV cs) f u
                                                  ca))) &&
                                        (cs.length.beq (n * 1) && (cs.all isStrV && cs.length.beq n) &&
                                          ((List.map strOfV
                                                    (List.take
                                                      (dN
                                                          (encB (k) (g) (List.map strOfV cs) f
                                                            u ca) *
                                                        1)
                                                      (List.drop 0
                                                        (shiftL 2
                                                          (strs
                                                            (dL
                                                              (encB (k) (g)
                                                                (List.map strOfV cs) f u ca))))))).length.ble
                                              9223372036854775807 &&
                                            (List.map strOfV cs).length.ble 9223372036854775807)) then
                                    bif
                                        !sameC
                                            ((dK
                                                  (encB (k) (g) (List.map strOfV cs) f u
                                                    ca)))
                                            ((dG
                                                  (encB (k) (g) (List.map strOfV cs) f u
                                                    ca)))
                                            (List.map strOfV
                                              (List.take
                                                (dN
                                                    (encB (k) (g) (List.map strOfV cs) f u
                                                      ca) *
                                                  1)
                                                (List.drop 0
                                                  (shiftL 2
                                                    (strs
                                                      (dL
                                                        (encB (k) (g) (List.map strOfV cs) f u
                                                          ca)))))))
                                            (dF (encB (k) (g) (List.map strOfV cs) f u ca))
                                            (dU (encB (k) (g) (List.map strOfV cs) f u ca))
                                            (dCa (encB (k) (g) (List.map strOfV cs) f u ca))
                                            (k) (g) (List.map strOfV cs) f u ca then
                                      R (V.bool false)
                                    else
                                      bif
                                          encE (k') (g') (List.map strOfV ds) f' u' ca' ==
                                            0 then
                                        bif
                                            cs.length.beq (n * 1) && (cs.all isStrV && cs.length.beq n) &&
                                              (ds.length.beq (m * 1) && (ds.all isStrV && ds.length.beq m) &&
                                                ((List.map strOfV cs).length.ble 9223372036854775807 &&
                                                  (List.map strOfV ds).length.ble 9223372036854775807)) then
                                          bif
                                              !(encB (k) (g) (List.map strOfV cs) f u ca ==
                                                    encB (k') (g') (List.map strOfV ds) f' u'
                                                      ca') ==
                                                  sameC (k) (g) (List.map strOfV cs) f u ca
                                                    (k') (g') (List.map strOfV ds) f' u'
                                                    ca' then
                                            R (V.bool false)
                                          else
                                            bif decE s != 0 then bif decE s != 0 then R (V.bool true) else R (V.bool false)
                                            else
                                              bif (dN s).beq 0 then
                                                bif
                                                    mayC ((dK s)) ((dG s)) (dF s) (dU s) &&
                                                      true then
                                                  bif
                                                      encE ((dK s)) ((dG s)) [] (dF s) (dU s)
                                                          (dCa s) ==
                                                        0 then
                                                    R
                                                      (V.bool
                                                        (encB ((dK s)) ((dG s)) [] (dF s)
                                                            (dU s) (dCa s) ==
                                                          s))
                                                  else R (V.bool false)
                                                else R (V.bool false)
                                              else
                                                bif
                                                    (0 + dN s * 1).ble (shiftL 4 (strs (dL s))).length &&
                                                        ((List.take (dN s * 1) (List.drop 0 (shiftL 4 (strs (dL s))))).all
                                                            isStrV &&
                                                          (List.take (dN s * 1)
                                                                  (List.drop 0 (shiftL 4 (strs (dL s))))).length.beq
                                                            (dN s)) &&
                                                      (List.map strOfV
                                                              (List.take (dN s * 1)
                                                                (List.drop 0 (shiftL 4 (strs (dL s)))))).length.ble
                                                        9223372036854775807 then
                                                  bif
                                                      (0 + dN s * 1).ble (shiftL 4 (strs (dL s))).length &&
                                                          ((List.take (dN s * 1) (List.drop 0 (shiftL 4 (strs (dL s))))).all
                                                              isStrV &&
                                                            (List.take (dN s * 1)
                                                                    (List.drop 0 (shiftL 4 (strs (dL s))))).length.beq
                                                              (dN s)) &&
                                                        (List.map strOfV
                                                                (List.take (dN s * 1)
                                                                  (List.drop 0 (shiftL 4 (strs (dL s)))))).length.ble
                                                          9223372036854775807 then
                                                    bif
                                                        mayC ((dK s)) ((dG s)) (dF s)
                                                            (dU s) &&
                                                          (List.map strOfV
                                                                (List.take (dN s * 1)
                                                                  (List.drop 0 (shiftL 4 (strs (dL s)))))).all
                                                            patN then
                                                      bif
                                                          encE ((dK s)) ((dG s))
                                                              (List.map strOfV
                                                                (List.take (dN s * 1)
                                                                  (List.drop 0 (shiftL 4 (strs (dL s))))))
                                                              (dF s) (dU s) (dCa s) ==
                                                            0 then
                                                        R
                                                          (V.bool
                                                            (encB ((dK s)) ((dG s))
                                                                (List.map strOfV
                                                                  (List.take (dN s * 1)
                                                                    (List.drop 0 (shiftL 4 (strs (dL s))))))
                                                                (dF s) (dU s) (dCa s) ==
                                                              s))
                                                      else R (V.bool false)
                                                    else R (V.bool false)
                                                  else False
                                                else False
                                        else False
                                      else
                                        bif decE s != 0 then bif decE s != 0 then R (V.bool true) else R (V.bool false)
                                        else
                                          bif (dN s).beq 0 then
                                            bif
                                                mayC ((dK s)) ((dG s)) (dF s) (dU s) &&
                                                  true then
                                              bif
                                                  encE ((dK s)) ((dG s)) [] (dF s) (dU s)
                                                      (dCa s) ==
                                                    0 then
                                                R
                                                  (V.bool
                                                    (encB ((dK s)) ((dG s)) [] (dF s) (dU s)
                                                        (dCa s) ==
                                                      s))
                                              else R (V.bool false)
                                            else R (V.bool false)
                                          else
                                            bif
                                                (0 + dN s * 1).ble (shiftL 4 (strs (dL s))).length &&
                                                    ((List.take (dN s * 1) (List.drop 0 (shiftL 4 (strs (dL s))))).all
                                                        isStrV &&
                                                      (List.take (dN s * 1)
                                                              (List.drop 0 (shiftL 4 (strs (dL s))))).length.beq
                                                        (dN s)) &&
                                                  (List.map strOfV
                                                          (List.take (dN s * 1)
                                                            (List.drop 0 (shiftL 4 (strs (dL s)))))).length.ble
                                                    9223372036854775807 then
                                              bif
                                                  (0 + dN s * 1).ble (shiftL 4 (strs (dL s))).length &&
                                                      ((List.take (dN s * 1) (List.drop 0 (shiftL 4 (strs (dL s))))).all
                                                          isStrV &&
                                                        (List.take (dN s * 1)
                                                                (List.drop 0 (shiftL 4 (strs (dL s))))).length.beq
                                                          (dN s)) &&
                                                    (List.map strOfV
                                                            (List.take (dN s * 1)
                                                              (List.drop 0 (shiftL 4 (strs (dL s)))))).length.ble
                                                      9223372036854775807 then
                                                bif
                                                    mayC ((dK s)) ((dG s)) (dF s) (dU s) &&
                                                      (List.map strOfV
                                                            (List.take (dN s * 1)
                                                              (List.drop 0 (shiftL 4 (strs (dL s)))))).all
                                                        patN then
                                                  bif
                                                      encE ((dK s)) ((dG s))
                                                          (List.map strOfV
                                                            (List.take (dN s * 1) (List.drop 0 (shiftL 4 (strs (dL s))))))
                                                          (dF s) (dU s) (dCa s) ==
                                                        0 then
                                                    R
                                                      (V.bool
                                                        (encB ((dK s)) ((dG s))
                                                            (List.map strOfV
                                                              (List.take (dN s * 1) (List.drop 0 (shiftL 4 (strs (dL s))))))
                                                            (dF s) (dU s) (dCa s) ==
                                                          s))
                                                  else R (V.bool false)
                                                else R (V.bool false)
                                              else False
                                            else False
                                  else False
                            else
                              bif decE s != 0 then bif decE s != 0 then R (V.bool true) else R (V.bool false)
                              else
                                bif (dN s).beq 0 then
                                  bif mayC ((dK s)) ((dG s)) (dF s) (dU s) && true then
                                    bif
                                        encE ((dK s)) ((dG s)) [] (dF s) (dU s) (dCa s) ==
                                          0 then
                                      R
                                        (V.bool
                                          (encB ((dK s)) ((dG s)) [] (dF s) (dU s) (dCa s) ==
                                            s))
                                    else R (V.bool false)
                                  else R (V.bool false)
                                else
                                  bif
                                      (0 + dN s * 1).ble (shiftL 2 (strs (dL s))).length &&
                                          ((List.take (dN s * 1) (List.drop 0 (shiftL 2 (strs (dL s))))).all isStrV &&
                                            (List.take (dN s * 1) (List.drop 0 (shiftL 2 (strs (dL s))))).length.beq
                                              (dN s)) &&
                                        (List.map strOfV
                                                (List.take (dN s * 1) (List.drop 0 (shiftL 2 (strs (dL s)))))).length.ble
                                          9223372036854775807 then
                                    bif
                                        (0 + dN s * 1).ble (shiftL 2 (strs (dL s))).length &&
                                            ((List.take (dN s * 1) (List.drop 0 (shiftL 2 (strs (dL s))))).all isStrV &&
                                              (List.take (dN s * 1) (List.drop 0 (shiftL 2 (strs (dL s))))).length.beq
                                                (dN s)) &&
                                          (List.map strOfV
                                                  (List.take (dN s * 1) (List.drop 0 (shiftL 2 (strs (dL s)))))).length.ble
                                            9223372036854775807 then
                                      bif
                                          mayC ((dK s)) ((dG s)) (dF s) (dU s) &&
                                            (List.map strOfV
                                                  (List.take (dN s * 1) (List.drop 0 (shiftL 2 (strs (dL s)))))).all
                                              patN then
                                        bif
                                            encE ((dK s)) ((dG s))
                                                (List.map strOfV
                                                  (List.take (dN s * 1) (List.drop 0 (shiftL 2 (strs (dL s))))))
                                                (dF s) (dU s) (dCa s) ==
                                              0 then
                                          R
                                            (V.bool
                                              (encB ((dK s)) ((dG s))
                                                  (List.map strOfV
                                                    (List.take (dN s * 1) (List.drop 0 (shiftL 2 (strs (dL s))))))
                                                  (dF s) (dU s) (dCa s) ==
                                                s))
                                        else R (V.bool false)
                                      else R (V.bool false)
                                    else False
                                  else False
                    else
                      bif
                          !(encE (k) (g) (List.map strOfV cs) f u ca == 4) ==
                              decide ((↑n : Int) > 64) then
                        R (V.bool false)
                      else
                        bif encE (k) (g) (List.map strOfV cs) f u ca != 0 then
                          bif !encB (k) (g) (List.map strOfV cs) f u ca == [] then
                            R (V.bool false)
                          else
                            bif
                                decide
                                  ((↑(encB (k) (g) (List.map strOfV cs) f u ca).length :
                                      Int) >
                                    512) then
                              R (V.bool false)
                            else
                              bif encE (k) (g) (List.map strOfV cs) f u ca == 0 then
                                bif decE (encB (k) (g) (List.map strOfV cs) f u ca) != 0 then
                                  bif
                                      decE (encB (k) (g) (List.map strOfV cs) f u ca) !=
                                        0 then
                                    R (V.bool false)
                                  else
                                    bif
                                        true &&
                                          (cs.length.beq (n * 1) && (cs.all isStrV && cs.length.beq n) &&
                                            (true && (List.map strOfV cs).length.ble 9223372036854775807)) then
                                      bif
                                          !sameC [] [] [] 0 0 false (k) (g)
                                              (List.map strOfV cs) f u ca then
                                        R (V.bool false)
                                      else
                                        bif
                                            encE (k') (g') (List.map strOfV ds) f' u' ca' ==
                                              0 then
                                          bif
                                              cs.length.beq (n * 1) && (cs.all isStrV && cs.length.beq n) &&
                                                (ds.length.beq (m * 1) && (ds.all isStrV && ds.length.beq m) &&
                                                  ((List.map strOfV cs).length.ble 9223372036854775807 &&
                                                    (List.map strOfV ds).length.ble 9223372036854775807)) then
                                            bif
                                                !(encB (k) (g) (List.map strOfV cs) f u ca ==
                                                      encB (k') (g') (List.map strOfV ds) f'
                                                        u' ca') ==
                                                    sameC (k) (g) (List.map strOfV cs) f u ca
                                                      (k') (g') (List.map strOfV ds) f' u'
                                                      ca' then
                                              R (V.bool false)
                                            else
                                              bif decE s != 0 then
                                                bif decE s != 0 then R (V.bool true) else R (V.bool false)
                                              else
                                                bif (dN s).beq 0 then
                                                  bif
                                                      mayC ((dK s)) ((dG s)) (dF s) (dU s) &&
                                                        true then
                                                    bif
                                                        encE ((dK s)) ((dG s)) [] (dF s)
                                                            (dU s) (dCa s) ==
                                                          0 then
                                                      R
                                                        (V.bool
                                                          (encB ((dK s)) ((dG s)) [] (dF s)
                                                              (dU s) (dCa s) ==
                                                            s))
                                                    else R (V.bool false)
                                                  else R (V.bool false)
                                                else
                                                  bif
                                                      (0 + dN s * 1).ble (shiftL 3 (strs (dL s))).length &&
                                                          ((List.take (dN s * 1) (List.drop 0 (shiftL 3 (strs (dL s))))).all
                                                              isStrV &&
                                                            (List.take (dN s * 1)
                                                                    (List.drop 0 (shiftL 3 (strs (dL s))))).length.beq
                                                              (dN s)) &&
                                                        (List.map strOfV
                                                                (List.take (dN s * 1)
                                                                  (List.drop 0 (shiftL 3 (strs (dL s)))))).length.ble
                                                          9223372036854775807 then
                                                    bif
                                                        (0 + dN s * 1).ble (shiftL 3 (strs (dL s))).length &&
                                                            ((List.take (dN s * 1)
                                                                    (List.drop 0 (shiftL 3 (strs (dL s))))).all
                                                                isStrV &&
                                                              (List.take (dN s * 1)
                                                                      (List.drop 0 (shiftL 3 (strs (dL s))))).length.beq
                                                                (dN s)) &&
                                                          (List.map strOfV
                                                                  (List.take (dN s * 1)
                                                                    (List.drop 0 (shiftL 3 (strs (dL s)))))).length.ble
                                                            9223372036854775807 then
                                                      bif
                                                          mayC ((dK s)) ((dG s)) (dF s)
                                                              (dU s) &&
                                                            (List.map strOfV
                                                                  (List.take (dN s * 1)
                                                                    (List.drop 0 (shiftL 3 (strs (dL s)))))).all
                                                              patN then
                                                        bif
                                                            encE ((dK s)) ((dG s))
                                                                (List.map strOfV
                                                                  (List.take (dN s * 1)
                                                                    (List.drop 0 (shiftL 3 (strs (dL s))))))
                                                                (dF s) (dU s) (dCa s) ==
                                                              0 then
                                                          R
                                                            (V.bool
                                                              (encB ((dK s)) ((dG s))
                                                                  (List.map strOfV
                                                                    (List.take (dN s * 1)
                                                                      (List.drop 0 (shiftL 3 (strs (dL s))))))
                                                                  (dF s) (dU s) (dCa s) ==
                                                                s))
                                                        else R (V.bool false)
                                                      else R (V.bool false)
                                                    else False
                                                  else False
                                          else False
                                        else
                                          bif decE s != 0 then bif decE s != 0 then R (V.bool true) else R (V.bool false)
                                          else
                                            bif (dN s).beq 0 then
                                              bif
                                                  mayC ((dK s)) ((dG s)) (dF s) (dU s) &&
                                                    true then
                                                bif
                                                    encE ((dK s)) ((dG s)) [] (dF s) (dU s)
                                                        (dCa s) ==
                                                      0 then
                                                  R
                                                    (V.bool
                                                      (encB ((dK s)) ((dG s)) [] (dF s) (dU s)
                                                          (dCa s) ==
                                                        s))
                                                else R (V.bool false)
                                              else R (V.bool false)
                                            else
                                              bif
                                                  (0 + dN s * 1).ble (shiftL 3 (strs (dL s))).length &&
                                                      ((List.take (dN s * 1) (List.drop 0 (shiftL 3 (strs (dL s))))).all
                                                          isStrV &&
                                                        (List.take (dN s * 1)
                                                                (List.drop 0 (shiftL 3 (strs (dL s))))).length.beq
                                                          (dN s)) &&
                                                    (List.map strOfV
                                                            (List.take (dN s * 1)
                                                              (List.drop 0 (shiftL 3 (strs (dL s)))))).length.ble
                                                      9223372036854775807 then
                                                bif
                                                    (0 + dN s * 1).ble (shiftL 3 (strs (dL s))).length &&
                                                        ((List.take (dN s * 1) (List.drop 0 (shiftL 3 (strs (dL s))))).all
                                                            isStrV &&
                                                          (List.take (dN s * 1)
                                                                  (List.drop 0 (shiftL 3 (strs (dL s))))).length.beq
                                                            (dN s)) &&
                                                      (List.map strOfV
                                                              (List.take (dN s * 1)
                                                                (List.drop 0 (shiftL 3 (strs (dL s)))))).length.ble
                                                        9223372036854775807 then
                                                  bif
                                                      mayC ((dK s)) ((dG s)) (dF s) (dU s) &&
                                                        (List.map strOfV
                                                              (List.take (dN s * 1)
                                                                (List.drop 0 (shiftL 3 (strs (dL s)))))).all
                                                          patN then
                                                    bif
                                                        encE ((dK s)) ((dG s))
                                                            (List.map strOfV
                                                              (List.take (dN s * 1) (List.drop 0 (shiftL 3 (strs (dL s))))))
                                                            (dF s) (dU s) (dCa s) ==
                                                          0 then
                                                      R
                                                        (V.bool
                                                          (encB ((dK s)) ((dG s))
                                                              (List.map strOfV
                                                                (List.take (dN s * 1)
                                                                  (List.drop 0 (shiftL 3 (strs (dL s))))))
                                                              (dF s) (dU s) (dCa s) ==
                                                            s))
                                                    else R (V.bool false)
                                                  else R (V.bool false)
                                                else False
                                              else False
                                    else False
                                else
                                  bif
                                      (dN (encB (k) (g) (List.map strOfV cs) f u ca)).beq
                                        0 then
                                    bif
                                        true &&
                                          (cs.length.beq (n * 1) && (cs.all isStrV && cs.length.beq n) &&
                                            (true && (List.map strOfV cs).length.ble 9223372036854775807)) then
                                      bif
                                          !sameC
                                              ((dK
                                                    (encB (k) (g) (List.map strOfV cs) f u
                                                      ca)))
                                              ((dG
                                                    (encB (k) (g) (List.map strOfV cs) f u
                                                      ca)))
                                              []
                                              (dF (encB (k) (g) (List.map strOfV cs) f u ca))
                                              (dU (encB (k) (g) (List.map strOfV cs) f u ca))
                                              (dCa (encB (k) (g) (List.map strOfV cs) f u ca))
                                              (k) (g) (List.map strOfV cs) f u ca then
                                        R (V.bool false)
                                      else
                                        bif
                                            encE (k') (g') (List.map strOfV ds) f' u' ca' ==
                                              0 then
                                          bif
                                              cs.length.beq (n * 1) && (cs.all isStrV && cs.length.beq n) &&
                                                (ds.length.beq (m * 1) && (ds.all isStrV && ds.length.beq m) &&
                                                  ((List.map strOfV cs).length.ble 9223372036854775807 &&
                                                    (List.map strOfV ds).length.ble 9223372036854775807)) then
                                            bif
                                                !(encB (k) (g) (List.map strOfV cs) f u ca ==
                                                      encB (k') (g') (List.map strOfV ds) f'
                                                        u' ca') ==
                                                    sameC (k) (g) (List.map strOfV cs) f u ca
                                                      (k') (g') (List.map strOfV ds) f' u'
                                                      ca' then
                                              R (V.bool false)
                                            else
                                              bif decE s != 0 then
                                                bif decE s != 0 then R (V.bool true) else R (V.bool false)
                                              else
                                                bif (dN s).beq 0 then
                                                  bif
                                                      mayC ((dK s)) ((dG s)) (dF s) (dU s) &&
                                                        true then
                                                    bif
                                                        encE ((dK s)) ((dG s)) [] (dF s)
                                                            (dU s) (dCa s) ==
                                                          0 then
                                                      R
                                                        (V.bool
                                                          (encB ((dK s)) ((dG s)) [] (dF s)
                                                              (dU s) (dCa s) ==
                                                            s))
                                                    else R (V.bool false)
                                                  else R (V.bool false)
                                                else
                                                  bif
                                                      (0 + dN s * 1).ble (shiftL 3 (strs (dL s))).length &&
                                                          ((List.take (dN s * 1) (List.drop 0 (shiftL 3 (strs (dL s))))).all
                                                              isStrV &&
                                                            (List.take (dN s * 1)
                                                                    (List.drop 0 (shiftL 3 (strs (dL s))))).length.beq
                                                              (dN s)) &&
                                                        (List.map strOfV
                                                                (List.take (dN s * 1)
                                                                  (List.drop 0 (shiftL 3 (strs (dL s)))))).length.ble
                                                          9223372036854775807 then
                                                    bif
                                                        (0 + dN s * 1).ble (shiftL 3 (strs (dL s))).length &&
                                                            ((List.take (dN s * 1)
                                                                    (List.drop 0 (shiftL 3 (strs (dL s))))).all
                                                                isStrV &&
                                                              (List.take (dN s * 1)
                                                                      (List.drop 0 (shiftL 3 (strs (dL s))))).length.beq
                                                                (dN s)) &&
                                                          (List.map strOfV
                                                                  (List.take (dN s * 1)
                                                                    (List.drop 0 (shiftL 3 (strs (dL s)))))).length.ble
                                                            9223372036854775807 then
                                                      bif
                                                          mayC ((dK s)) ((dG s)) (dF s)
                                                              (dU s) &&
                                                            (List.map strOfV
                                                                  (List.take (dN s * 1)
                                                                    (List.drop 0 (shiftL 3 (strs (dL s)))))).all
                                                              patN then
                                                        bif
                                                            encE ((dK s)) ((dG s))
                                                                (List.map strOfV
                                                                  (List.take (dN s * 1)
                                                                    (List.drop 0 (shiftL 3 (strs (dL s))))))
                                                                (dF s) (dU s) (dCa s) ==
                                                              0 then
                                                          R
                                                            (V.bool
                                                              (encB ((dK s)) ((dG s))
                                                                  (List.map strOfV
                                                                    (List.take (dN s * 1)
                                                                      (List.drop 0 (shiftL 3 (strs (dL s))))))
                                                                  (dF s) (dU s) (dCa s) ==
                                                                s))
                                                        else R (V.bool false)
                                                      else R (V.bool false)
                                                    else False
                                                  else False
                                          else False
                                        else
                                          bif decE s != 0 then bif decE s != 0 then R (V.bool true) else R (V.bool false)
                                          else
                                            bif (dN s).beq 0 then
                                              bif
                                                  mayC ((dK s)) ((dG s)) (dF s) (dU s) &&
                                                    true then
                                                bif
                                                    encE ((dK s)) ((dG s)) [] (dF s) (dU s)
                                                        (dCa s) ==
                                                      0 then
                                                  R
                                                    (V.bool
                                                      (encB ((dK s)) ((dG s)) [] (dF s) (dU s)
                                                          (dCa s) ==
                                                        s))
                                                else R (V.bool false)
                                              else R (V.bool false)
                                            else
                                              bif
                                                  (0 + dN s * 1).ble (shiftL 3 (strs (dL s))).length &&
                                                      ((List.take (dN s * 1) (List.drop 0 (shiftL 3 (strs (dL s))))).all
                                                          isStrV &&
                                                        (List.take (dN s * 1)
                                                                (List.drop 0 (shiftL 3 (strs (dL s))))).length.beq
                                                          (dN s)) &&
                                                    (List.map strOfV
                                                            (List.take (dN s * 1)
                                                              (List.drop 0 (shiftL 3 (strs (dL s)))))).length.ble
                                                      9223372036854775807 then
                                                bif
                                                    (0 + dN s * 1).ble (shiftL 3 (strs (dL s))).length &&
                                                        ((List.take (dN s * 1) (List.drop 0 (shiftL 3 (strs (dL s))))).all
                                                            isStrV &&
                                                          (List.take (dN s * 1)
                                                                  (List.drop 0 (shiftL 3 (strs (dL s))))).length.beq
                                                            (dN s)) &&
                                                      (List.map strOfV
                                                              (List.take (dN s * 1)
                                                                (List.drop 0 (shiftL 3 (strs (dL s)))))).length.ble
                                                        9223372036854775807 then
                                                  bif
                                                      mayC ((dK s)) ((dG s)) (dF s) (dU s) &&
                                                        (List.map strOfV
                                                              (List.take (dN s * 1)
                                                                (List.drop 0 (shiftL 3 (strs (dL s)))))).all
                                                          patN then
                                                    bif
                                                        encE ((dK s)) ((dG s))
                                                            (List.map strOfV
                                                              (List.take (dN s * 1) (List.drop 0 (shiftL 3 (strs (dL s))))))
                                                            (dF s) (dU s) (dCa s) ==
                                                          0 then
                                                      R
                                                        (V.bool
                                                          (encB ((dK s)) ((dG s))
                                                              (List.map strOfV
                                                                (List.take (dN s * 1)
                                                                  (List.drop 0 (shiftL 3 (strs (dL s))))))
                                                              (dF s) (dU s) (dCa s) ==
                                                            s))
                                                    else R (V.bool false)
                                                  else R (V.bool false)
                                                else False
                                              else False
                                    else False
                                  else
                                    bif
                                        (0 +
                                                  dN
                                                      (encB (k) (g) (List.map strOfV cs) f u
                                                        ca) *
                                                    1).ble
                                              (shiftL 2
                                                  (strs
                                                    (dL
                                                      (encB (k) (g) (List.map strOfV cs) f u
                                                        ca)))).length &&
                                            ((List.take
                                                    (dN
                                                        (encB (k) (g) (List.map strOfV cs) f u
                                                          ca) *
                                                      1)
                                                    (List.drop 0
                                                      (shiftL 2
                                                        (strs
                                                          (dL
                                                            (encB (k) (g) (List.map strOfV cs)
                                                              f u ca)))))).all
                                                isStrV &&
                                              (List.take
                                                      (dN
                                                          (encB (k) (g) (List.map strOfV cs) f
                                                            u ca) *
                                                        1)
                                                      (List.drop 0
                                                        (shiftL 2
                                                          (strs
                                                            (dL
                                                              (encB (k) (g)
                                                                (List.map strOfV cs) f u ca)))))).length.beq
                                                (dN
                                                  (encB (k) (g) (List.map strOfV cs) f u
                                                    ca))) &&
                                          (cs.length.beq (n * 1) && (cs.all isStrV && cs.length.beq n) &&
                                            ((List.map strOfV
                                                      (List.take
                                                        (dN
                                                            (encB (k) (g) (List.map strOfV cs)
                                                              f u ca) *
                                                          1)
                                                        (List.drop 0
                                                          (shiftL 2
                                                            (strs
                                                              (dL
                                                                (encB (k) (g)
                                                                  (List.map strOfV cs) f u ca))))))).length.ble
                                                9223372036854775807 &&
                                              (List.map strOfV cs).length.ble 9223372036854775807)) then
                                      bif
                                          !sameC
                                              ((dK
                                                    (encB (k) (g) (List.map strOfV cs) f u
                                                      ca)))
                                              ((dG
                                                    (encB (k) (g) (List.map strOfV cs) f u
                                                      ca)))
                                              (List.map strOfV
                                                (List.take
                                                  (dN
                                                      (encB (k) (g) (List.map strOfV cs) f u
                                                        ca) *
                                                    1)
                                                  (List.drop 0
                                                    (shiftL 2
                                                      (strs
                                                        (dL
                                                          (encB (k) (g) (List.map strOfV cs) f
                                                            u ca)))))))
                                              (dF (encB (k) (g) (List.map strOfV cs) f u ca))
                                              (dU (encB (k) (g) (List.map strOfV cs) f u ca))
                                              (dCa (encB (k) (g) (List.map strOfV cs) f u ca))
                                              (k) (g) (List.map strOfV cs) f u ca then
                                        R (V.bool false)
                                      else
                                        bif
                                            encE (k') (g') (List.map strOfV ds) f' u' ca' ==
                                              0 then
                                          bif
                                              cs.length.beq (n * 1) && (cs.all isStrV && cs.length.beq n) &&
                                                (ds.length.beq (m * 1) && (ds.all isStrV && ds.length.beq m) &&
                                                  ((List.map strOfV cs).length.ble 9223372036854775807 &&
                                                    (List.map strOfV ds).length.ble 9223372036854775807)) then
                                            bif
                                                !(encB (k) (g) (List.map strOfV cs) f u ca ==
                                                      encB (k') (g') (List.map strOfV ds) f'
                                                        u' ca') ==
                                                    sameC (k) (g) (List.map strOfV cs) f u ca
                                                      (k') (g') (List.map strOfV ds) f' u'
                                                      ca' then
                                              R (V.bool false)
                                            else
                                              bif decE s != 0 then
                                                bif decE s != 0 then R (V.bool true) else R (V.bool false)
                                              else
                                                bif (dN s).beq 0 then
                                                  bif
                                                      mayC ((dK s)) ((dG s)) (dF s) (dU s) &&
                                                        true then
                                                    bif
                                                        encE ((dK s)) ((dG s)) [] (dF s)
                                                            (dU s) (dCa s) ==
                                                          0 then
                                                      R
                                                        (V.bool
                                                          (encB ((dK s)) ((dG s)) [] (dF s)
                                                              (dU s) (dCa s) ==
                                                            s))
                                                    else R (V.bool false)
                                                  else R (V.bool false)
                                                else
                                                  bif
                                                      (0 + dN s * 1).ble (shiftL 4 (strs (dL s))).length &&
                                                          ((List.take (dN s * 1) (List.drop 0 (shiftL 4 (strs (dL s))))).all
                                                              isStrV &&
                                                            (List.take (dN s * 1)
                                                                    (List.drop 0 (shiftL 4 (strs (dL s))))).length.beq
                                                              (dN s)) &&
                                                        (List.map strOfV
                                                                (List.take (dN s * 1)
                                                                  (List.drop 0 (shiftL 4 (strs (dL s)))))).length.ble
                                                          9223372036854775807 then
                                                    bif
                                                        (0 + dN s * 1).ble (shiftL 4 (strs (dL s))).length &&
                                                            ((List.take (dN s * 1)
                                                                    (List.drop 0 (shiftL 4 (strs (dL s))))).all
                                                                isStrV &&
                                                              (List.take (dN s * 1)
                                                                      (List.drop 0 (shiftL 4 (strs (dL s))))).length.beq
                                                                (dN s)) &&
                                                          (List.map strOfV
                                                                  (List.take (dN s * 1)
                                                                    (List.drop 0 (shiftL 4 (strs (dL s)))))).length.ble
                                                            9223372036854775807 then
                                                      bif
                                                          mayC ((dK s)) ((dG s)) (dF s)
                                                              (dU s) &&
                                                            (List.map strOfV
                                                                  (List.take (dN s * 1)
                                                                    (List.drop 0 (shiftL 4 (strs (dL s)))))).all
                                                              patN then
                                                        bif
                                                            encE ((dK s)) ((dG s))
                                                                (List.map strOfV
                                                                  (List.take (dN s * 1)
                                                                    (List.drop 0 (shiftL 4 (strs (dL s))))))
                                                                (dF s) (dU s) (dCa s) ==
                                                              0 then
                                                          R
                                                            (V.bool
                                                              (encB ((dK s)) ((dG s))
                                                                  (List.map strOfV
                                                                    (List.take (dN s * 1)
                                                                      (List.drop 0 (shiftL 4 (strs (dL s))))))
                                                                  (dF s) (dU s) (dCa s) ==
                                                                s))
                                                        else R (V.bool false)
                                                      else R (V.bool false)
                                                    else False
                                                  else False
                                          else False
                                        else
                                          bif decE s != 0 then bif decE s != 0 then R (V.bool true) else R (V.bool false)
                                          else
                                            bif (dN s).beq 0 then
                                              bif
                                                  mayC ((dK s)) ((dG s)) (dF s) (dU s) &&
                                                    true then
                                                bif
                                                    encE ((dK s)) ((dG s)) [] (dF s) (dU s)
                                                        (dCa s) ==
                                                      0 then
                                                  R
                                                    (V.bool
                                                      (encB ((dK s)) ((dG s)) [] (dF s) (dU s)
                                                          (dCa s) ==
                                                        s))
                                                else R (V.bool false)
                                              else R (V.bool false)
                                            else
                                              bif
                                                  (0 + dN s * 1).ble (shiftL 4 (strs (dL s))).length &&
                                                      ((List.take (dN s * 1) (List.drop 0 (shiftL 4 (strs (dL s))))).all
                                                          isStrV &&
                                                        (List.take (dN s * 1)
                                                                (List.drop 0 (shiftL 4 (strs (dL s))))).length.beq
                                                          (dN s)) &&
                                                    (List.map strOfV
                                                            (List.take (dN s * 1)
                                                              (List.drop 0 (shiftL 4 (strs (dL s)))))).length.ble
                                                      9223372036854775807 then
                                                bif
                                                    (0 + dN s * 1).ble (shiftL 4 (strs (dL s))).length &&
                                                        ((List.take (dN s * 1) (List.drop 0 (shiftL 4 (strs (dL s))))).all
                                                            isStrV &&
                                                          (List.take (dN s * 1)
                                                                  (List.drop 0 (shiftL 4 (strs (dL s))))).length.beq
                                                            (dN s)) &&
                                                      (List.map strOfV
                                                              (List.take (dN s * 1)
                                                                (List.drop 0 (shiftL 4 (strs (dL s)))))).length.ble
                                                        9223372036854775807 then
                                                  bif
                                                      mayC ((dK s)) ((dG s)) (dF s) (dU s) &&
                                                        (List.map strOfV
                                                              (List.take (dN s * 1)
                                                                (List.drop 0 (shiftL 4 (strs (dL s)))))).all
                                                          patN then
                                                    bif
                                                        encE ((dK s)) ((dG s))
                                                            (List.map strOfV
                                                              (List.take (dN s * 1) (List.drop 0 (shiftL 4 (strs (dL s))))))
                                                            (dF s) (dU s) (dCa s) ==
                                                          0 then
                                                      R
                                                        (V.bool
                                                          (encB ((dK s)) ((dG s))
                                                              (List.map strOfV
                                                                (List.take (dN s * 1)
                                                                  (List.drop 0 (shiftL 4 (strs (dL s))))))
                                                              (dF s) (dU s) (dCa s) ==
                                                            s))
                                                    else R (V.bool false)
                                                  else R (V.bool false)
                                                else False
                                              else False
                                    else False
                              else
                                bif decE s != 0 then bif decE s != 0 then R (V.bool true) else R (V.bool false)
                                else
                                  bif (dN s).beq 0 then
                                    bif mayC ((dK s)) ((dG s)) (dF s) (dU s) && true then
                                      bif
                                          encE ((dK s)) ((dG s)) [] (dF s) (dU s) (dCa s) ==
                                            0 then
                                        R
                                          (V.bool
                                            (encB ((dK s)) ((dG s)) [] (dF s) (dU s)
                                                (dCa s) ==
                                              s))
                                      else R (V.bool false)
                                    else R (V.bool false)
                                  else
                                    bif
                                        (0 + dN s * 1).ble (shiftL 2 (strs (dL s))).length &&
                                            ((List.take (dN s * 1) (List.drop 0 (shiftL 2 (strs (dL s))))).all isStrV &&
                                              (List.take (dN s * 1) (List.drop 0 (shiftL 2 (strs (dL s))))).length.beq
                                                (dN s)) &&
                                          (List.map strOfV
                                                  (List.take (dN s * 1) (List.drop 0 (shiftL 2 (strs (dL s)))))).length.ble
                                            9223372036854775807 then
                                      bif
                                          (0 + dN s * 1).ble (shiftL 2 (strs (dL s))).length &&
                                              ((List.take (dN s * 1) (List.drop 0 (shiftL 2 (strs (dL s))))).all isStrV &&
                                                (List.take (dN s * 1) (List.drop 0 (shiftL 2 (strs (dL s))))).length.beq
                                                  (dN s)) &&
                                            (List.map strOfV
                                                    (List.take (dN s * 1)
                                                      (List.drop 0 (shiftL 2 (strs (dL s)))))).length.ble
                                              9223372036854775807 then
                                        bif
                                            mayC ((dK s)) ((dG s)) (dF s) (dU s) &&
                                              (List.map strOfV
                                                    (List.take (dN s * 1) (List.drop 0 (shiftL 2 (strs (dL s)))))).all
                                                patN then
                                          bif
                                              encE ((dK s)) ((dG s))
                                                  (List.map strOfV
                                                    (List.take (dN s * 1) (List.drop 0 (shiftL 2 (strs (dL s))))))
                                                  (dF s) (dU s) (dCa s) ==
                                                0 then
                                            R
                                              (V.bool
                                                (encB ((dK s)) ((dG s))
                                                    (List.map strOfV
                                                      (List.take (dN s * 1) (List.drop 0 (shiftL 2 (strs (dL s))))))
                                                    (dF s) (dU s) (dCa s) ==
                                                  s))
                                          else R (V.bool false)
                                        else R (V.bool false)
                                      else False
                                    else False
                        else
                          bif
                              decide
                                ((↑(encB (k) (g) (List.map strOfV cs) f u ca).length : Int) >
                                  512) then
                            R (V.bool false)
                          else
                            bif encE (k) (g) (List.map strOfV cs) f u ca == 0 then
                              bif decE (encB (k) (g) (List.map strOfV cs) f u ca) != 0 then
                                bif decE (encB (k) (g) (List.map strOfV cs) f u ca) != 0 then
                                  R (V.bool false)
                                else
                                  bif
                                      true &&
                                        (cs.length.beq (n * 1) && (cs.all isStrV && cs.length.beq n) &&
                                          (true && (List.map strOfV cs).length.ble 9223372036854775807)) then
                                    bif
                                        !sameC [] [] [] 0 0 false (k) (g) (List.map strOfV cs)
                                            f u ca then
                                      R (V.bool false)
                                    else
                                      bif
                                          encE (k') (g') (List.map strOfV ds) f' u' ca' ==
                                            0 then
                                        bif
                                            cs.length.beq (n * 1) && (cs.all isStrV && cs.length.beq n) &&
                                              (ds.length.beq (m * 1) && (ds.all isStrV && ds.length.beq m) &&
                                                ((List.map strOfV cs).length.ble 9223372036854775807 &&
                                                  (List.map strOfV ds).length.ble 9223372036854775807)) then
                                          bif
                                              !(encB (k) (g) (List.map strOfV cs) f u ca ==
                                                    encB (k') (g') (List.map strOfV ds) f' u'
                                                      ca') ==
                                                  sameC (k) (g) (List.map strOfV cs) f u ca
                                                    (k') (g') (List.map strOfV ds) f' u'
                                                    ca' then
                                            R (V.bool false)
                                          else
                                            bif decE s != 0 then bif decE s != 0 then R (V.bool true) else R (V.bool false)
                                            else
                                              bif (dN s).beq 0 then
                                                bif
                                                    mayC ((dK s)) ((dG s)) (dF s) (dU s) &&
                                                      true then
                                                  bif
                                                      encE ((dK s)) ((dG s)) [] (dF s) (dU s)
                                                          (dCa s) ==
                                                        0 then
                                                    R
                                                      (V.bool
                                                        (encB ((dK s)) ((dG s)) [] (dF s)
                                                            (dU s) (dCa s) ==
                                                          s))
                                                  else R (V.bool false)
                                                else R (V.bool false)
                                              else
                                                bif
                                                    (0 + dN s * 1).ble (shiftL 3 (strs (dL s))).length &&
                                                        ((List.take (dN s * 1) (List.drop 0 (shiftL 3 (strs (dL s))))).all
                                                            isStrV &&
                                                          (List.take (dN s * 1)
                                                                  (List.drop 0 (shiftL 3 (strs (dL s))))).length.beq
                                                            (dN s)) &&
                                                      (List.map strOfV
                                                              (List.take (dN s * 1)
                                                                (List.drop 0 (shiftL 3 (strs (dL s)))))).length.ble
                                                        9223372036854775807 then
                                                  bif
                                                      (0 + dN s * 1).ble (shiftL 3 (strs (dL s))).length &&
                                                          ((List.take (dN s * 1) (List.drop 0 (shiftL 3 (strs (dL s))))).all
                                                              isStrV &&
                                                            (List.take (dN s * 1)
                                                                    (List.drop 0 (shiftL 3 (strs (dL s))))).length.beq
                                                              (dN s)) &&
                                                        (List.map strOfV
                                                                (List.take (dN s * 1)
                                                                  (List.drop 0 (shiftL 3 (strs (dL s)))))).length.ble
                                                          9223372036854775807 then
                                                    bif
                                                        mayC ((dK s)) ((dG s)) (dF s)
                                                            (dU s) &&
                                                          (List.map strOfV
                                                                (List.take (dN s * 1)
                                                                  (List.drop 0 (shiftL 3 (strs (dL s)))))).all
                                                            patN then
                                                      bif
                                                          encE ((dK s)) ((dG s))
                                                              (List.map strOfV
                                                                (List.take (dN s * 1)
                                                                  (List.drop 0 (shiftL 3 (strs (dL s))))))
                                                              (dF s) (dU s) (dCa s) ==
                                                            0 then
                                                        R
                                                          (V.bool
                                                            (encB ((dK s)) ((dG s))
                                                                (List.map strOfV
                                                                  (List.take (dN s * 1)
                                                                    (List.drop 0 (shiftL 3 (strs (dL s))))))
                                                                (dF s) (dU s) (dCa s) ==
                                                              s))
                                                      else R (V.bool false)
                                                    else R (V.bool false)
                                                  else False
                                                else False
                                        else False
                                      else
                                        bif decE s != 0 then bif decE s != 0 then R (V.bool true) else R (V.bool false)
                                        else
                                          bif (dN s).beq 0 then
                                            bif
                                                mayC ((dK s)) ((dG s)) (dF s) (dU s) &&
                                                  true then
                                              bif
                                                  encE ((dK s)) ((dG s)) [] (dF s) (dU s)
                                                      (dCa s) ==
                                                    0 then
                                                R
                                                  (V.bool
                                                    (encB ((dK s)) ((dG s)) [] (dF s) (dU s)
                                                        (dCa s) ==
                                                      s))
                                              else R (V.bool false)
                                            else R (V.bool false)
                                          else
                                            bif
                                                (0 + dN s * 1).ble (shiftL 3 (strs (dL s))).length &&
                                                    ((List.take (dN s * 1) (List.drop 0 (shiftL 3 (strs (dL s))))).all
                                                        isStrV &&
                                                      (List.take (dN s * 1)
                                                              (List.drop 0 (shiftL 3 (strs (dL s))))).length.beq
                                                        (dN s)) &&
                                                  (List.map strOfV
                                                          (List.take (dN s * 1)
                                                            (List.drop 0 (shiftL 3 (strs (dL s)))))).length.ble
                                                    9223372036854775807 then
                                              bif
                                                  (0 + dN s * 1).ble (shiftL 3 (strs (dL s))).length &&
                                                      ((List.take (dN s * 1) (List.drop 0 (shiftL 3 (strs (dL s))))).all
                                                          isStrV &&
                                                        (List.take (dN s * 1)
                                                                (List.drop 0 (shiftL 3 (strs (dL s))))).length.beq
                                                          (dN s)) &&
                                                    (List.map strOfV
                                                            (List.take (dN s * 1)
                                                              (List.drop 0 (shiftL 3 (strs (dL s)))))).length.ble
                                                      9223372036854775807 then
                                                bif
                                                    mayC ((dK s)) ((dG s)) (dF s) (dU s) &&
                                                      (List.map strOfV
                                                            (List.take (dN s * 1)
                                                              (List.drop 0 (shiftL 3 (strs (dL s)))))).all
                                                        patN then
                                                  bif
                                                      encE ((dK s)) ((dG s))
                                                          (List.map strOfV
                                                            (List.take (dN s * 1) (List.drop 0 (shiftL 3 (strs (dL s))))))
                                                          (dF s) (dU s) (dCa s) ==
                                                        0 then
                                                    R
                                                      (V.bool
                                                        (encB ((dK s)) ((dG s))
                                                            (List.map strOfV
                                                              (List.take (dN s * 1) (List.drop 0 (shiftL 3 (strs (dL s))))))
                                                            (dF s) (dU s) (dCa s) ==
                                                          s))
                                                  else R (V.bool false)
                                                else R (V.bool false)
                                              else False
                                            else False
                                  else False
                              else
                                bif (dN (encB (k) (g) (List.map strOfV cs) f u ca)).beq 0 then
                                  bif
                                      true &&
                                        (cs.length.beq (n * 1) && (cs.all isStrV && cs.length.beq n) &&
                                          (true && (List.map strOfV cs).length.ble 9223372036854775807)) then
                                    bif
                                        !sameC
                                            ((dK
                                                  (encB (k) (g) (List.map strOfV cs) f u
                                                    ca)))
                                            ((dG
                                                  (encB (k) (g) (List.map strOfV cs) f u
                                                    ca)))
                                            [] (dF (encB (k) (g) (List.map strOfV cs) f u ca))
                                            (dU (encB (k) (g) (List.map strOfV cs) f u ca))
                                            (dCa (encB (k) (g) (List.map strOfV cs) f u ca))
                                            (k) (g) (List.map strOfV cs) f u ca then
                                      R (V.bool false)
                                    else
                                      bif
                                          encE (k') (g') (List.map strOfV ds) f' u' ca' ==
                                            0 then
                                        bif
                                            cs.length.beq (n * 1) && (cs.all isStrV && cs.length.beq n) &&
                                              (ds.length.beq (m * 1) && (ds.all isStrV && ds.length.beq m) &&
                                                ((List.map strOfV cs).length.ble 9223372036854775807 &&
                                                  (List.map strOfV ds).length.ble 9223372036854775807)) then
                                          bif
                                              !(encB (k) (g) (List.map strOfV cs) f u ca ==
                                                    encB (k') (g') (List.map strOfV ds) f' u'
                                                      ca') ==
                                                  sameC (k) (g) (List.map strOfV cs) f u ca
                                                    (k') (g') (List.map strOfV ds) f' u'
                                                    ca' then
                                            R (V.bool false)
                                          else
                                            bif decE s != 0 then bif decE s != 0 then R (V.bool true) else R (V.bool false)
                                            else
                                              bif (dN s).beq 0 then
                                                bif
                                                    mayC ((dK s)) ((dG s)) (dF s) (dU s) &&
                                                      true then
                                                  bif
                                                      encE ((dK s)) ((dG s)) [] (dF s) (dU s)
                                                          (dCa s) ==
                                                        0 then
                                                    R
                                                      (V.bool
                                                        (encB ((dK s)) ((dG s)) [] (dF s)
                                                            (dU s) (dCa s) ==
                                                          s))
                                                  else R (V.bool false)
                                                else R (V.bool false)
                                              else
                                                bif
                                                    (0 + dN s * 1).ble (shiftL 3 (strs (dL s))).length &&
                                                        ((List.take (dN s * 1) (List.drop 0 (shiftL 3 (strs (dL s))))).all
                                                            isStrV &&
                                                          (List.take (dN s * 1)
                                                                  (List.drop 0 (shiftL 3 (strs (dL s))))).length.beq
                                                            (dN s)) &&
                                                      (List.map strOfV
                                                              (List.take (dN s * 1)
                                                                (List.drop 0 (shiftL 3 (strs (dL s)))))).length.ble
                                                        9223372036854775807 then
                                                  bif
                                                      (0 + dN s * 1).ble (shiftL 3 (strs (dL s))).length &&
                                                          ((List.take (dN s * 1) (List.drop 0 (shiftL 3 (strs (dL s))))).all
                                                              isStrV &&
                                                            (List.take (dN s * 1)
                                                                    (List.drop 0 (shiftL 3 (strs (dL s))))).length.beq
                                                              (dN s)) &&
                                                        (List.map strOfV
                                                                (List.take (dN s * 1)
                                                                  (List.drop 0 (shiftL 3 (strs (dL s)))))).length.ble
                                                          9223372036854775807 then
                                                    bif
                                                        mayC ((dK s)) ((dG s)) (dF s)
                                                            (dU s) &&
                                                          (List.map strOfV
                                                                (List.take (dN s * 1)
                                                                  (List.drop 0 (shiftL 3 (strs (dL s)))))).all
                                                            patN then
                                                      bif
                                                          encE ((dK s)) ((dG s))
                                                              (List.map strOfV
                                                                (List.take (dN s * 1)
                                                                  (List.drop 0 (shiftL 3 (strs (dL s))))))
                                                              (dF s) (dU s) (dCa s) ==
                                                            0 then
                                                        R
                                                          (V.bool
                                                            (encB ((dK s)) ((dG s))
                                                                (List.map strOfV
                                                                  (List.take (dN s * 1)
                                                                    (List.drop 0 (shiftL 3 (strs (dL s))))))
                                                                (dF s) (dU s) (dCa s) ==
                                                              s))
                                                      else R (V.bool false)
                                                    else R (V.bool false)
                                                  else False
                                                else False
                                        else False
                                      else
                                        bif decE s != 0 then bif decE s != 0 then R (V.bool true) else R (V.bool false)
                                        else
                                          bif (dN s).beq 0 then
                                            bif
                                                mayC ((dK s)) ((dG s)) (dF s) (dU s) &&
                                                  true then
                                              bif
                                                  encE ((dK s)) ((dG s)) [] (dF s) (dU s)
                                                      (dCa s) ==
                                                    0 then
                                                R
                                                  (V.bool
                                                    (encB ((dK s)) ((dG s)) [] (dF s) (dU s)
                                                        (dCa s) ==
                                                      s))
                                              else R (V.bool false)
                                            else R (V.bool false)
                                          else
                                            bif
                                                (0 + dN s * 1).ble (shiftL 3 (strs (dL s))).length &&
                                                    ((List.take (dN s * 1) (List.drop 0 (shiftL 3 (strs (dL s))))).all
                                                        isStrV &&
                                                      (List.take (dN s * 1)
                                                              (List.drop 0 (shiftL 3 (strs (dL s))))).length.beq
                                                        (dN s)) &&
                                                  (List.map strOfV
                                                          (List.take (dN s * 1)
                                                            (List.drop 0 (shiftL 3 (strs (dL s)))))).length.ble
                                                    9223372036854775807 then
                                              bif
                                                  (0 + dN s * 1).ble (shiftL 3 (strs (dL s))).length &&
                                                      ((List.take (dN s * 1) (List.drop 0 (shiftL 3 (strs (dL s))))).all
                                                          isStrV &&
                                                        (List.take (dN s * 1)
                                                                (List.drop 0 (shiftL 3 (strs (dL s))))).length.beq
                                                          (dN s)) &&
                                                    (List.map strOfV
                                                            (List.take (dN s * 1)
                                                              (List.drop 0 (shiftL 3 (strs (dL s)))))).length.ble
                                                      9223372036854775807 then
                                                bif
                                                    mayC ((dK s)) ((dG s)) (dF s) (dU s) &&
                                                      (List.map strOfV
                                                            (List.take (dN s * 1)
                                                              (List.drop 0 (shiftL 3 (strs (dL s)))))).all
                                                        patN then
                                                  bif
                                                      encE ((dK s)) ((dG s))
                                                          (List.map strOfV
                                                            (List.take (dN s * 1) (List.drop 0 (shiftL 3 (strs (dL s))))))
                                                          (dF s) (dU s) (dCa s) ==
                                                        0 then
                                                    R
                                                      (V.bool
                                                        (encB ((dK s)) ((dG s))
                                                            (List.map strOfV
                                                              (List.take (dN s * 1) (List.drop 0 (shiftL 3 (strs (dL s))))))
                                                            (dF s) (dU s) (dCa s) ==
                                                          s))
                                                  else R (V.bool false)
                                                else R (V.bool false)
                                              else False
                                            else False
                                  else False
                                else
                                  bif
                                      (0 +
                                                dN
                                                    (encB (k) (g) (List.map strOfV cs) f u
                                                      ca) *
                                                  1).ble
                                            (shiftL 2
                                                (strs
                                                  (dL
                                                    (encB (k) (g) (List.map strOfV cs) f u
                                                      ca)))).length &&
                                          ((List.take
                                                  (dN
                                                      (encB (k) (g) (List.map strOfV cs) f u
                                                        ca) *
                                                    1)
                                                  (List.drop 0
                                                    (shiftL 2
                                                      (strs
                                                        (dL
                                                          (encB (k) (g) (List.map strOfV cs) f
                                                            u ca)))))).all
                                              isStrV &&
                                            (List.take
                                                    (dN
                                                        (encB (k) (g) (List.map strOfV cs) f u
                                                          ca) *
                                                      1)
                                                    (List.drop 0
                                                      (shiftL 2
                                                        (strs
                                                          (dL
                                                            (encB (k) (g) (List.map strOfV cs)
                                                              f u ca)))))).length.beq
                                              (dN
                                                (encB (k) (g) (List.map strOfV cs) f u
                                                  ca))) &&
                                        (cs.length.beq (n * 1) && (cs.all isStrV && cs.length.beq n) &&
                                          ((List.map strOfV
                                                    (List.take
                                                      (dN
                                                          (encB (k) (g) (List.map strOfV cs) f
                                                            u ca) *
                                                        1)
                                                      (List.drop 0
                                                        (shiftL 2
                                                          (strs
                                                            (dL
                                                              (encB (k) (g)
                                                                (List.map strOfV cs) f u ca))))))).length.ble
                                              9223372036854775807 &&
                                            (List.map strOfV cs).length.ble 9223372036854775807)) then
                                    bif
                                        !sameC
                                            ((dK
                                                  (encB (k) (g) (List.map strOfV cs) f u
                                                    ca)))
                                            ((dG
                                                  (encB (k) (g) (List.map strOfV cs) f u
                                                    ca)))
                                            (List.map strOfV
                                              (List.take
                                                (dN
                                                    (encB (k) (g) (List.map strOfV cs) f u
                                                      ca) *
                                                  1)
                                                (List.drop 0
                                                  (shiftL 2
                                                    (strs
                                                      (dL
                                                        (encB (k) (g) (List.map strOfV cs) f u
                                                          ca)))))))
                                            (dF (encB (k) (g) (List.map strOfV cs) f u ca))
                                            (dU (encB (k) (g) (List.map strOfV cs) f u ca))
                                            (dCa (encB (k) (g) (List.map strOfV cs) f u ca))
                                            (k) (g) (List.map strOfV cs) f u ca then
                                      R (V.bool false)
                                    else
                                      bif
                                          encE (k') (g') (List.map strOfV ds) f' u' ca' ==
                                            0 then
                                        bif
                                            cs.length.beq (n * 1) && (cs.all isStrV && cs.length.beq n) &&
                                              (ds.length.beq (m * 1) && (ds.all isStrV && ds.length.beq m) &&
                                                ((List.map strOfV cs).length.ble 9223372036854775807 &&
                                                  (List.map strOfV ds).length.ble 9223372036854775807)) then
                                          bif
                                              !(encB (k) (g) (List.map strOfV cs) f u ca ==
                                                    encB (k') (g') (List.map strOfV ds) f' u'
                                                      ca') ==
                                                  sameC (k) (g) (List.map strOfV cs) f u ca
                                                    (k') (g') (List.map strOfV ds) f' u'
                                                    ca' then
                                            R (V.bool false)
                                          else
                                            bif decE s != 0 then bif decE s != 0 then R (V.bool true) else R (V.bool false)
                                            else
                                              bif (dN s).beq 0 then
                                                bif
                                                    mayC ((dK s)) ((dG s)) (dF s) (dU s) &&
                                                      true then
                                                  bif
                                                      encE ((dK s)) ((dG s)) [] (dF s) (dU s)
                                                          (dCa s) ==
                                                        0 then
                                                    R
                                                      (V.bool
                                                        (encB ((dK s)) ((dG s)) [] (dF s)
                                                            (dU s) (dCa s) ==
                                                          s))
                                                  else R (V.bool false)
                                                else R (V.bool false)
                                              else
                                                bif
                                                    (0 + dN s * 1).ble (shiftL 4 (strs (dL s))).length &&
                                                        ((List.take (dN s * 1) (List.drop 0 (shiftL 4 (strs (dL s))))).all
                                                            isStrV &&
                                                          (List.take (dN s * 1)
                                                                  (List.drop 0 (shiftL 4 (strs (dL s))))).length.beq
                                                            (dN s)) &&
                                                      (List.map strOfV
                                                              (List.take (dN s * 1)
                                                                (List.drop 0 (shiftL 4 (strs (dL s)))))).length.ble
                                                        9223372036854775807 then
                                                  bif
                                                      (0 + dN s * 1).ble (shiftL 4 (strs (dL s))).length &&
                                                          ((List.take (dN s * 1) (List.drop 0 (shiftL 4 (strs (dL s))))).all
                                                              isStrV &&
                                                            (List.take (dN s * 1)
                                                                    (List.drop 0 (shiftL 4 (strs (dL s))))).length.beq
                                                              (dN s)) &&
                                                        (List.map strOfV
                                                                (List.take (dN s * 1)
                                                                  (List.drop 0 (shiftL 4 (strs (dL s)))))).length.ble
                                                          9223372036854775807 then
                                                    bif
                                                        mayC ((dK s)) ((dG s)) (dF s)
                                                            (dU s) &&
                                                          (List.map strOfV
                                                                (List.take (dN s * 1)
                                                                  (List.drop 0 (shiftL 4 (strs (dL s)))))).all
                                                            patN then
                                                      bif
                                                          encE ((dK s)) ((dG s))
                                                              (List.map strOfV
                                                                (List.take (dN s * 1)
                                                                  (List.drop 0 (shiftL 4 (strs (dL s))))))
                                                              (dF s) (dU s) (dCa s) ==
                                                            0 then
                                                        R
                                                          (V.bool
                                                            (encB ((dK s)) ((dG s))
                                                                (List.map strOfV
                                                                  (List.take (dN s * 1)
                                                                    (List.drop 0 (shiftL 4 (strs (dL s))))))
                                                                (dF s) (dU s) (dCa s) ==
                                                              s))
                                                      else R (V.bool false)
                                                    else R (V.bool false)
                                                  else False
                                                else False
                                        else False
                                      else
                                        bif decE s != 0 then bif decE s != 0 then R (V.bool true) else R (V.bool false)
                                        else
                                          bif (dN s).beq 0 then
                                            bif
                                                mayC ((dK s)) ((dG s)) (dF s) (dU s) &&
                                                  true then
                                              bif
                                                  encE ((dK s)) ((dG s)) [] (dF s) (dU s)
                                                      (dCa s) ==
                                                    0 then
                                                R
                                                  (V.bool
                                                    (encB ((dK s)) ((dG s)) [] (dF s) (dU s)
                                                        (dCa s) ==
                                                      s))
                                              else R (V.bool false)
                                            else R (V.bool false)
                                          else
                                            bif
                                                (0 + dN s * 1).ble (shiftL 4 (strs (dL s))).length &&
                                                    ((List.take (dN s * 1) (List.drop 0 (shiftL 4 (strs (dL s))))).all
                                                        isStrV &&
                                                      (List.take (dN s * 1)
                                                              (List.drop 0 (shiftL 4 (strs (dL s))))).length.beq
                                                        (dN s)) &&
                                                  (List.map strOfV
                                                          (List.take (dN s * 1)
                                                            (List.drop 0 (shiftL 4 (strs (dL s)))))).length.ble
                                                    9223372036854775807 then
                                              bif
                                                  (0 + dN s * 1).ble (shiftL 4 (strs (dL s))).length &&
                                                      ((List.take (dN s * 1) (List.drop 0 (shiftL 4 (strs (dL s))))).all
                                                          isStrV &&
                                                        (List.take (dN s * 1)
                                                                (List.drop 0 (shiftL 4 (strs (dL s))))).length.beq
                                                          (dN s)) &&
                                                    (List.map strOfV
                                                            (List.take (dN s * 1)
                                                              (List.drop 0 (shiftL 4 (strs (dL s)))))).length.ble
                                                      9223372036854775807 then
                                                bif
                                                    mayC ((dK s)) ((dG s)) (dF s) (dU s) &&
                                                      (List.map strOfV
                                                            (List.take (dN s * 1)
                                                              (List.drop 0 (shiftL 4 (strs (dL s)))))).all
                                                        patN then
                                                  bif
                                                      encE ((dK s)) ((dG s))
                                                          (List.map strOfV
                                                            (List.take (dN s * 1) (List.drop 0 (shiftL 4 (strs (dL s))))))
                                                          (dF s) (dU s) (dCa s) ==
                                                        0 then
                                                    R
                                                      (V.bool
                                                        (encB ((dK s)) ((dG s))
                                                            (List.map strOfV
                                                              (List.take (dN s * 1) (List.drop 0 (shiftL 4 (strs (dL s))))))
                                                            (dF s) (dU s) (dCa s) ==
                                                          s))
                                                  else R (V.bool false)
                                                else R (V.bool false)
                                              else False
                                            else False
                                  else False
                            else
                              bif decE s != 0 then bif decE s != 0 then R (V.bool true) else R (V.bool false)
                              else
                                bif (dN s).beq 0 then
                                  bif mayC ((dK s)) ((dG s)) (dF s) (dU s) && true then
                                    bif
                                        encE ((dK s)) ((dG s)) [] (dF s) (dU s) (dCa s) ==
                                          0 then
                                      R
                                        (V.bool
                                          (encB ((dK s)) ((dG s)) [] (dF s) (dU s) (dCa s) ==
                                            s))
                                    else R (V.bool false)
                                  else R (V.bool false)
                                else
                                  bif
                                      (0 + dN s * 1).ble (shiftL 2 (strs (dL s))).length &&
                                          ((List.take (dN s * 1) (List.drop 0 (shiftL 2 (strs (dL s))))).all isStrV &&
                                            (List.take (dN s * 1) (List.drop 0 (shiftL 2 (strs (dL s))))).length.beq
                                              (dN s)) &&
                                        (List.map strOfV
                                                (List.take (dN s * 1) (List.drop 0 (shiftL 2 (strs (dL s)))))).length.ble
                                          9223372036854775807 then
                                    bif
                                        (0 + dN s * 1).ble (shiftL 2 (strs (dL s))).length &&
                                            ((List.take (dN s * 1) (List.drop 0 (shiftL 2 (strs (dL s))))).all isStrV &&
                                              (List.take (dN s * 1) (List.drop 0 (shiftL 2 (strs (dL s))))).length.beq
                                                (dN s)) &&
                                          (List.map strOfV
                                                  (List.take (dN s * 1) (List.drop 0 (shiftL 2 (strs (dL s)))))).length.ble
                                            9223372036854775807 then
                                      bif
                                          mayC ((dK s)) ((dG s)) (dF s) (dU s) &&
                                            (List.map strOfV
                                                  (List.take (dN s * 1) (List.drop 0 (shiftL 2 (strs (dL s)))))).all
                                              patN then
                                        bif
                                            encE ((dK s)) ((dG s))
                                                (List.map strOfV
                                                  (List.take (dN s * 1) (List.drop 0 (shiftL 2 (strs (dL s))))))
                                                (dF s) (dU s) (dCa s) ==
                                              0 then
                                          R
                                            (V.bool
                                              (encB ((dK s)) ((dG s))
                                                  (List.map strOfV
                                                    (List.take (dN s * 1) (List.drop 0 (shiftL 2 (strs (dL s))))))
                                                  (dF s) (dU s) (dCa s) ==
                                                s))
                                        else R (V.bool false)
                                      else R (V.bool false)
                                    else False
                                  else False
                  else False
                else False
              else False
        else False
    else False) := by kernel_rfl
end Go.Proofs.Ytpjopdemhkcifaa
