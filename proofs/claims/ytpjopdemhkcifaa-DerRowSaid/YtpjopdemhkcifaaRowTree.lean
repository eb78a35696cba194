/- DerRow: the tree of the law. -/
import Derived.Test.YtpjopdemhkcifaaRowLaw
namespace Go.Proofs.Ytpjopdemhkcifaa
open Go Go.Vm Go.RowKit
set_option linter.unusedVariables false
def rwDec : List (Option V) → St → Option RW
  | [some (.slice 0 _ n false 0 0), some (.int .i64 at_), some (.bool false), some (.str []), some .nilSlice, some (.int .i64 0)], .ro false la :: _ => some ⟨la, n, at_, [], [], 0⟩
  | _, _ => none
def enDec : List (Option V) → St → Option EN
  | [some (.int .i64 at_), some (.bool false), some (.str s), some (.slice 1 _ _ false 0 0), some (.bool w), some (.int .i64 0)], .ro false la :: .row o _ _ :: _ => some ⟨la, at_, s, o, w, 0⟩
  | _, _ => none
noncomputable def lk8b : Nat → Trans → Trans := withLoopC 16378 (isSl 6) (loopA 1 (szOf Try.prog 8) [1,4,5,6,12,13] enDec enPre enV enJ enOut) (rounds 9)
noncomputable def lk8 : Nat → Trans → Trans := withLoopC 250 (isSl 0) (loopA 1 (szOf Try.prog 8) [0,1,4,5,6,7] rwDec rwPre rwV rwJ rwOut) lk8b
theorem rw_loop {f : Fr} {st : St} {Q : Exit → Fr → St → Prop} (h : loopA 1 (szOf Try.prog 8) [0,1,4,5,6,7] rwDec rwPre rwV rwJ rwOut f st Q) : CodeSatW Try.prog none 1 (.loop (loopOf Try.prog 8 250)) f st Q :=
  loopA_ok (P := Try.prog) (T := TR) (k := 1) (lim := 9) (n := 10) (g := 8) (p0 := 250) (lk := rounds 9) mixed TR_ok (roundsW 9 _ _) rwMu rw_roundOk h
theorem en_loop {f : Fr} {st : St} {Q : Exit → Fr → St → Prop} (h : loopA 1 (szOf Try.prog 8) [1,4,5,6,12,13] enDec enPre enV enJ enOut f st Q) : CodeSatW Try.prog none 1 (.loop (loopOf Try.prog 8 16378)) f st Q :=
  loopA_ok (P := Try.prog) (T := TR) (k := 1) (lim := 9) (n := 10) (g := 8) (p0 := 16378) (lk := rounds 9) mixed TR_ok (roundsW 9 _ _) enMu en_roundOk h
theorem lk8_ok : FnLoopsW Try.prog 1 lk8 8 := by
  unfold lk8 lk8b
  exact fnLoopCW (fnLoopCW (fnRoundsW 9 1 8) (by kernel_rfl) fun f st Q h => en_loop h) (by kernel_rfl) fun f st Q h => rw_loop h
noncomputable def TL (AE : List UInt8 → Int) (AN : List UInt8 → Nat) (AC : List UInt8 → List V) : Tab := ⟨addP (addT noT 24 (allG AE AN AC)) 11 awF, addM (addM noL 26 toldF) 25 smF, addLk (noLks 9) 8 1 lk8⟩
theorem TL_ok : TabOk3 Try.prog (TL allE allN allC) := ⟨addP_ok (addT_ok noT_ok allG_ok) awF_ok, addM_ok (addM_ok noL_ok told_ok) sm_ok, addLk_ok (noLks_ok 9) lk8_ok⟩
noncomputable def lawK (AE : List UInt8 → Int) (AN : List UInt8 → Nat) (AC : List UInt8 → List V) (args : List V) (st : St) (R : V → Prop) : Prop :=
  fnK Try.prog (E Try.prog (tabT (TL AE AN AC).F) 9 10) (KG Try.prog (TL AE AN AC) 9 10) ((TL AE AN AC).lks 8 st.length) 8 args st (fun v _ => R v)
theorem lawK_ok {args : List V} {st : St} {R : V → Prop} (h : lawK allE allN allC args st R) : FnSat Try.prog 8 args st (fun v _ => R v) :=
  fnKW_ok mixed (E_ok mixed (tabT_ok TL_ok.F) 9 10) (KG_ok mixed TL_ok 10) (TL_ok.lks 8 _) h
theorem row_tree (AE : List UInt8 → Int) (AN : List UInt8 → Nat) (AC : List UInt8 → List V) (la : List V) (n : Nat) (at_ : Int) (R : V → Prop) : lawK AE AN AC [.slice 0 0 n false 0 0, .int .i64 at_] [.ro false la] R =
   (
    bif decide ((↑n : Int) > 80) then R (V.bool true)
    else
      Fits 1 [V.slice 0 0 n false 0 0, V.int IntKind.i64 at_, V.bool false, V.str [], V.nilSlice, V.int IntKind.i64 0]
          [Blk.ro false la]
          [some (V.slice 0 0 n false 0 0), some (V.int IntKind.i64 at_), some (V.bool false), some (V.str []),
            some V.nilSlice, some (V.int IntKind.i64 0)]
          [Blk.ro false la] ∧
        bif rwPre { la := la, n := n, at_ := at_, s := [], o := [], i := 0 } then
          (∀ (s : List UInt8) (i : Int), R (V.bool true)) ∧
            (∀ (s : List UInt8) (o : List V) (i : Int), R (V.bool true)) ∧
              (∀ (s : List UInt8),
                  rwEnd { la := la, n := n, at_ := at_, s := [], o := [], i := 0 } s [] →
                    bif (AN s).beq 0 then
                      bif decide ((↑n : Int) > 64) then bif AE s == 40 then R (V.bool true) else R (V.bool false)
                      else
                        bif AE s != 0 then R (V.bool false)
                        else
                          bif okIT la n && n.beq 0 then
                            bif !IntKind.u64.wrap (IntKind.i64.wrap ((↑s.length : Int) + 1)) == 0 then
                              bif
                                  decide
                                    (0 ≤
                                      IntKind.i64.wrap
                                        ((IntKind.u64.wrap at_).tmod
                                          (IntKind.u64.wrap (IntKind.i64.wrap ((↑s.length : Int) + 1))))) then
                                bif
                                    true &&
                                      (IntKind.i64.wrap
                                              ((IntKind.u64.wrap at_).tmod
                                                (IntKind.u64.wrap (IntKind.i64.wrap ((↑s.length : Int) + 1))))).toNat.ble
                                        s.length then
                                  bif
                                      (AN
                                            (List.take
                                              ((IntKind.i64.wrap
                                                    ((IntKind.u64.wrap at_).tmod
                                                      (IntKind.u64.wrap
                                                        (IntKind.i64.wrap ((↑s.length : Int) + 1))))).toNat -
                                                0)
                                              (List.drop 0 s))).beq
                                        0 then
                                    bif
                                        (AE
                                              (List.take
                                                ((IntKind.i64.wrap
                                                      ((IntKind.u64.wrap at_).tmod
                                                        (IntKind.u64.wrap
                                                          (IntKind.i64.wrap ((↑s.length : Int) + 1))))).toNat -
                                                  0)
                                                (List.drop 0 s)) ==
                                            0) ==
                                          (IntKind.i64.wrap
                                              ((IntKind.u64.wrap at_).tmod
                                                (IntKind.u64.wrap (IntKind.i64.wrap ((↑s.length : Int) + 1)))) ==
                                            0) then
                                      bif
                                          IntKind.i64.wrap
                                              ((IntKind.u64.wrap at_).tmod
                                                (IntKind.u64.wrap (IntKind.i64.wrap ((↑s.length : Int) + 1)))) ==
                                            0 then
                                        R (V.bool true)
                                      else
                                        R
                                          (V.bool
                                            (AE
                                                (List.take
                                                  ((IntKind.i64.wrap
                                                        ((IntKind.u64.wrap at_).tmod
                                                          (IntKind.u64.wrap
                                                            (IntKind.i64.wrap ((↑s.length : Int) + 1))))).toNat -
                                                    0)
                                                  (List.drop 0 s)) ==
                                              8))
                                    else R (V.bool false)
                                  else
                                    bif
                                        (AE
                                              (List.take
                                                ((IntKind.i64.wrap
                                                      ((IntKind.u64.wrap at_).tmod
                                                        (IntKind.u64.wrap
                                                          (IntKind.i64.wrap ((↑s.length : Int) + 1))))).toNat -
                                                  0)
                                                (List.drop 0 s)) ==
                                            0) ==
                                          (IntKind.i64.wrap
                                              ((IntKind.u64.wrap at_).tmod
                                                (IntKind.u64.wrap (IntKind.i64.wrap ((↑s.length : Int) + 1)))) ==
                                            0) then
                                      bif
                                          IntKind.i64.wrap
                                              ((IntKind.u64.wrap at_).tmod
                                                (IntKind.u64.wrap (IntKind.i64.wrap ((↑s.length : Int) + 1)))) ==
                                            0 then
                                        R (V.bool true)
                                      else
                                        R
                                          (V.bool
                                            (AE
                                                (List.take
                                                  ((IntKind.i64.wrap
                                                        ((IntKind.u64.wrap at_).tmod
                                                          (IntKind.u64.wrap
                                                            (IntKind.i64.wrap ((↑s.length : Int) + 1))))).toNat -
                                                    0)
                                                  (List.drop 0 s)) ==
                                              8))
                                    else R (V.bool false)
                                else False
                              else False
                            else False
                          else bif okIT la n then False else False
                    else
                      bif decide ((↑n : Int) > 64) then
                        bif AE s == 40 then R (V.bool ((↑(AN s) : Int) == 0)) else R (V.bool false)
                      else
                        bif AE s != 0 then R (V.bool false)
                        else
                          bif okIT (shiftL 1 (AC s)) (AN s) && (AN s).beq 0 then
                            bif okIT la n && n.beq 0 then
                              bif !IntKind.u64.wrap (IntKind.i64.wrap ((↑s.length : Int) + 1)) == 0 then
                                bif
                                    decide
                                      (0 ≤
                                        IntKind.i64.wrap
                                          ((IntKind.u64.wrap at_).tmod
                                            (IntKind.u64.wrap (IntKind.i64.wrap ((↑s.length : Int) + 1))))) then
                                  bif
                                      true &&
                                        (IntKind.i64.wrap
                                                ((IntKind.u64.wrap at_).tmod
                                                  (IntKind.u64.wrap (IntKind.i64.wrap ((↑s.length : Int) + 1))))).toNat.ble
                                          s.length then
                                    bif
                                        (AN
                                              (List.take
                                                ((IntKind.i64.wrap
                                                      ((IntKind.u64.wrap at_).tmod
                                                        (IntKind.u64.wrap
                                                          (IntKind.i64.wrap ((↑s.length : Int) + 1))))).toNat -
                                                  0)
                                                (List.drop 0 s))).beq
                                          0 then
                                      bif
                                          (AE
                                                (List.take
                                                  ((IntKind.i64.wrap
                                                        ((IntKind.u64.wrap at_).tmod
                                                          (IntKind.u64.wrap
                                                            (IntKind.i64.wrap ((↑s.length : Int) + 1))))).toNat -
                                                    0)
                                                  (List.drop 0 s)) ==
                                              0) ==
                                            (IntKind.i64.wrap
                                                ((IntKind.u64.wrap at_).tmod
                                                  (IntKind.u64.wrap (IntKind.i64.wrap ((↑s.length : Int) + 1)))) ==
                                              0) then
                                        bif
                                            IntKind.i64.wrap
                                                ((IntKind.u64.wrap at_).tmod
                                                  (IntKind.u64.wrap (IntKind.i64.wrap ((↑s.length : Int) + 1)))) ==
                                              0 then
                                          R (V.bool true)
                                        else
                                          R
                                            (V.bool
                                              (AE
                                                  (List.take
                                                    ((IntKind.i64.wrap
                                                          ((IntKind.u64.wrap at_).tmod
                                                            (IntKind.u64.wrap
                                                              (IntKind.i64.wrap ((↑s.length : Int) + 1))))).toNat -
                                                      0)
                                                    (List.drop 0 s)) ==
                                                8))
                                      else R (V.bool false)
                                    else
                                      bif
                                          (AE
                                                (List.take
                                                  ((IntKind.i64.wrap
                                                        ((IntKind.u64.wrap at_).tmod
                                                          (IntKind.u64.wrap
                                                            (IntKind.i64.wrap ((↑s.length : Int) + 1))))).toNat -
                                                    0)
                                                  (List.drop 0 s)) ==
                                              0) ==
                                            (IntKind.i64.wrap
                                                ((IntKind.u64.wrap at_).tmod
                                                  (IntKind.u64.wrap (IntKind.i64.wrap ((↑s.length : Int) + 1)))) ==
                                              0) then
                                        bif
                                            IntKind.i64.wrap
                                                ((IntKind.u64.wrap at_).tmod
                                                  (IntKind.u64.wrap (IntKind.i64.wrap ((↑s.length : Int) + 1)))) ==
                                              0 then
                                          R (V.bool true)
                                        else
                                          R
                                            (V.bool
                                              (AE
                                                  (List.take
                                                    ((IntKind.i64.wrap
                                                          ((IntKind.u64.wrap at_).tmod
                                                            (IntKind.u64.wrap
                                                              (IntKind.i64.wrap ((↑s.length : Int) + 1))))).toNat -
                                                      0)
                                                    (List.drop 0 s)) ==
                                                8))
                                      else R (V.bool false)
                                  else False
                                else False
                              else False
                            else bif okIT la n then False else False
                          else
                            bif okIT (shiftL 1 (AC s)) (AN s) then
                              bif okIT la n && n.beq 0 then False
                              else
                                bif okIT la n then
                                  bif eqIT (shiftL 2 (shiftL 1 (AC s))) (shiftL 3 la) (AN s) n then
                                    bif !IntKind.u64.wrap (IntKind.i64.wrap ((↑s.length : Int) + 1)) == 0 then
                                      bif
                                          decide
                                            (0 ≤
                                              IntKind.i64.wrap
                                                ((IntKind.u64.wrap at_).tmod
                                                  (IntKind.u64.wrap (IntKind.i64.wrap ((↑s.length : Int) + 1))))) then
                                        bif
                                            true &&
                                              (IntKind.i64.wrap
                                                      ((IntKind.u64.wrap at_).tmod
                                                        (IntKind.u64.wrap
                                                          (IntKind.i64.wrap ((↑s.length : Int) + 1))))).toNat.ble
                                                s.length then
                                          bif
                                              (AN
                                                    (List.take
                                                      ((IntKind.i64.wrap
                                                            ((IntKind.u64.wrap at_).tmod
                                                              (IntKind.u64.wrap
                                                                (IntKind.i64.wrap ((↑s.length : Int) + 1))))).toNat -
                                                        0)
                                                      (List.drop 0 s))).beq
                                                0 then
                                            bif
                                                (AE
                                                      (List.take
                                                        ((IntKind.i64.wrap
                                                              ((IntKind.u64.wrap at_).tmod
                                                                (IntKind.u64.wrap
                                                                  (IntKind.i64.wrap ((↑s.length : Int) + 1))))).toNat -
                                                          0)
                                                        (List.drop 0 s)) ==
                                                    0) ==
                                                  (IntKind.i64.wrap
                                                      ((IntKind.u64.wrap at_).tmod
                                                        (IntKind.u64.wrap (IntKind.i64.wrap ((↑s.length : Int) + 1)))) ==
                                                    0) then
                                              bif
                                                  IntKind.i64.wrap
                                                      ((IntKind.u64.wrap at_).tmod
                                                        (IntKind.u64.wrap (IntKind.i64.wrap ((↑s.length : Int) + 1)))) ==
                                                    0 then
                                                R (V.bool true)
                                              else
                                                R
                                                  (V.bool
                                                    (AE
                                                        (List.take
                                                          ((IntKind.i64.wrap
                                                                ((IntKind.u64.wrap at_).tmod
                                                                  (IntKind.u64.wrap
                                                                    (IntKind.i64.wrap ((↑s.length : Int) + 1))))).toNat -
                                                            0)
                                                          (List.drop 0 s)) ==
                                                      8))
                                            else R (V.bool false)
                                          else
                                            bif
                                                (AE
                                                      (List.take
                                                        ((IntKind.i64.wrap
                                                              ((IntKind.u64.wrap at_).tmod
                                                                (IntKind.u64.wrap
                                                                  (IntKind.i64.wrap ((↑s.length : Int) + 1))))).toNat -
                                                          0)
                                                        (List.drop 0 s)) ==
                                                    0) ==
                                                  (IntKind.i64.wrap
                                                      ((IntKind.u64.wrap at_).tmod
                                                        (IntKind.u64.wrap (IntKind.i64.wrap ((↑s.length : Int) + 1)))) ==
                                                    0) then
                                              bif
                                                  IntKind.i64.wrap
                                                      ((IntKind.u64.wrap at_).tmod
                                                        (IntKind.u64.wrap (IntKind.i64.wrap ((↑s.length : Int) + 1)))) ==
                                                    0 then
                                                R (V.bool true)
                                              else
                                                R
                                                  (V.bool
                                                    (AE
                                                        (List.take
                                                          ((IntKind.i64.wrap
                                                                ((IntKind.u64.wrap at_).tmod
                                                                  (IntKind.u64.wrap
                                                                    (IntKind.i64.wrap ((↑s.length : Int) + 1))))).toNat -
                                                            0)
                                                          (List.drop 0 s)) ==
                                                      8))
                                            else R (V.bool false)
                                        else False
                                      else False
                                    else False
                                  else False
                                else False
                            else False) ∧
                ∀ (s : List UInt8) (o : List V),
                  rwEnd { la := la, n := n, at_ := at_, s := [], o := [], i := 0 } s o →
                    o ≠ [] →
                      bif (AN s).beq 0 then
                        bif decide ((↑n : Int) > 64) then bif AE s == 40 then R (V.bool true) else R (V.bool false)
                        else
                          bif AE s != 0 then R (V.bool false)
                          else
                            bif okIT la n && n.beq 0 then
                              bif !IntKind.u64.wrap (IntKind.i64.wrap ((↑s.length : Int) + 1)) == 0 then
                                Fits 1
                                    [V.int IntKind.i64
                                        (IntKind.i64.wrap
                                          ((IntKind.u64.wrap at_).tmod
                                            (IntKind.u64.wrap (IntKind.i64.wrap ((↑s.length : Int) + 1))))),
                                      V.bool false, V.str s, V.slice 1 0 o.length false 0 0,
                                      V.bool
                                        (IntKind.i64.wrap
                                            ((IntKind.u64.wrap at_).tmod
                                              (IntKind.u64.wrap (IntKind.i64.wrap ((↑s.length : Int) + 1)))) ==
                                          0),
                                      V.int IntKind.i64 0]
                                    [Blk.ro false la, Blk.row o 3 1]
                                    [some
                                        (V.int IntKind.i64
                                          (IntKind.i64.wrap
                                            ((IntKind.u64.wrap at_).tmod
                                              (IntKind.u64.wrap (IntKind.i64.wrap ((↑s.length : Int) + 1)))))),
                                      some (V.bool false), some (V.str s), some (V.slice 1 0 o.length false 0 0),
                                      some
                                        (V.bool
                                          (IntKind.i64.wrap
                                              ((IntKind.u64.wrap at_).tmod
                                                (IntKind.u64.wrap (IntKind.i64.wrap ((↑s.length : Int) + 1)))) ==
                                            0)),
                                      some (V.int IntKind.i64 0)]
                                    [Blk.ro false la, Blk.row o 3 1] ∧
                                  bif
                                      enPre
                                        { la := la,
                                          at_ :=
                                            IntKind.i64.wrap
                                              ((IntKind.u64.wrap at_).tmod
                                                (IntKind.u64.wrap (IntKind.i64.wrap ((↑s.length : Int) + 1)))),
                                          s := s, o := o,
                                          w :=
                                            IntKind.i64.wrap
                                                ((IntKind.u64.wrap at_).tmod
                                                  (IntKind.u64.wrap (IntKind.i64.wrap ((↑s.length : Int) + 1)))) ==
                                              0,
                                          i := 0 } then
                                    bif
                                        decide
                                          (0 ≤
                                            IntKind.i64.wrap
                                              ((IntKind.u64.wrap at_).tmod
                                                (IntKind.u64.wrap (IntKind.i64.wrap ((↑s.length : Int) + 1))))) then
                                      bif
                                          true &&
                                            (IntKind.i64.wrap
                                                    ((IntKind.u64.wrap at_).tmod
                                                      (IntKind.u64.wrap
                                                        (IntKind.i64.wrap ((↑s.length : Int) + 1))))).toNat.ble
                                              s.length then
                                        bif
                                            (AN
                                                  (List.take
                                                    ((IntKind.i64.wrap
                                                          ((IntKind.u64.wrap at_).tmod
                                                            (IntKind.u64.wrap
                                                              (IntKind.i64.wrap ((↑s.length : Int) + 1))))).toNat -
                                                      0)
                                                    (List.drop 0 s))).beq
                                              0 then
                                          bif
                                              (AE
                                                    (List.take
                                                      ((IntKind.i64.wrap
                                                            ((IntKind.u64.wrap at_).tmod
                                                              (IntKind.u64.wrap
                                                                (IntKind.i64.wrap ((↑s.length : Int) + 1))))).toNat -
                                                        0)
                                                      (List.drop 0 s)) ==
                                                  0) ==
                                                anyE
                                                  (IntKind.i64.wrap
                                                    ((IntKind.u64.wrap at_).tmod
                                                      (IntKind.u64.wrap (IntKind.i64.wrap ((↑s.length : Int) + 1)))))
                                                  o
                                                  (IntKind.i64.wrap
                                                      ((IntKind.u64.wrap at_).tmod
                                                        (IntKind.u64.wrap (IntKind.i64.wrap ((↑s.length : Int) + 1)))) ==
                                                    0)
                                                  0 then
                                            bif
                                                anyE
                                                  (IntKind.i64.wrap
                                                    ((IntKind.u64.wrap at_).tmod
                                                      (IntKind.u64.wrap (IntKind.i64.wrap ((↑s.length : Int) + 1)))))
                                                  o
                                                  (IntKind.i64.wrap
                                                      ((IntKind.u64.wrap at_).tmod
                                                        (IntKind.u64.wrap (IntKind.i64.wrap ((↑s.length : Int) + 1)))) ==
                                                    0)
                                                  0 then
                                              R (V.bool true)
                                            else
                                              R
                                                (V.bool
                                                  (AE
                                                      (List.take
                                                        ((IntKind.i64.wrap
                                                              ((IntKind.u64.wrap at_).tmod
                                                                (IntKind.u64.wrap
                                                                  (IntKind.i64.wrap ((↑s.length : Int) + 1))))).toNat -
                                                          0)
                                                        (List.drop 0 s)) ==
                                                    8))
                                          else R (V.bool false)
                                        else
                                          bif
                                              (AE
                                                    (List.take
                                                      ((IntKind.i64.wrap
                                                            ((IntKind.u64.wrap at_).tmod
                                                              (IntKind.u64.wrap
                                                                (IntKind.i64.wrap ((↑s.length : Int) + 1))))).toNat -
                                                        0)
                                                      (List.drop 0 s)) ==
                                                  0) ==
                                                anyE
                                                  (IntKind.i64.wrap
                                                    ((IntKind.u64.wrap at_).tmod
                                                      (IntKind.u64.wrap (IntKind.i64.wrap ((↑s.length : Int) + 1)))))
                                                  o
                                                  (IntKind.i64.wrap
                                                      ((IntKind.u64.wrap at_).tmod
                                                        (IntKind.u64.wrap (IntKind.i64.wrap ((↑s.length : Int) + 1)))) ==
                                                    0)
                                                  0 then
                                            bif
                                                anyE
                                                  (IntKind.i64.wrap
                                                    ((IntKind.u64.wrap at_).tmod
                                                      (IntKind.u64.wrap (IntKind.i64.wrap ((↑s.length : Int) + 1)))))
                                                  o
                                                  (IntKind.i64.wrap
                                                      ((IntKind.u64.wrap at_).tmod
                                                        (IntKind.u64.wrap (IntKind.i64.wrap ((↑s.length : Int) + 1)))) ==
                                                    0)
                                                  0 then
                                              R (V.bool true)
                                            else
                                              R
                                                (V.bool
                                                  (AE
                                                      (List.take
                                                        ((IntKind.i64.wrap
                                                              ((IntKind.u64.wrap at_).tmod
                                                                (IntKind.u64.wrap
                                                                  (IntKind.i64.wrap ((↑s.length : Int) + 1))))).toNat -
                                                          0)
                                                        (List.drop 0 s)) ==
                                                    8))
                                          else R (V.bool false)
                                      else False
                                    else False
                                  else False
                              else False
                            else bif okIT la n then False else False
                      else
                        bif decide ((↑n : Int) > 64) then
                          bif AE s == 40 then R (V.bool ((↑(AN s) : Int) == 0)) else R (V.bool false)
                        else
                          bif AE s != 0 then R (V.bool false)
                          else
                            bif okIT (shiftL 2 (AC s)) (AN s) && (AN s).beq 0 then
                              bif okIT la n && n.beq 0 then
                                bif !IntKind.u64.wrap (IntKind.i64.wrap ((↑s.length : Int) + 1)) == 0 then
                                  Fits 1
                                      [V.int IntKind.i64
                                          (IntKind.i64.wrap
                                            ((IntKind.u64.wrap at_).tmod
                                              (IntKind.u64.wrap (IntKind.i64.wrap ((↑s.length : Int) + 1))))),
                                        V.bool false, V.str s, V.slice 1 0 o.length false 0 0,
                                        V.bool
                                          (IntKind.i64.wrap
                                              ((IntKind.u64.wrap at_).tmod
                                                (IntKind.u64.wrap (IntKind.i64.wrap ((↑s.length : Int) + 1)))) ==
                                            0),
                                        V.int IntKind.i64 0]
                                      [Blk.ro false la, Blk.row o 3 1]
                                      [some
                                          (V.int IntKind.i64
                                            (IntKind.i64.wrap
                                              ((IntKind.u64.wrap at_).tmod
                                                (IntKind.u64.wrap (IntKind.i64.wrap ((↑s.length : Int) + 1)))))),
                                        some (V.bool false), some (V.str s), some (V.slice 1 0 o.length false 0 0),
                                        some
                                          (V.bool
                                            (IntKind.i64.wrap
                                                ((IntKind.u64.wrap at_).tmod
                                                  (IntKind.u64.wrap (IntKind.i64.wrap ((↑s.length : Int) + 1)))) ==
                                              0)),
                                        some (V.int IntKind.i64 0)]
                                      [Blk.ro false la, Blk.row o 3 1, Blk.row (shiftL 2 (AC s)) 32 2] ∧
                                    bif
                                        enPre
                                          { la := la,
                                            at_ :=
                                              IntKind.i64.wrap
                                                ((IntKind.u64.wrap at_).tmod
                                                  (IntKind.u64.wrap (IntKind.i64.wrap ((↑s.length : Int) + 1)))),
                                            s := s, o := o,
                                            w :=
                                              IntKind.i64.wrap
                                                  ((IntKind.u64.wrap at_).tmod
                                                    (IntKind.u64.wrap (IntKind.i64.wrap ((↑s.length : Int) + 1)))) ==
                                                0,
                                            i := 0 } then
                                      bif
                                          decide
                                            (0 ≤
                                              IntKind.i64.wrap
                                                ((IntKind.u64.wrap at_).tmod
                                                  (IntKind.u64.wrap (IntKind.i64.wrap ((↑s.length : Int) + 1))))) then
                                        bif
                                            true &&
                                              (IntKind.i64.wrap
                                                      ((IntKind.u64.wrap at_).tmod
                                                        (IntKind.u64.wrap
                                                          (IntKind.i64.wrap ((↑s.length : Int) + 1))))).toNat.ble
                                                s.length then
                                          bif
                                              (AN
                                                    (List.take
                                                      ((IntKind.i64.wrap
                                                            ((IntKind.u64.wrap at_).tmod
                                                              (IntKind.u64.wrap
                                                                (IntKind.i64.wrap ((↑s.length : Int) + 1))))).toNat -
                                                        0)
                                                      (List.drop 0 s))).beq
                                                0 then
                                            bif
                                                (AE
                                                      (List.take
                                                        ((IntKind.i64.wrap
                                                              ((IntKind.u64.wrap at_).tmod
                                                                (IntKind.u64.wrap
                                                                  (IntKind.i64.wrap ((↑s.length : Int) + 1))))).toNat -
                                                          0)
                                                        (List.drop 0 s)) ==
                                                    0) ==
                                                  anyE
                                                    (IntKind.i64.wrap
                                                      ((IntKind.u64.wrap at_).tmod
                                                        (IntKind.u64.wrap (IntKind.i64.wrap ((↑s.length : Int) + 1)))))
                                                    o
                                                    (IntKind.i64.wrap
                                                        ((IntKind.u64.wrap at_).tmod
                                                          (IntKind.u64.wrap (IntKind.i64.wrap ((↑s.length : Int) + 1)))) ==
                                                      0)
                                                    0 then
                                              bif
                                                  anyE
                                                    (IntKind.i64.wrap
                                                      ((IntKind.u64.wrap at_).tmod
                                                        (IntKind.u64.wrap (IntKind.i64.wrap ((↑s.length : Int) + 1)))))
                                                    o
                                                    (IntKind.i64.wrap
                                                        ((IntKind.u64.wrap at_).tmod
                                                          (IntKind.u64.wrap (IntKind.i64.wrap ((↑s.length : Int) + 1)))) ==
                                                      0)
                                                    0 then
                                                R (V.bool true)
                                              else
                                                R
                                                  (V.bool
                                                    (AE
                                                        (List.take
                                                          ((IntKind.i64.wrap
                                                                ((IntKind.u64.wrap at_).tmod
                                                                  (IntKind.u64.wrap
                                                                    (IntKind.i64.wrap ((↑s.length : Int) + 1))))).toNat -
                                                            0)
                                                          (List.drop 0 s)) ==
                                                      8))
                                            else R (V.bool false)
                                          else
                                            bif
                                                (AE
                                                      (List.take
                                                        ((IntKind.i64.wrap
                                                              ((IntKind.u64.wrap at_).tmod
                                                                (IntKind.u64.wrap
                                                                  (IntKind.i64.wrap ((↑s.length : Int) + 1))))).toNat -
                                                          0)
                                                        (List.drop 0 s)) ==
                                                    0) ==
                                                  anyE
                                                    (IntKind.i64.wrap
                                                      ((IntKind.u64.wrap at_).tmod
                                                        (IntKind.u64.wrap (IntKind.i64.wrap ((↑s.length : Int) + 1)))))
                                                    o
                                                    (IntKind.i64.wrap
                                                        ((IntKind.u64.wrap at_).tmod
                                                          (IntKind.u64.wrap (IntKind.i64.wrap ((↑s.length : Int) + 1)))) ==
                                                      0)
                                                    0 then
                                              bif
                                                  anyE
                                                    (IntKind.i64.wrap
                                                      ((IntKind.u64.wrap at_).tmod
                                                        (IntKind.u64.wrap (IntKind.i64.wrap ((↑s.length : Int) + 1)))))
                                                    o
                                                    (IntKind.i64.wrap
                                                        ((IntKind.u64.wrap at_).tmod
                                                          (IntKind.u64.wrap (IntKind.i64.wrap ((↑s.length : Int) + 1)))) ==
                                                      0)
                                                    0 then
                                                R (V.bool true)
                                              else
                                                R
                                                  (V.bool
                                                    (AE
                                                        (List.take
                                                          ((IntKind.i64.wrap
                                                                ((IntKind.u64.wrap at_).tmod
                                                                  (IntKind.u64.wrap
                                                                    (IntKind.i64.wrap ((↑s.length : Int) + 1))))).toNat -
                                                            0)
                                                          (List.drop 0 s)) ==
                                                      8))
                                            else R (V.bool false)
                                        else False
                                      else False
                                    else False
                                else False
                              else bif okIT la n then False else False
                            else
                              bif okIT (shiftL 2 (AC s)) (AN s) then
                                bif okIT la n && n.beq 0 then False
                                else
                                  bif okIT la n then
                                    bif eqIT (shiftL 3 (shiftL 2 (AC s))) (shiftL 4 la) (AN s) n then
                                      bif !IntKind.u64.wrap (IntKind.i64.wrap ((↑s.length : Int) + 1)) == 0 then
                                        Fits 1
                                            [V.int IntKind.i64
                                                (IntKind.i64.wrap
                                                  ((IntKind.u64.wrap at_).tmod
                                                    (IntKind.u64.wrap (IntKind.i64.wrap ((↑s.length : Int) + 1))))),
                                              V.bool false, V.str s, V.slice 1 0 o.length false 0 0,
                                              V.bool
                                                (IntKind.i64.wrap
                                                    ((IntKind.u64.wrap at_).tmod
                                                      (IntKind.u64.wrap (IntKind.i64.wrap ((↑s.length : Int) + 1)))) ==
                                                  0),
                                              V.int IntKind.i64 0]
                                            [Blk.ro false la, Blk.row o 3 1]
                                            [some
                                                (V.int IntKind.i64
                                                  (IntKind.i64.wrap
                                                    ((IntKind.u64.wrap at_).tmod
                                                      (IntKind.u64.wrap (IntKind.i64.wrap ((↑s.length : Int) + 1)))))),
                                              some (V.bool false), some (V.str s), some (V.slice 1 0 o.length false 0 0),
                                              some
                                                (V.bool
                                                  (IntKind.i64.wrap
                                                      ((IntKind.u64.wrap at_).tmod
                                                        (IntKind.u64.wrap (IntKind.i64.wrap ((↑s.length : Int) + 1)))) ==
                                                    0)),
                                              some (V.int IntKind.i64 0)]
                                            [Blk.ro false la, Blk.row o 3 1, Blk.row (shiftL 2 (AC s)) 32 2,
                                              Blk.row (shiftL 3 (shiftL 2 (AC s))) 71 2, Blk.row (shiftL 4 la) 71 2] ∧
                                          bif
                                              enPre
                                                { la := la,
                                                  at_ :=
                                                    IntKind.i64.wrap
                                                      ((IntKind.u64.wrap at_).tmod
                                                        (IntKind.u64.wrap (IntKind.i64.wrap ((↑s.length : Int) + 1)))),
                                                  s := s, o := o,
                                                  w :=
                                                    IntKind.i64.wrap
                                                        ((IntKind.u64.wrap at_).tmod
                                                          (IntKind.u64.wrap (IntKind.i64.wrap ((↑s.length : Int) + 1)))) ==
                                                      0,
                                                  i := 0 } then
                                            bif
                                                decide
                                                  (0 ≤
                                                    IntKind.i64.wrap
                                                      ((IntKind.u64.wrap at_).tmod
                                                        (IntKind.u64.wrap (IntKind.i64.wrap ((↑s.length : Int) + 1))))) then
                                              bif
                                                  true &&
                                                    (IntKind.i64.wrap
                                                            ((IntKind.u64.wrap at_).tmod
                                                              (IntKind.u64.wrap
                                                                (IntKind.i64.wrap ((↑s.length : Int) + 1))))).toNat.ble
                                                      s.length then
                                                bif
                                                    (AN
                                                          (List.take
                                                            ((IntKind.i64.wrap
                                                                  ((IntKind.u64.wrap at_).tmod
                                                                    (IntKind.u64.wrap
                                                                      (IntKind.i64.wrap ((↑s.length : Int) + 1))))).toNat -
                                                              0)
                                                            (List.drop 0 s))).beq
                                                      0 then
                                                  bif
                                                      (AE
                                                            (List.take
                                                              ((IntKind.i64.wrap
                                                                    ((IntKind.u64.wrap at_).tmod
                                                                      (IntKind.u64.wrap
                                                                        (IntKind.i64.wrap
                                                                          ((↑s.length : Int) + 1))))).toNat -
                                                                0)
                                                              (List.drop 0 s)) ==
                                                          0) ==
                                                        anyE
                                                          (IntKind.i64.wrap
                                                            ((IntKind.u64.wrap at_).tmod
                                                              (IntKind.u64.wrap
                                                                (IntKind.i64.wrap ((↑s.length : Int) + 1)))))
                                                          o
                                                          (IntKind.i64.wrap
                                                              ((IntKind.u64.wrap at_).tmod
                                                                (IntKind.u64.wrap
                                                                  (IntKind.i64.wrap ((↑s.length : Int) + 1)))) ==
                                                            0)
                                                          0 then
                                                    bif
                                                        anyE
                                                          (IntKind.i64.wrap
                                                            ((IntKind.u64.wrap at_).tmod
                                                              (IntKind.u64.wrap
                                                                (IntKind.i64.wrap ((↑s.length : Int) + 1)))))
                                                          o
                                                          (IntKind.i64.wrap
                                                              ((IntKind.u64.wrap at_).tmod
                                                                (IntKind.u64.wrap
                                                                  (IntKind.i64.wrap ((↑s.length : Int) + 1)))) ==
                                                            0)
                                                          0 then
                                                      R (V.bool true)
                                                    else
                                                      R
                                                        (V.bool
                                                          (AE
                                                              (List.take
                                                                ((IntKind.i64.wrap
                                                                      ((IntKind.u64.wrap at_).tmod
                                                                        (IntKind.u64.wrap
                                                                          (IntKind.i64.wrap
                                                                            ((↑s.length : Int) + 1))))).toNat -
                                                                  0)
                                                                (List.drop 0 s)) ==
                                                            8))
                                                  else R (V.bool false)
                                                else
                                                  bif
                                                      (AE
                                                            (List.take
                                                              ((IntKind.i64.wrap
                                                                    ((IntKind.u64.wrap at_).tmod
                                                                      (IntKind.u64.wrap
                                                                        (IntKind.i64.wrap
                                                                          ((↑s.length : Int) + 1))))).toNat -
                                                                0)
                                                              (List.drop 0 s)) ==
                                                          0) ==
                                                        anyE
                                                          (IntKind.i64.wrap
                                                            ((IntKind.u64.wrap at_).tmod
                                                              (IntKind.u64.wrap
                                                                (IntKind.i64.wrap ((↑s.length : Int) + 1)))))
                                                          o
                                                          (IntKind.i64.wrap
                                                              ((IntKind.u64.wrap at_).tmod
                                                                (IntKind.u64.wrap
                                                                  (IntKind.i64.wrap ((↑s.length : Int) + 1)))) ==
                                                            0)
                                                          0 then
                                                    bif
                                                        anyE
                                                          (IntKind.i64.wrap
                                                            ((IntKind.u64.wrap at_).tmod
                                                              (IntKind.u64.wrap
                                                                (IntKind.i64.wrap ((↑s.length : Int) + 1)))))
                                                          o
                                                          (IntKind.i64.wrap
                                                              ((IntKind.u64.wrap at_).tmod
                                                                (IntKind.u64.wrap
                                                                  (IntKind.i64.wrap ((↑s.length : Int) + 1)))) ==
                                                            0)
                                                          0 then
                                                      R (V.bool true)
                                                    else
                                                      R
                                                        (V.bool
                                                          (AE
                                                              (List.take
                                                                ((IntKind.i64.wrap
                                                                      ((IntKind.u64.wrap at_).tmod
                                                                        (IntKind.u64.wrap
                                                                          (IntKind.i64.wrap
                                                                            ((↑s.length : Int) + 1))))).toNat -
                                                                  0)
                                                                (List.drop 0 s)) ==
                                                            8))
                                                  else R (V.bool false)
                                              else False
                                            else False
                                          else False
                                      else False
                                    else False
                                  else False
                              else False
        else False) := by kernel_rfl
theorem row_nil (AE : List UInt8 → Int) (AN : List UInt8 → Nat) (AC : List UInt8 → List V) (at_ : Int) (R : V → Prop) : lawK AE AN AC [.nilSlice, .int .i64 at_] [] R =
   (
    bif (AN []).beq 0 then
      bif AE [] != 0 then R (V.bool false)
      else
        bif decide (0 ≤ IntKind.i64.wrap ((IntKind.u64.wrap at_).tmod 1)) then
          bif true && (IntKind.i64.wrap ((IntKind.u64.wrap at_).tmod 1)).toNat.ble 0 then
            bif (AN (List.take ((IntKind.i64.wrap ((IntKind.u64.wrap at_).tmod 1)).toNat - 0) [])).beq 0 then
              bif
                  (AE (List.take ((IntKind.i64.wrap ((IntKind.u64.wrap at_).tmod 1)).toNat - 0) []) == 0) ==
                    (IntKind.i64.wrap ((IntKind.u64.wrap at_).tmod 1) == 0) then
                bif IntKind.i64.wrap ((IntKind.u64.wrap at_).tmod 1) == 0 then R (V.bool true)
                else R (V.bool (AE (List.take ((IntKind.i64.wrap ((IntKind.u64.wrap at_).tmod 1)).toNat - 0) []) == 8))
              else R (V.bool false)
            else
              bif
                  (AE (List.take ((IntKind.i64.wrap ((IntKind.u64.wrap at_).tmod 1)).toNat - 0) []) == 0) ==
                    (IntKind.i64.wrap ((IntKind.u64.wrap at_).tmod 1) == 0) then
                bif IntKind.i64.wrap ((IntKind.u64.wrap at_).tmod 1) == 0 then R (V.bool true)
                else R (V.bool (AE (List.take ((IntKind.i64.wrap ((IntKind.u64.wrap at_).tmod 1)).toNat - 0) []) == 8))
              else R (V.bool false)
          else False
        else False
    else
      bif AE [] != 0 then R (V.bool false)
      else
        bif okIT (shiftL 0 (AC [])) (AN []) && (AN []).beq 0 then
          bif decide (0 ≤ IntKind.i64.wrap ((IntKind.u64.wrap at_).tmod 1)) then
            bif true && (IntKind.i64.wrap ((IntKind.u64.wrap at_).tmod 1)).toNat.ble 0 then
              bif (AN (List.take ((IntKind.i64.wrap ((IntKind.u64.wrap at_).tmod 1)).toNat - 0) [])).beq 0 then
                bif
                    (AE (List.take ((IntKind.i64.wrap ((IntKind.u64.wrap at_).tmod 1)).toNat - 0) []) == 0) ==
                      (IntKind.i64.wrap ((IntKind.u64.wrap at_).tmod 1) == 0) then
                  bif IntKind.i64.wrap ((IntKind.u64.wrap at_).tmod 1) == 0 then R (V.bool true)
                  else R (V.bool (AE (List.take ((IntKind.i64.wrap ((IntKind.u64.wrap at_).tmod 1)).toNat - 0) []) == 8))
                else R (V.bool false)
              else
                bif
                    (AE (List.take ((IntKind.i64.wrap ((IntKind.u64.wrap at_).tmod 1)).toNat - 0) []) == 0) ==
                      (IntKind.i64.wrap ((IntKind.u64.wrap at_).tmod 1) == 0) then
                  bif IntKind.i64.wrap ((IntKind.u64.wrap at_).tmod 1) == 0 then R (V.bool true)
                  else R (V.bool (AE (List.take ((IntKind.i64.wrap ((IntKind.u64.wrap at_).tmod 1)).toNat - 0) []) == 8))
                else R (V.bool false)
            else False
          else False
        else bif okIT (shiftL 0 (AC [])) (AN []) then False else False) := by kernel_rfl
end Go.Proofs.Ytpjopdemhkcifaa
