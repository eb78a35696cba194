/- RetryTells: what it comes to. -/
import Derived.Test.YtleflholgkcmkaaDoc
namespace Go.Proofs.Ytleflholgkcmkaa
open Go Go.Vm Go.RowKit
set_option linter.unusedVariables false
structure TS where
  now : Int
  at_ : Int
  tries : Int
  again : Int
  most : Int
  expiry : Int
  n : Int
  round : Int
  o : List V
  i : Int
def tsV (x : TS) : List V := [.int .i64 x.now, .int .i64 x.at_, .int .i64 x.tries, .int .i64 x.again, .int .i64 x.most, .int .i64 x.expiry, .int .i64 x.n, .bool false, .int .i64 x.round, .slice 0 0 x.o.length false 0 0, .int .i64 x.i]
def tsJ (x : TS) : St := [.row x.o 3 1]
def tsPre (x : TS) : Bool := decide (0 ≤ x.i) && decide (x.i ≤ x.o.length) && decide (x.o.length ≤ 4611686018427387904) && x.o.all (isIntV .i64)
def tsDec : List (Option V) → St → Option TS
  | [some (.int .i64 a), some (.int .i64 b), some (.int .i64 c), some (.int .i64 d), some (.int .i64 e), some (.int .i64 f), some (.int .i64 n), some (.bool false), some (.int .i64 round), some (.slice s _ _ false 0 0), some (.int .i64 i)], st => match st[s]? with
    | some (.row o _ _) => some ⟨a, b, c, d, e, f, n, round, o, i⟩
    | _ => none
  | _, _ => none
def tsTs : List Nat := [0,1,2,3,4,5,6,14,15,16,17]
def tsMu (x : TS) : Nat := x.o.length - x.i.toNat
def tsIs (x : TS) (o : List V) : Prop := o.all (isIntV .i64) = true ∧ o.length = x.o.length
def tsOut : Asks TS := fun x K => ∀ o, tsIs x o → K (.exit 2) (tsV { x with o := o, i := x.o.length }) [.row o 3 1]
theorem ts_round0 (a b c d e f n round i : Int) (o : List V) (R : Exit → List (Option V) → St → Prop) : roundW Try.prog T6 100 10 (rounds 100) 5 14926 tsTs (tsV ⟨a, b, c, d, e, f, n, round, o, i⟩) (tsJ ⟨a, b, c, d, e, f, n, round, o, i⟩) R =
   (
    bif decide (i < (↑o.length : Int)) then
      bif decide (0 ≤ i) && decide (i < (↑o.length : Int)) then
        bif true && (0 + i.toNat * 1 + 1).ble o.length then
          R Exit.normal
            [some (V.int IntKind.i64 a), some (V.int IntKind.i64 b), some (V.int IntKind.i64 c), some (V.int IntKind.i64 d),
              some (V.int IntKind.i64 e), some (V.int IntKind.i64 f), some (V.int IntKind.i64 n), some (V.bool false),
              some (V.int IntKind.i64 round), some (V.slice 0 0 o.length false 0 0),
              some (V.int IntKind.i64 (IntKind.i64.wrap (i + 1)))]
            [Blk.row (putAt (0 + i.toNat * 1) [V.int IntKind.i64 (-7)] o) 3 1]
        else False
      else False
    else
      R (Exit.exit 2)
        [some (V.int IntKind.i64 a), some (V.int IntKind.i64 b), some (V.int IntKind.i64 c), some (V.int IntKind.i64 d),
          some (V.int IntKind.i64 e), some (V.int IntKind.i64 f), some (V.int IntKind.i64 n), some (V.bool false),
          some (V.int IntKind.i64 round), some (V.slice 0 0 o.length false 0 0), some (V.int IntKind.i64 i)]
        [Blk.row o 3 1]) := by kernel_rfl
theorem all_int_put {k : Nat} {n : Int} {o : List V} (h : o.all (isIntV .i64) = true) (hk : k + 1 ≤ o.length) : (putAt k [.int .i64 n] o).all (isIntV .i64) = true ∧ (putAt k [V.int .i64 n] o).length = o.length := by
  refine ⟨?_, by simp [putAt]; omega⟩
  simp only [putAt, List.all_append, Bool.and_eq_true]
  rw [List.all_eq_true] at h
  refine ⟨⟨List.all_eq_true.2 fun x hx => h x (List.mem_of_mem_take hx), by rfl⟩, List.all_eq_true.2 fun x hx => h x (List.mem_of_mem_drop hx)⟩
theorem ts_fits (a b c d e f n round i : Int) (G : St) (o : List V) (h : o.all (isIntV .i64) = true) (L : Nat) (hL : L = o.length) (st : St) (hst : ∃ H, st = G ++ [.row o 3 1] ++ H) :
    Fits 0 (tsV ⟨a, b, c, d, e, f, n, round, o, i⟩) [.row o 3 1] [some (.int .i64 a), some (.int .i64 b), some (.int .i64 c), some (.int .i64 d), some (.int .i64 e), some (.int .i64 f), some (.int .i64 n), some (.bool false), some (.int .i64 round), some (.slice G.length 0 L false 0 0), some (.int .i64 i)] st := by
  obtain ⟨H, rfl⟩ := hst
  subst hL
  refine ⟨[G.length], [.int .i64 a, .int .i64 b, .int .i64 c, .int .i64 d, .int .i64 e, .int .i64 f, .int .i64 n, .bool false, .int .i64 round, .slice G.length 0 o.length false 0 0, .int .i64 i], rfl, rfl, FitsM.of ⟨.inr ⟨.row o 3 1, .inl (by simp only [renB, renL_flat _ h]), by simp⟩, trivial⟩, by simp, fun i hi => by omega⟩
theorem ts_round (x : TS) (hx : tsPre x = true) : roundW Try.prog T6 100 10 (rounds 100) 5 14926 tsTs (tsV x) (tsJ x) (RoundOkA 0 tsPre tsV tsJ tsMu tsOut x) := by
  obtain ⟨a, b, c, d, e, f, n, round, o, i⟩ := x
  simp only [tsPre, Bool.and_eq_true, decide_eq_true_eq] at hx
  obtain ⟨⟨⟨p1, p2⟩, p3⟩, p4⟩ := hx
  rw [ts_round0]
  refine bif_intro (fun h => ?_) (fun h => ?_) <;> simp only [decide_eq_true_eq, decide_eq_false_iff_not] at h
  · refine must_intro (by simp; omega) (must_intro (by rw [Bool.true_and]; exact Nat.ble_eq_true_of_le (by omega)) ?_)
    have hp := all_int_put (k := 0 + i.toNat * 1) (n := -7) p4 (by omega)
    have e1 : IntKind.i64.wrap (i + 1) = i + 1 := IntWalk.i64_in _ ⟨by omega, by omega⟩
    refine ⟨⟨a, b, c, d, e, f, n, round, putAt (0 + i.toNat * 1) [.int .i64 (-7)] o, i + 1⟩, ?_, ?_, ?_, ?_⟩
    · have h2 := hp.2
      show (decide (0 ≤ i + 1) && decide (i + 1 ≤ ((putAt (0 + i.toNat * 1) [V.int .i64 (-7)] o).length : Int)) && decide ((putAt (0 + i.toNat * 1) [V.int .i64 (-7)] o).length ≤ 4611686018427387904) && (putAt (0 + i.toNat * 1) [V.int .i64 (-7)] o).all (isIntV .i64)) = true
      rw [hp.1, h2]
      simp only [Bool.and_eq_true, decide_eq_true_eq, and_true]
      clear e1
      omega
    · rw [e1]
      exact ts_fits a b c d e f n round (i + 1) [] _ hp.1 _ hp.2.symm _ ⟨[], rfl⟩
    · have := hp.2
      show (putAt (0 + i.toNat * 1) [V.int .i64 (-7)] o).length - (i + 1).toNat < o.length - i.toNat
      omega
    · intro K hK o' ho'
      have := hK o' ⟨ho'.1, by rw [ho'.2]; exact hp.2⟩
      simp only [hp.2] at this ⊢
      exact this
  · have : i = o.length := by omega
    subst this
    exact ⟨_, _, fun K hK => hK o ⟨p4, rfl⟩, ts_fits a b c d e f n round _ [] o p4 _ rfl _ ⟨[], rfl⟩⟩
noncomputable def lk5 : Nat → Trans → Trans := withLoopC 14926 (isSl 16) (loopA 0 (szOf Try.prog 5) tsTs tsDec tsPre tsV tsJ tsOut) (rounds 100)
theorem ts_loop {f : Fr} {st : St} {Q : Exit → Fr → St → Prop} (h : loopA 0 (szOf Try.prog 5) tsTs tsDec tsPre tsV tsJ tsOut f st Q) : CodeSatW Try.prog none 0 (.loop (loopOf Try.prog 5 14926)) f st Q :=
  loopA_ok (P := Try.prog) (T := T6) (k := 0) (lim := 100) (n := 10) (g := 5) (p0 := 14926) (lk := rounds 100) mixed T6_ok (roundsW 100 _ _) tsMu ts_round h
theorem lk5_ok : FnLoopsW Try.prog 0 lk5 5 := by
  unfold lk5
  exact fnLoopCW (fnRoundsW 100 0 5) (by kernel_rfl) fun f st Q h => ts_loop h
noncomputable def TG (D : Int → Int → Int → Int → Int → List V) (eD : Int → Int → Int → Int → Int → Bool) (lks : Lks) : Tab := ⟨addT (addT (ofPure F3) 13 (duesG D eD)) 19 (duesG D eD), addL noL 14 sameF, lks⟩
theorem TG_ok {lks : Lks} (h : LksOk Try.prog lks) : TabOk3 Try.prog (TG duesI duesE lks) := ⟨addT_ok (addT_ok (ofPure_ok F3_ok) (duesF_ok dues_sat)) (duesF_ok doc_sat), addL_ok noL_ok sameF_ok, h⟩
theorem tells_tree (D : Int → Int → Int → Int → Int → List V) (eD : Int → Int → Int → Int → Int → Bool) (now at_ tries again most expiry n : Int) (R : V → Prop) : runW Try.prog (TG D eD (addLk (noLks 100) 5 0 lk5)) 100 10 5 [.int .i64 now, .int .i64 at_, .int .i64 tries, .int .i64 again, .int .i64 most, .int .i64 expiry, .int .i64 n] R =
   (
    bif waitF tries again most != waitF tries again most then R (V.bool false)
    else
      bif dueF now tries again most != dueF now tries again most then R (V.bool false)
      else
        bif !overF now at_ expiry == overF now at_ expiry then R (V.bool false)
        else
          bif latF at_ expiry most != latF at_ expiry most then R (V.bool false)
          else
            bif eD at_ expiry again most n then
              bif eD at_ expiry again most n then
                bif eD at_ expiry again most n then
                  bif eD at_ expiry again most n then R (V.bool true)
                  else
                    bif (shiftL 0 (D at_ expiry again most n)).all (isIntV IntKind.i64) then
                      bif !(D at_ expiry again most n).length == 0 then R (V.bool false) else R (V.bool true)
                    else False
                else
                  bif eD at_ expiry again most n then
                    bif (shiftL 0 (D at_ expiry again most n)).all (isIntV IntKind.i64) then
                      bif !(D at_ expiry again most n).length == 0 then R (V.bool false)
                      else
                        Fits 0
                            [V.int IntKind.i64 now, V.int IntKind.i64 at_, V.int IntKind.i64 tries, V.int IntKind.i64 again,
                              V.int IntKind.i64 most, V.int IntKind.i64 expiry, V.int IntKind.i64 n, V.bool false,
                              V.int IntKind.i64 1, V.slice 0 0 (shiftL 0 (D at_ expiry again most n)).length false 0 0,
                              V.int IntKind.i64 0]
                            [Blk.row (shiftL 0 (D at_ expiry again most n)) 3 1]
                            [some (V.int IntKind.i64 now), some (V.int IntKind.i64 at_), some (V.int IntKind.i64 tries),
                              some (V.int IntKind.i64 again), some (V.int IntKind.i64 most),
                              some (V.int IntKind.i64 expiry), some (V.int IntKind.i64 n), some (V.bool false),
                              some (V.int IntKind.i64 1), some (V.slice 0 0 (D at_ expiry again most n).length false 0 0),
                              some (V.int IntKind.i64 0)]
                            [Blk.row (shiftL 0 (D at_ expiry again most n)) 3 1] ∧
                          bif
                              tsPre
                                { now := now, at_ := at_, tries := tries, again := again, most := most, expiry := expiry,
                                  n := n, round := 1, o := shiftL 0 (D at_ expiry again most n), i := 0 } then
                            ∀ (o : List V),
                              tsIs
                                  { now := now, at_ := at_, tries := tries, again := again, most := most, expiry := expiry,
                                    n := n, round := 1, o := shiftL 0 (D at_ expiry again most n), i := 0 }
                                  o →
                                R (V.bool true)
                          else False
                    else False
                  else
                    bif
                        (shiftL 0 (D at_ expiry again most n)).all (isIntV IntKind.i64) &&
                                (shiftL 1 (D at_ expiry again most n)).all (isIntV IntKind.i64) &&
                              decide ((D at_ expiry again most n).length ≤ (shiftL 0 (D at_ expiry again most n)).length) &&
                            decide ((D at_ expiry again most n).length ≤ (shiftL 1 (D at_ expiry again most n)).length) &&
                          decide ((D at_ expiry again most n).length ≤ 4611686018427387904) then
                      bif
                          !(decide ((D at_ expiry again most n).length = (D at_ expiry again most n).length) &&
                              (cmpL (shiftL 0 (D at_ expiry again most n)) (shiftL 1 (D at_ expiry again most n))
                                  (D at_ expiry again most n).length 0).fst) then
                        R (V.bool false)
                      else
                        Fits 0
                            [V.int IntKind.i64 now, V.int IntKind.i64 at_, V.int IntKind.i64 tries, V.int IntKind.i64 again,
                              V.int IntKind.i64 most, V.int IntKind.i64 expiry, V.int IntKind.i64 n, V.bool false,
                              V.int IntKind.i64 1, V.slice 0 0 (shiftL 0 (D at_ expiry again most n)).length false 0 0,
                              V.int IntKind.i64 0]
                            [Blk.row (shiftL 0 (D at_ expiry again most n)) 3 1]
                            [some (V.int IntKind.i64 now), some (V.int IntKind.i64 at_), some (V.int IntKind.i64 tries),
                              some (V.int IntKind.i64 again), some (V.int IntKind.i64 most),
                              some (V.int IntKind.i64 expiry), some (V.int IntKind.i64 n), some (V.bool false),
                              some (V.int IntKind.i64 1), some (V.slice 0 0 (D at_ expiry again most n).length false 0 0),
                              some (V.int IntKind.i64 0)]
                            [Blk.row (shiftL 0 (D at_ expiry again most n)) 3 1,
                              Blk.row (shiftL 1 (D at_ expiry again most n)) 3 1] ∧
                          bif
                              tsPre
                                { now := now, at_ := at_, tries := tries, again := again, most := most, expiry := expiry,
                                  n := n, round := 1, o := shiftL 0 (D at_ expiry again most n), i := 0 } then
                            ∀ (o : List V),
                              tsIs
                                  { now := now, at_ := at_, tries := tries, again := again, most := most, expiry := expiry,
                                    n := n, round := 1, o := shiftL 0 (D at_ expiry again most n), i := 0 }
                                  o →
                                R (V.bool true)
                          else False
                    else False
              else
                bif (shiftL 0 (D at_ expiry again most n)).all (isIntV IntKind.i64) then
                  bif !(D at_ expiry again most n).length == 0 then R (V.bool false)
                  else
                    bif eD at_ expiry again most n then
                      bif eD at_ expiry again most n then R (V.bool true)
                      else
                        bif (shiftL 1 (D at_ expiry again most n)).all (isIntV IntKind.i64) then
                          bif !(D at_ expiry again most n).length == 0 then R (V.bool false) else R (V.bool true)
                        else False
                    else
                      bif eD at_ expiry again most n then
                        bif (shiftL 1 (D at_ expiry again most n)).all (isIntV IntKind.i64) then
                          bif !(D at_ expiry again most n).length == 0 then R (V.bool false)
                          else
                            Fits 0
                                [V.int IntKind.i64 now, V.int IntKind.i64 at_, V.int IntKind.i64 tries,
                                  V.int IntKind.i64 again, V.int IntKind.i64 most, V.int IntKind.i64 expiry,
                                  V.int IntKind.i64 n, V.bool false, V.int IntKind.i64 1,
                                  V.slice 0 0 (shiftL 1 (D at_ expiry again most n)).length false 0 0, V.int IntKind.i64 0]
                                [Blk.row (shiftL 1 (D at_ expiry again most n)) 3 1]
                                [some (V.int IntKind.i64 now), some (V.int IntKind.i64 at_), some (V.int IntKind.i64 tries),
                                  some (V.int IntKind.i64 again), some (V.int IntKind.i64 most),
                                  some (V.int IntKind.i64 expiry), some (V.int IntKind.i64 n), some (V.bool false),
                                  some (V.int IntKind.i64 1),
                                  some (V.slice 1 0 (D at_ expiry again most n).length false 0 0),
                                  some (V.int IntKind.i64 0)]
                                [Blk.row (shiftL 0 (D at_ expiry again most n)) 3 1,
                                  Blk.row (shiftL 1 (D at_ expiry again most n)) 3 1] ∧
                              bif
                                  tsPre
                                    { now := now, at_ := at_, tries := tries, again := again, most := most,
                                      expiry := expiry, n := n, round := 1, o := shiftL 1 (D at_ expiry again most n),
                                      i := 0 } then
                                ∀ (o : List V),
                                  tsIs
                                      { now := now, at_ := at_, tries := tries, again := again, most := most,
                                        expiry := expiry, n := n, round := 1, o := shiftL 1 (D at_ expiry again most n),
                                        i := 0 }
                                      o →
                                    R (V.bool true)
                              else False
                        else False
                      else
                        bif
                            (shiftL 1 (D at_ expiry again most n)).all (isIntV IntKind.i64) &&
                                    (shiftL 2 (D at_ expiry again most n)).all (isIntV IntKind.i64) &&
                                  decide
                                    ((D at_ expiry again most n).length ≤ (shiftL 1 (D at_ expiry again most n)).length) &&
                                decide
                                  ((D at_ expiry again most n).length ≤ (shiftL 2 (D at_ expiry again most n)).length) &&
                              decide ((D at_ expiry again most n).length ≤ 4611686018427387904) then
                          bif
                              !(decide ((D at_ expiry again most n).length = (D at_ expiry again most n).length) &&
                                  (cmpL (shiftL 1 (D at_ expiry again most n)) (shiftL 2 (D at_ expiry again most n))
                                      (D at_ expiry again most n).length 0).fst) then
                            R (V.bool false)
                          else
                            Fits 0
                                [V.int IntKind.i64 now, V.int IntKind.i64 at_, V.int IntKind.i64 tries,
                                  V.int IntKind.i64 again, V.int IntKind.i64 most, V.int IntKind.i64 expiry,
                                  V.int IntKind.i64 n, V.bool false, V.int IntKind.i64 1,
                                  V.slice 0 0 (shiftL 1 (D at_ expiry again most n)).length false 0 0, V.int IntKind.i64 0]
                                [Blk.row (shiftL 1 (D at_ expiry again most n)) 3 1]
                                [some (V.int IntKind.i64 now), some (V.int IntKind.i64 at_), some (V.int IntKind.i64 tries),
                                  some (V.int IntKind.i64 again), some (V.int IntKind.i64 most),
                                  some (V.int IntKind.i64 expiry), some (V.int IntKind.i64 n), some (V.bool false),
                                  some (V.int IntKind.i64 1),
                                  some (V.slice 1 0 (D at_ expiry again most n).length false 0 0),
                                  some (V.int IntKind.i64 0)]
                                [Blk.row (shiftL 0 (D at_ expiry again most n)) 3 1,
                                  Blk.row (shiftL 1 (D at_ expiry again most n)) 3 1,
                                  Blk.row (shiftL 2 (D at_ expiry again most n)) 3 1] ∧
                              bif
                                  tsPre
                                    { now := now, at_ := at_, tries := tries, again := again, most := most,
                                      expiry := expiry, n := n, round := 1, o := shiftL 1 (D at_ expiry again most n),
                                      i := 0 } then
                                ∀ (o : List V),
                                  tsIs
                                      { now := now, at_ := at_, tries := tries, again := again, most := most,
                                        expiry := expiry, n := n, round := 1, o := shiftL 1 (D at_ expiry again most n),
                                        i := 0 }
                                      o →
                                    R (V.bool true)
                              else False
                        else False
                else False
            else
              bif eD at_ expiry again most n then
                bif (shiftL 0 (D at_ expiry again most n)).all (isIntV IntKind.i64) then
                  bif !(D at_ expiry again most n).length == 0 then R (V.bool false)
                  else
                    Fits 0
                        [V.int IntKind.i64 now, V.int IntKind.i64 at_, V.int IntKind.i64 tries, V.int IntKind.i64 again,
                          V.int IntKind.i64 most, V.int IntKind.i64 expiry, V.int IntKind.i64 n, V.bool false,
                          V.int IntKind.i64 0, V.slice 0 0 (shiftL 0 (D at_ expiry again most n)).length false 0 0,
                          V.int IntKind.i64 0]
                        [Blk.row (shiftL 0 (D at_ expiry again most n)) 3 1]
                        [some (V.int IntKind.i64 now), some (V.int IntKind.i64 at_), some (V.int IntKind.i64 tries),
                          some (V.int IntKind.i64 again), some (V.int IntKind.i64 most), some (V.int IntKind.i64 expiry),
                          some (V.int IntKind.i64 n), some (V.bool false), some (V.int IntKind.i64 0),
                          some (V.slice 0 0 (D at_ expiry again most n).length false 0 0), some (V.int IntKind.i64 0)]
                        [Blk.row (shiftL 0 (D at_ expiry again most n)) 3 1] ∧
                      bif
                          tsPre
                            { now := now, at_ := at_, tries := tries, again := again, most := most, expiry := expiry,
                              n := n, round := 0, o := shiftL 0 (D at_ expiry again most n), i := 0 } then
                        ∀ (o : List V),
                          tsIs
                              { now := now, at_ := at_, tries := tries, again := again, most := most, expiry := expiry,
                                n := n, round := 0, o := shiftL 0 (D at_ expiry again most n), i := 0 }
                              o →
                            bif eD at_ expiry again most n then
                              bif eD at_ expiry again most n then R (V.bool true)
                              else
                                bif (shiftL 1 (D at_ expiry again most n)).all (isIntV IntKind.i64) then
                                  bif !(D at_ expiry again most n).length == 0 then R (V.bool false) else R (V.bool true)
                                else False
                            else
                              bif eD at_ expiry again most n then
                                bif (shiftL 1 (D at_ expiry again most n)).all (isIntV IntKind.i64) then
                                  bif !(D at_ expiry again most n).length == 0 then R (V.bool false)
                                  else
                                    Fits 0
                                        [V.int IntKind.i64 now, V.int IntKind.i64 at_, V.int IntKind.i64 tries,
                                          V.int IntKind.i64 again, V.int IntKind.i64 most, V.int IntKind.i64 expiry,
                                          V.int IntKind.i64 n, V.bool false, V.int IntKind.i64 1,
                                          V.slice 0 0 (shiftL 1 (D at_ expiry again most n)).length false 0 0,
                                          V.int IntKind.i64 0]
                                        [Blk.row (shiftL 1 (D at_ expiry again most n)) 3 1]
                                        [some (V.int IntKind.i64 now), some (V.int IntKind.i64 at_),
                                          some (V.int IntKind.i64 tries), some (V.int IntKind.i64 again),
                                          some (V.int IntKind.i64 most), some (V.int IntKind.i64 expiry),
                                          some (V.int IntKind.i64 n), some (V.bool false), some (V.int IntKind.i64 1),
                                          some (V.slice 1 0 (D at_ expiry again most n).length false 0 0),
                                          some (V.int IntKind.i64 0)]
                                        [Blk.row o 3 1, Blk.row (shiftL 1 (D at_ expiry again most n)) 3 1] ∧
                                      bif
                                          tsPre
                                            { now := now, at_ := at_, tries := tries, again := again, most := most,
                                              expiry := expiry, n := n, round := 1,
                                              o := shiftL 1 (D at_ expiry again most n), i := 0 } then
                                        ∀ (o : List V),
                                          tsIs
                                              { now := now, at_ := at_, tries := tries, again := again, most := most,
                                                expiry := expiry, n := n, round := 1,
                                                o := shiftL 1 (D at_ expiry again most n), i := 0 }
                                              o →
                                            R (V.bool true)
                                      else False
                                else False
                              else
                                bif
                                    (shiftL 1 (D at_ expiry again most n)).all (isIntV IntKind.i64) &&
                                            (shiftL 2 (D at_ expiry again most n)).all (isIntV IntKind.i64) &&
                                          decide
                                            ((D at_ expiry again most n).length ≤
                                              (shiftL 1 (D at_ expiry again most n)).length) &&
                                        decide
                                          ((D at_ expiry again most n).length ≤
                                            (shiftL 2 (D at_ expiry again most n)).length) &&
                                      decide ((D at_ expiry again most n).length ≤ 4611686018427387904) then
                                  bif
                                      !(decide ((D at_ expiry again most n).length = (D at_ expiry again most n).length) &&
                                          (cmpL (shiftL 1 (D at_ expiry again most n))
                                              (shiftL 2 (D at_ expiry again most n)) (D at_ expiry again most n).length
                                              0).fst) then
                                    R (V.bool false)
                                  else
                                    Fits 0
                                        [V.int IntKind.i64 now, V.int IntKind.i64 at_, V.int IntKind.i64 tries,
                                          V.int IntKind.i64 again, V.int IntKind.i64 most, V.int IntKind.i64 expiry,
                                          V.int IntKind.i64 n, V.bool false, V.int IntKind.i64 1,
                                          V.slice 0 0 (shiftL 1 (D at_ expiry again most n)).length false 0 0,
                                          V.int IntKind.i64 0]
                                        [Blk.row (shiftL 1 (D at_ expiry again most n)) 3 1]
                                        [some (V.int IntKind.i64 now), some (V.int IntKind.i64 at_),
                                          some (V.int IntKind.i64 tries), some (V.int IntKind.i64 again),
                                          some (V.int IntKind.i64 most), some (V.int IntKind.i64 expiry),
                                          some (V.int IntKind.i64 n), some (V.bool false), some (V.int IntKind.i64 1),
                                          some (V.slice 1 0 (D at_ expiry again most n).length false 0 0),
                                          some (V.int IntKind.i64 0)]
                                        [Blk.row o 3 1, Blk.row (shiftL 1 (D at_ expiry again most n)) 3 1,
                                          Blk.row (shiftL 2 (D at_ expiry again most n)) 3 1] ∧
                                      bif
                                          tsPre
                                            { now := now, at_ := at_, tries := tries, again := again, most := most,
                                              expiry := expiry, n := n, round := 1,
                                              o := shiftL 1 (D at_ expiry again most n), i := 0 } then
                                        ∀ (o : List V),
                                          tsIs
                                              { now := now, at_ := at_, tries := tries, again := again, most := most,
                                                expiry := expiry, n := n, round := 1,
                                                o := shiftL 1 (D at_ expiry again most n), i := 0 }
                                              o →
                                            R (V.bool true)
                                      else False
                                else False
                      else False
                else False
              else
                bif
                    (shiftL 0 (D at_ expiry again most n)).all (isIntV IntKind.i64) &&
                            (shiftL 1 (D at_ expiry again most n)).all (isIntV IntKind.i64) &&
                          decide ((D at_ expiry again most n).length ≤ (shiftL 0 (D at_ expiry again most n)).length) &&
                        decide ((D at_ expiry again most n).length ≤ (shiftL 1 (D at_ expiry again most n)).length) &&
                      decide ((D at_ expiry again most n).length ≤ 4611686018427387904) then
                  bif
                      !(decide ((D at_ expiry again most n).length = (D at_ expiry again most n).length) &&
                          (cmpL (shiftL 0 (D at_ expiry again most n)) (shiftL 1 (D at_ expiry again most n))
                              (D at_ expiry again most n).length 0).fst) then
                    R (V.bool false)
                  else
                    Fits 0
                        [V.int IntKind.i64 now, V.int IntKind.i64 at_, V.int IntKind.i64 tries, V.int IntKind.i64 again,
                          V.int IntKind.i64 most, V.int IntKind.i64 expiry, V.int IntKind.i64 n, V.bool false,
                          V.int IntKind.i64 0, V.slice 0 0 (shiftL 0 (D at_ expiry again most n)).length false 0 0,
                          V.int IntKind.i64 0]
                        [Blk.row (shiftL 0 (D at_ expiry again most n)) 3 1]
                        [some (V.int IntKind.i64 now), some (V.int IntKind.i64 at_), some (V.int IntKind.i64 tries),
                          some (V.int IntKind.i64 again), some (V.int IntKind.i64 most), some (V.int IntKind.i64 expiry),
                          some (V.int IntKind.i64 n), some (V.bool false), some (V.int IntKind.i64 0),
                          some (V.slice 0 0 (D at_ expiry again most n).length false 0 0), some (V.int IntKind.i64 0)]
                        [Blk.row (shiftL 0 (D at_ expiry again most n)) 3 1,
                          Blk.row (shiftL 1 (D at_ expiry again most n)) 3 1] ∧
                      bif
                          tsPre
                            { now := now, at_ := at_, tries := tries, again := again, most := most, expiry := expiry,
                              n := n, round := 0, o := shiftL 0 (D at_ expiry again most n), i := 0 } then
                        ∀ (o : List V),
                          tsIs
                              { now := now, at_ := at_, tries := tries, again := again, most := most, expiry := expiry,
                                n := n, round := 0, o := shiftL 0 (D at_ expiry again most n), i := 0 }
                              o →
                            bif eD at_ expiry again most n then
                              bif eD at_ expiry again most n then R (V.bool true)
                              else
                                bif (shiftL 1 (D at_ expiry again most n)).all (isIntV IntKind.i64) then
                                  bif !(D at_ expiry again most n).length == 0 then R (V.bool false) else R (V.bool true)
                                else False
                            else
                              bif eD at_ expiry again most n then
                                bif (shiftL 1 (D at_ expiry again most n)).all (isIntV IntKind.i64) then
                                  bif !(D at_ expiry again most n).length == 0 then R (V.bool false)
                                  else
                                    Fits 0
                                        [V.int IntKind.i64 now, V.int IntKind.i64 at_, V.int IntKind.i64 tries,
                                          V.int IntKind.i64 again, V.int IntKind.i64 most, V.int IntKind.i64 expiry,
                                          V.int IntKind.i64 n, V.bool false, V.int IntKind.i64 1,
                                          V.slice 0 0 (shiftL 1 (D at_ expiry again most n)).length false 0 0,
                                          V.int IntKind.i64 0]
                                        [Blk.row (shiftL 1 (D at_ expiry again most n)) 3 1]
                                        [some (V.int IntKind.i64 now), some (V.int IntKind.i64 at_),
                                          some (V.int IntKind.i64 tries), some (V.int IntKind.i64 again),
                                          some (V.int IntKind.i64 most), some (V.int IntKind.i64 expiry),
                                          some (V.int IntKind.i64 n), some (V.bool false), some (V.int IntKind.i64 1),
                                          some (V.slice 1 0 (D at_ expiry again most n).length false 0 0),
                                          some (V.int IntKind.i64 0)]
                                        [Blk.row o 3 1, Blk.row (shiftL 1 (D at_ expiry again most n)) 3 1] ∧
                                      bif
                                          tsPre
                                            { now := now, at_ := at_, tries := tries, again := again, most := most,
                                              expiry := expiry, n := n, round := 1,
                                              o := shiftL 1 (D at_ expiry again most n), i := 0 } then
                                        ∀ (o : List V),
                                          tsIs
                                              { now := now, at_ := at_, tries := tries, again := again, most := most,
                                                expiry := expiry, n := n, round := 1,
                                                o := shiftL 1 (D at_ expiry again most n), i := 0 }
                                              o →
                                            R (V.bool true)
                                      else False
                                else False
                              else
                                bif
                                    (shiftL 1 (D at_ expiry again most n)).all (isIntV IntKind.i64) &&
                                            (shiftL 2 (D at_ expiry again most n)).all (isIntV IntKind.i64) &&
                                          decide
                                            ((D at_ expiry again most n).length ≤
                                              (shiftL 1 (D at_ expiry again most n)).length) &&
                                        decide
                                          ((D at_ expiry again most n).length ≤
                                            (shiftL 2 (D at_ expiry again most n)).length) &&
                                      decide ((D at_ expiry again most n).length ≤ 4611686018427387904) then
                                  bif
                                      !(decide ((D at_ expiry again most n).length = (D at_ expiry again most n).length) &&
                                          (cmpL (shiftL 1 (D at_ expiry again most n))
                                              (shiftL 2 (D at_ expiry again most n)) (D at_ expiry again most n).length
                                              0).fst) then
                                    R (V.bool false)
                                  else
                                    Fits 0
                                        [V.int IntKind.i64 now, V.int IntKind.i64 at_, V.int IntKind.i64 tries,
                                          V.int IntKind.i64 again, V.int IntKind.i64 most, V.int IntKind.i64 expiry,
                                          V.int IntKind.i64 n, V.bool false, V.int IntKind.i64 1,
                                          V.slice 0 0 (shiftL 1 (D at_ expiry again most n)).length false 0 0,
                                          V.int IntKind.i64 0]
                                        [Blk.row (shiftL 1 (D at_ expiry again most n)) 3 1]
                                        [some (V.int IntKind.i64 now), some (V.int IntKind.i64 at_),
                                          some (V.int IntKind.i64 tries), some (V.int IntKind.i64 again),
                                          some (V.int IntKind.i64 most), some (V.int IntKind.i64 expiry),
                                          some (V.int IntKind.i64 n), some (V.bool false), some (V.int IntKind.i64 1),
                                          some (V.slice 1 0 (D at_ expiry again most n).length false 0 0),
                                          some (V.int IntKind.i64 0)]
                                        [Blk.row o 3 1, Blk.row (shiftL 1 (D at_ expiry again most n)) 3 1,
                                          Blk.row (shiftL 2 (D at_ expiry again most n)) 3 1] ∧
                                      bif
                                          tsPre
                                            { now := now, at_ := at_, tries := tries, again := again, most := most,
                                              expiry := expiry, n := n, round := 1,
                                              o := shiftL 1 (D at_ expiry again most n), i := 0 } then
                                        ∀ (o : List V),
                                          tsIs
                                              { now := now, at_ := at_, tries := tries, again := again, most := most,
                                                expiry := expiry, n := n, round := 1,
                                                o := shiftL 1 (D at_ expiry again most n), i := 0 }
                                              o →
                                            R (V.bool true)
                                      else False
                                else False
                      else False
                else False) := by kernel_rfl
theorem shiftL_int (k : Nat) : ∀ {o : List V}, o.all (isIntV .i64) = true → shiftL k o = o
  | [], _ => rfl
  | v :: r, h => by
    simp only [List.all_cons, Bool.and_eq_true] at h
    simp only [shiftL, shiftL_int k h.2]
    cases v <;> first | rfl | simp [isIntV] at h
theorem cmpL_self (o : List V) : ∀ k i, (cmpL o o k i).1 = true
  | 0, _ => rfl
  | k + 1, i => by simp only [cmpL, bne_self_eq_false, cond_false]; exact cmpL_self o k (i + 1)
theorem all_ints (l : List Int) : (ints l).all (isIntV .i64) = true := by
  rw [List.all_eq_true]
  intro x hx
  simp only [ints, List.mem_map] at hx
  obtain ⟨n, _, rfl⟩ := hx
  rfl
/-- The times, one by one: how many are left, the time, how often it was tried. -/
def gen (a e r m : Int) : Nat → Int → Int → List Int
  | 0, _, _ => []
  | k + 1, now, t => now :: bif overF now a e then [] else gen a e r m k (dueF now t r m) (t + 1)
theorem dsFin_gen (k : Nat) : ∀ x : DS, (dsFin k x).out = x.out ++ gen x.a x.e x.r x.m k x.now x.tries := by
  induction k with
  | zero => intro x; simp [dsFin, gen]
  | succ k ih =>
    intro x
    simp only [dsFin, gen]
    cases overF x.now x.a x.e with
    | true => simp
    | false => simp [ih]
theorem duesL_gen (a e r m n : Int) : duesL a e r m n = gen a e r m (cut64 n).toNat (clamp 1099511627776 a) 0 := by
  unfold duesL
  rw [dsFin_gen]
  simp [ds0, dsMu]
theorem gen_len (a e r m : Int) : ∀ (k : Nat) (now t : Int), (gen a e r m k now t).length ≤ k
  | 0, _, _ => Nat.le_refl 0
  | k + 1, now, t => by
    simp only [gen]
    cases overF now a e with
    | true => simp
    | false => simpa using gen_len a e r m k (dueF now t r m) (t + 1)
theorem dues_len (a e r m n : Int) : (duesL a e r m n).length ≤ 64 := by
  have h1 := gen_len a e r m (cut64 n).toNat (clamp 1099511627776 a) 0
  have h2 := cut64_in n
  rw [duesL_gen]; omega
theorem tells_run (now at_ tries again most expiry n : Int) : FnSat Try.prog 5 [.int .i64 now, .int .i64 at_, .int .i64 tries, .int .i64 again, .int .i64 most, .int .i64 expiry, .int .i64 n] [] (Is (.bool true, [])) := by
  refine pureW_of (lim := 100) (n := 10) mixed (TG_ok (addLk_ok (noLks_ok 100) lk5_ok)) rfl rfl ?_
  rw [tells_tree]
  have ha : (duesI at_ expiry again most n).all (isIntV .i64) = true := all_ints _
  have hs : ∀ k, shiftL k (duesI at_ expiry again most n) = duesI at_ expiry again most n := fun k => shiftL_int k ha
  have hl : (duesI at_ expiry again most n).length ≤ 64 := by unfold duesI; rw [ints_len]; exact dues_len _ _ _ _ _
  have he : duesE at_ expiry again most n = true → (duesI at_ expiry again most n).length = 0 := by
    intro h; unfold duesE at h; unfold duesI; rw [ints_len]; simpa using h
  have hn : (!overF now at_ expiry == overF now at_ expiry) = false := by cases overF now at_ expiry <;> rfl
  generalize duesI at_ expiry again most n = o at *
  have hd : decide (o.length ≤ 4611686018427387904) = true := decide_eq_true (by omega)
  simp only [hs, ha, hn, hd, cmpL_self, bne_self_eq_false, cond_false, cond_true, decide_true, Bool.and_self, Bool.not_true, Nat.le_refl]
  have hp : ∀ round, tsPre ⟨now, at_, tries, again, most, expiry, n, round, o, 0⟩ = true := by
    intro round
    simp only [tsPre, ha, Bool.and_true, Bool.and_eq_true, decide_eq_true_eq]
    omega
  cases hE : duesE at_ expiry again most n with
  | true =>
    simp only [cond_true]
  | false =>
    simp only [cond_false]
    refine ⟨ts_fits now at_ tries again most expiry n 0 0 [] o ha _ rfl _ ⟨[.row o 3 1], rfl⟩, must_intro (hp 0) fun o' ho' => ?_⟩
    refine ⟨ts_fits now at_ tries again most expiry n 1 0 [.row o' 3 1] o ha _ rfl _ ⟨[.row o 3 1], rfl⟩, must_intro (hp 1) fun o' ho' => ?_⟩
    trivial
theorem retryTells_walk (a0 a1 a2 a3 a4 a5 a6 : Int) (w0 : (Lit.int .i64 a0).wf = true) (w1 : (Lit.int .i64 a1).wf = true) (w2 : (Lit.int .i64 a2).wf = true) (w3 : (Lit.int .i64 a3).wf = true) (w4 : (Lit.int .i64 a4).wf = true) (w5 : (Lit.int .i64 a5).wf = true) (w6 : (Lit.int .i64 a6).wf = true) (w : World) :
    Calls Try.prog 5 #[.int .i64 a0, .int .i64 a1, .int .i64 a2, .int .i64 a3, .int .i64 a4, .int .i64 a5, .int .i64 a6] w (fun e w' => e = .returned (.bool true) ∧ Below w.heap.size w w') :=
  law_of_sat (args := [.int .i64 a0, .int .i64 a1, .int .i64 a2, .int .i64 a3, .int .i64 a4, .int .i64 a5, .int .i64 a6]) (rargs := [.int .i64 a0, .int .i64 a1, .int .i64 a2, .int .i64 a3, .int .i64 a4, .int .i64 a5, .int .i64 a6]) ((tells_run a0 a1 a2 a3 a4 a5 a6).mono fun u s h => by cases h; rfl) (by simp only [realL, real]) w
end Go.Proofs.Ytleflholgkcmkaa
