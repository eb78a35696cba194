/- The document's times at which it is tried. -/
import Derived.Test.YtleflholgkcmkaaDues2
namespace Go.Proofs.Ytleflholgkcmkaa
open Go Go.Vm Go.RowKit
set_option linter.unusedVariables false
def ddV (x : DS) (v10 v11 : V) : List V := [.int .i64 x.a, .int .i64 x.e, .int .i64 x.r, .int .i64 x.m, .int .i64 x.n, v10, v11, .int .i64 x.now, .int .i64 x.tries]
theorem dd_round0 (a e r m n now tries : Int) (R : Exit → List (Option V) → St → Prop) : roundW Try.prog T4 100 10 (rounds 100) 19 122 [0,1,2,3,4,10,11,12,13] (ddV ⟨a, e, r, m, n, now, tries, []⟩ .nilSlice .nilSlice) [] R =
   (
    bif decide (tries < n) then
      bif decide (tries < 64) then
        bif overF now a e then
          R Exit.ret
            [some (V.int IntKind.i64 a), some (V.int IntKind.i64 e), some (V.int IntKind.i64 r), some (V.int IntKind.i64 m),
              some (V.int IntKind.i64 n), some (V.slice 1 0 1 false 0 0), some (V.slice 1 0 1 false 0 0),
              some (V.int IntKind.i64 now), some (V.int IntKind.i64 tries)]
            [Blk.row [V.int IntKind.i64 now] 3 1, Blk.row [V.int IntKind.i64 now] 3 1]
        else
          R Exit.normal
            [some (V.int IntKind.i64 a), some (V.int IntKind.i64 e), some (V.int IntKind.i64 r), some (V.int IntKind.i64 m),
              some (V.int IntKind.i64 n), some V.nilSlice, some (V.slice 1 0 1 false 0 0),
              some (V.int IntKind.i64 (dueF now tries r m)), some (V.int IntKind.i64 (IntKind.i64.wrap (tries + 1)))]
            [Blk.row [V.int IntKind.i64 now] 3 1, Blk.row [V.int IntKind.i64 now] 3 1]
      else
        R (Exit.exit 0)
          [some (V.int IntKind.i64 a), some (V.int IntKind.i64 e), some (V.int IntKind.i64 r), some (V.int IntKind.i64 m),
            some (V.int IntKind.i64 n), some V.nilSlice, some V.nilSlice, some (V.int IntKind.i64 now),
            some (V.int IntKind.i64 tries)]
          []
    else
      R (Exit.exit 0)
        [some (V.int IntKind.i64 a), some (V.int IntKind.i64 e), some (V.int IntKind.i64 r), some (V.int IntKind.i64 m),
          some (V.int IntKind.i64 n), some V.nilSlice, some V.nilSlice, some (V.int IntKind.i64 now),
          some (V.int IntKind.i64 tries)]
        []) := by kernel_rfl
theorem dd_round1 (a e r m n now tries : Int) (o : List V) (R : Exit → List (Option V) → St → Prop) : roundW Try.prog T4 100 10 (rounds 100) 19 122 [0,1,2,3,4,10,11,12,13] (ddV ⟨a, e, r, m, n, now, tries, []⟩ .nilSlice (.slice 0 0 o.length false 0 0)) [.row o 3 1] R =
   (
    bif decide (tries < n) then
      bif decide (tries < 64) then
        bif o.length.beq (o.length * 1) then
          bif (o.length + 1).ble 9223372036854775807 && ((o.length + 1) * 8).ble 140737488355328 then
            bif overF now a e then
              R Exit.ret
                [some (V.int IntKind.i64 a), some (V.int IntKind.i64 e), some (V.int IntKind.i64 r),
                  some (V.int IntKind.i64 m), some (V.int IntKind.i64 n), some (V.slice 2 0 (o.length + 1) false 0 0),
                  some (V.slice 2 0 (o.length + 1) false 0 0), some (V.int IntKind.i64 now), some (V.int IntKind.i64 tries)]
                [Blk.dead, Blk.row [V.int IntKind.i64 now] 3 1, Blk.row (o ++ [V.int IntKind.i64 now]) 3 1]
            else
              R Exit.normal
                [some (V.int IntKind.i64 a), some (V.int IntKind.i64 e), some (V.int IntKind.i64 r),
                  some (V.int IntKind.i64 m), some (V.int IntKind.i64 n), some V.nilSlice,
                  some (V.slice 2 0 (o.length + 1) false 0 0), some (V.int IntKind.i64 (dueF now tries r m)),
                  some (V.int IntKind.i64 (IntKind.i64.wrap (tries + 1)))]
                [Blk.dead, Blk.row [V.int IntKind.i64 now] 3 1, Blk.row (o ++ [V.int IntKind.i64 now]) 3 1]
          else False
        else False
      else
        R (Exit.exit 0)
          [some (V.int IntKind.i64 a), some (V.int IntKind.i64 e), some (V.int IntKind.i64 r), some (V.int IntKind.i64 m),
            some (V.int IntKind.i64 n), some V.nilSlice, some (V.slice 0 0 o.length false 0 0),
            some (V.int IntKind.i64 now), some (V.int IntKind.i64 tries)]
          [Blk.row o 3 1]
    else
      R (Exit.exit 0)
        [some (V.int IntKind.i64 a), some (V.int IntKind.i64 e), some (V.int IntKind.i64 r), some (V.int IntKind.i64 m),
          some (V.int IntKind.i64 n), some V.nilSlice, some (V.slice 0 0 o.length false 0 0), some (V.int IntKind.i64 now),
          some (V.int IntKind.i64 tries)]
        [Blk.row o 3 1]) := by kernel_rfl
def ddX (x : DS) : DS := ⟨x.a, x.e, x.r, x.m, cut64 x.n, x.now, x.tries, x.out⟩
def ddEnd0 (x : DS) (now tries : Int) : Prop := dsFin (dsMu (ddX x)) (ddX x) = ⟨x.a, x.e, x.r, x.m, cut64 x.n, now, tries, []⟩
def ddEnd1 (x : DS) (now tries : Int) (o : List V) : Prop := ∃ h t, o = ints (h :: t) ∧ dsFin (dsMu (ddX x)) (ddX x) = ⟨x.a, x.e, x.r, x.m, cut64 x.n, now, tries, h :: t⟩
def ddOut : Asks DS := fun x K =>
  (∀ now tries, ddEnd0 x now tries → K (.exit 0) (ddV ⟨x.a, x.e, x.r, x.m, x.n, now, tries, []⟩ .nilSlice .nilSlice) []) ∧
  (∀ now tries o, ddEnd1 x now tries o → K (.exit 0) (ddV ⟨x.a, x.e, x.r, x.m, x.n, now, tries, []⟩ .nilSlice (.slice 0 0 o.length false 0 0)) [.row o 3 1]) ∧
  (∀ now tries o, ddEnd1 x now tries o → K .ret (ddV ⟨x.a, x.e, x.r, x.m, x.n, now, tries, []⟩ (.slice 0 0 o.length false 0 0) (.slice 0 0 o.length false 0 0)) [.row o 3 1])
def ddSl : List Int → V
  | [] => .nilSlice
  | h :: t => .slice 0 0 (h :: t).length false 0 0
def ddPre (x : DS) : Bool := decide (0 ≤ x.tries) && decide (x.tries ≤ cut64 x.n) && decide ((x.out.length : Int) = x.tries)
def ddVs (x : DS) : List V := ddV x .nilSlice (ddSl x.out)
def ddJ (x : DS) : St := match x.out with
  | [] => []
  | h :: t => [.row (ints (h :: t)) 3 1]
def ddMu (x : DS) : Nat := dsMu (ddX x)
theorem dd_fit1 (a e r m n now tries : Int) (v u : V) (G : St) (o : List Int) (hv : renV [G.length] v = some u) (st : St) (hst : st = G ++ [.row (ints o) 3 1]) (L : Nat) (hL : L = (ints o).length) :
    Fits 0 (ddV ⟨a, e, r, m, n, now, tries, []⟩ v (.slice 0 0 L false 0 0)) [.row (ints o) 3 1]
      ((ddV ⟨a, e, r, m, n, now, tries, []⟩ u (.slice G.length 0 L false 0 0)).map some) st := by
  subst hst hL
  refine ⟨[G.length], ddV ⟨a, e, r, m, n, now, tries, []⟩ u (.slice G.length 0 (ints o).length false 0 0), rfl, ?_, FitsM.of ⟨.inr ⟨.row (ints o) 3 1, .inl (by simp only [renB, ints_ren]), by simp⟩, trivial⟩, by simp, fun i hi => by omega⟩
  simp only [ddV, renL, renV, hv, List.getElem?_cons_zero]
theorem dd_fit0 (a e r m n now tries : Int) :
    Fits 0 (ddV ⟨a, e, r, m, n, now, tries, []⟩ .nilSlice .nilSlice) [] ((ddV ⟨a, e, r, m, n, now, tries, []⟩ .nilSlice .nilSlice).map some) [] :=
  ⟨[], ddV ⟨a, e, r, m, n, now, tries, []⟩ .nilSlice .nilSlice, rfl, rfl, FitsM.of trivial, by simp, fun i hi => by omega⟩
theorem dd_round (x : DS) (hx : ddPre x = true) : roundW Try.prog T4 100 10 (rounds 100) 19 122 [0,1,2,3,4,10,11,12,13] (ddVs x) (ddJ x) (RoundOkA 0 ddPre ddVs ddJ ddMu ddOut x) := by
  obtain ⟨a, e, r, m, n, now, tries, out⟩ := x
  simp only [ddPre, Bool.and_eq_true, decide_eq_true_eq] at hx
  obtain ⟨⟨p1, p2⟩, p4⟩ := hx
  have hcut : tries < n → tries < 64 → tries ≠ cut64 n := by
    intro h1 h2
    unfold cut64; (repeat' split) <;> omega
  have hcut2 : ¬ (tries < n ∧ tries < 64) → tries = cut64 n := by
    intro h
    have := cut64_in n
    revert p2
    unfold cut64; (repeat' split) <;> omega
  have stop : tries = cut64 n → dsFin (ddMu ⟨a, e, r, m, n, now, tries, out⟩) ⟨a, e, r, m, cut64 n, now, tries, out⟩ = ⟨a, e, r, m, cut64 n, now, tries, out⟩ := by
    intro h
    have : ddMu ⟨a, e, r, m, n, now, tries, out⟩ = 0 := by simp only [ddMu, ddX, dsMu]; omega
    rw [this]; rfl
  have next : tries ≠ cut64 n → ddMu ⟨a, e, r, m, n, now, tries, out⟩ = ddMu ⟨a, e, r, m, n, dueF now tries r m, tries + 1, out ++ [now]⟩ + 1 := by
    intro h
    simp only [ddMu, ddX, dsMu]; omega
  have over : tries ≠ cut64 n → overF now a e = true → dsFin (ddMu ⟨a, e, r, m, n, now, tries, out⟩) ⟨a, e, r, m, cut64 n, now, tries, out⟩ = ⟨a, e, r, m, cut64 n, now, tries, out ++ [now]⟩ := by
    intro h ho
    rw [next h]; simp only [dsFin, ho, cond_true]
  have go : tries ≠ cut64 n → overF now a e = false → dsFin (ddMu ⟨a, e, r, m, n, now, tries, out⟩) ⟨a, e, r, m, cut64 n, now, tries, out⟩ = dsFin (ddMu ⟨a, e, r, m, n, dueF now tries r m, tries + 1, out ++ [now]⟩) ⟨a, e, r, m, cut64 n, dueF now tries r m, tries + 1, out ++ [now]⟩ := by
    intro h ho
    rw [next h]; simp only [dsFin, ho, cond_false]
  have again : tries ≠ cut64 n → overF now a e = false → ∀ K, ddOut ⟨a, e, r, m, n, now, tries, out⟩ K → ddOut ⟨a, e, r, m, n, dueF now tries r m, tries + 1, out ++ [now]⟩ K := by
    intro h ho K hK
    have hg := go h ho
    refine ⟨fun now' tries' he => hK.1 now' tries' (hg.trans he), fun now' tries' o he => hK.2.1 now' tries' o ?_, fun now' tries' o he => hK.2.2 now' tries' o ?_⟩ <;>
    · obtain ⟨h1, t1, e1, e2⟩ := he
      exact ⟨h1, t1, e1, hg.trans e2⟩
  have e1 : tries ≠ cut64 n → IntKind.i64.wrap (tries + 1) = tries + 1 := fun h => IntWalk.i64_in _ ⟨by omega, by have := cut64_in n; omega⟩
  have hpre : tries ≠ cut64 n → ddPre ⟨a, e, r, m, n, dueF now tries r m, tries + 1, out ++ [now]⟩ = true := by
    intro h
    simp only [ddPre, Bool.and_eq_true, decide_eq_true_eq, List.length_append, List.length_cons, List.length_nil]
    omega
  cases out with
  | nil =>
    show roundW Try.prog T4 100 10 (rounds 100) 19 122 [0,1,2,3,4,10,11,12,13] (ddV ⟨a, e, r, m, n, now, tries, []⟩ .nilSlice .nilSlice) [] _
    rw [dd_round0]
    refine bif_intro (fun h1 => bif_intro (fun h2 => bif_intro (fun ho => ?_) (fun ho => ?_)) (fun h2 => ?_)) (fun h1 => ?_) <;> simp only [decide_eq_true_eq, decide_eq_false_iff_not] at *
    · exact ⟨_, _, fun K hK => hK.2.2 now tries (ints [now]) ⟨now, [], rfl, over (hcut h1 h2) ho⟩, dd_fit1 a e r m n now tries _ _ [.row [.int .i64 now] 3 1] [now] rfl _ rfl _ rfl⟩
    · have h := hcut h1 h2
      refine ⟨⟨a, e, r, m, n, dueF now tries r m, tries + 1, [] ++ [now]⟩, hpre h, ?_, by have := next h; omega, again h ho⟩
      rw [e1 h]
      exact dd_fit1 a e r m n _ (tries + 1) .nilSlice .nilSlice [.row [.int .i64 now] 3 1] [now] rfl _ rfl _ rfl
    · exact ⟨_, _, fun K hK => hK.1 now tries (stop (hcut2 (by omega))), dd_fit0 a e r m n now tries⟩
    · exact ⟨_, _, fun K hK => hK.1 now tries (stop (hcut2 (by omega))), dd_fit0 a e r m n now tries⟩
  | cons h0 t =>
    show roundW Try.prog T4 100 10 (rounds 100) 19 122 [0,1,2,3,4,10,11,12,13] (ddV ⟨a, e, r, m, n, now, tries, []⟩ .nilSlice (.slice 0 0 (h0 :: t).length false 0 0)) [.row (ints (h0 :: t)) 3 1] _
    have hl : (h0 :: t).length = (ints (h0 :: t)).length := by simp [ints]
    have hl2 : (ints (h0 :: t)).length ≤ 64 := by rw [← hl]; have := cut64_in n; omega
    have ha : ints (h0 :: t) ++ [V.int .i64 now] = ints (h0 :: (t ++ [now])) := by simp [ints]
    have hlen : (ints (h0 :: t)).length + 1 = (ints (h0 :: (t ++ [now]))).length := by simp [ints]
    rw [hl, dd_round1]
    refine bif_intro (fun h1 => bif_intro (fun h2 => must_intro (by simp) (must_intro ?_ (bif_intro (fun ho => ?_) (fun ho => ?_)))) (fun h2 => ?_)) (fun h1 => ?_)
    · simp only [Bool.and_eq_true]
      exact ⟨Nat.ble_eq_true_of_le (by omega), Nat.ble_eq_true_of_le (by omega)⟩
    all_goals simp only [decide_eq_true_eq, decide_eq_false_iff_not] at *
    · rw [ha, hlen]
      exact ⟨_, _, fun K hK => hK.2.2 now tries (ints (h0 :: (t ++ [now]))) ⟨h0, t ++ [now], rfl, over (hcut h1 h2) ho⟩, dd_fit1 a e r m n now tries _ _ [.dead, .row [.int .i64 now] 3 1] (h0 :: (t ++ [now])) rfl _ rfl _ rfl⟩
    · have h := hcut h1 h2
      refine ⟨⟨a, e, r, m, n, dueF now tries r m, tries + 1, (h0 :: t) ++ [now]⟩, hpre h, ?_, by have := next h; omega, again h ho⟩
      rw [e1 h, ha, hlen, ints_len]
      exact dd_fit1 a e r m n _ (tries + 1) .nilSlice .nilSlice [.dead, .row [.int .i64 now] 3 1] (h0 :: (t ++ [now])) rfl _ rfl _ (ints_len _).symm
    · exact ⟨_, _, fun K hK => hK.2.1 now tries (ints (h0 :: t)) ⟨h0, t, rfl, stop (hcut2 (by omega))⟩, dd_fit1 a e r m n now tries _ _ [] (h0 :: t) rfl _ rfl _ rfl⟩
    · exact ⟨_, _, fun K hK => hK.2.1 now tries (ints (h0 :: t)) ⟨h0, t, rfl, stop (hcut2 (by omega))⟩, dd_fit1 a e r m n now tries _ _ [] (h0 :: t) rfl _ rfl _ rfl⟩
def ddDec : List (Option V) → St → Option DS
  | [some (.int .i64 a), some (.int .i64 e), some (.int .i64 r), some (.int .i64 m), some (.int .i64 n), some .nilSlice, some .nilSlice, some (.int .i64 now), some (.int .i64 tries)], _ => some ⟨a, e, r, m, n, now, tries, []⟩
  | _, _ => none
noncomputable def lk19 : Nat → Trans → Trans := withLoop 122 (loopA 0 40 [0,1,2,3,4,10,11,12,13] ddDec ddPre ddVs ddJ ddOut) (rounds 100)
theorem lk19_ok : FnLoopsW Try.prog 0 lk19 19 :=
  fnLoopW (fnRoundsW 100 0 19) (by kernel_rfl) fun f st Q h => loopA_ok (P := Try.prog) (lim := 100) (n := 10) (g := 19) mixed T4_ok (roundsW 100 _ _) ddMu dd_round h
noncomputable def T5 : Tab := ⟨ofPure F3, addL noL 14 sameF, addLk (addLk (noLks 100) 26 9 lk26) 19 0 lk19⟩
theorem T5_ok : TabOk3 Try.prog T5 := ⟨ofPure_ok F3_ok, addL_ok noL_ok sameF_ok, addLk_ok (addLk_ok (noLks_ok 100) lk26_ok) lk19_ok⟩
theorem doc_tree (a e r m n : Int) (R : V → St → Prop) : runM Try.prog T5 100 10 19 [.int .i64 a, .int .i64 e, .int .i64 r, .int .i64 m, .int .i64 n] R =
   (
    Fits 0
        [V.int IntKind.i64 a, V.int IntKind.i64 e, V.int IntKind.i64 r, V.int IntKind.i64 m, V.int IntKind.i64 n,
          V.nilSlice, V.nilSlice, V.int IntKind.i64 (clamp 1099511627776 a), V.int IntKind.i64 0]
        []
        [some (V.int IntKind.i64 a), some (V.int IntKind.i64 e), some (V.int IntKind.i64 r), some (V.int IntKind.i64 m),
          some (V.int IntKind.i64 n), some V.nilSlice, some V.nilSlice, some (V.int IntKind.i64 (clamp 1099511627776 a)),
          some (V.int IntKind.i64 0)]
        [] ∧
      bif ddPre { a := a, e := e, r := r, m := m, n := n, now := clamp 1099511627776 a, tries := 0, out := [] } then
        (∀ (now tries : Int),
            ddEnd0 { a := a, e := e, r := r, m := m, n := n, now := clamp 1099511627776 a, tries := 0, out := [] } now
                tries →
              R V.nilSlice []) ∧
          (∀ (now tries : Int) (o : List V),
              ddEnd1 { a := a, e := e, r := r, m := m, n := n, now := clamp 1099511627776 a, tries := 0, out := [] } now
                  tries o →
                R (V.slice 0 0 o.length false 0 0) [Blk.row o 3 1]) ∧
            ∀ (now tries : Int) (o : List V),
              ddEnd1 { a := a, e := e, r := r, m := m, n := n, now := clamp 1099511627776 a, tries := 0, out := [] } now
                  tries o →
                R (V.slice 0 0 o.length false 0 0) [Blk.row o 3 1]
      else False) := by kernel_rfl
theorem doc_sat (a e r m n : Int) : FnSat Try.prog 19 [.int .i64 a, .int .i64 e, .int .i64 r, .int .i64 m, .int .i64 n] [] (Is (outL (duesL a e r m n))) := by
  refine FnSat.fits (runM_ok (lim := 100) (n := 10) mixed T5_ok ?_)
  rw [doc_tree]
  refine ⟨dd_fit0 a e r m n _ 0, must_intro ?_ ⟨?_, ?_, ?_⟩⟩
  · have := cut64_in n
    simp only [ddPre, Bool.and_eq_true, decide_eq_true_eq, List.length_nil]
    omega
  · intro now tries h
    have h : dsFin (dsMu (ds0 a e r m n)) (ds0 a e r m n) = ⟨a, e, r, m, cut64 n, now, tries, []⟩ := h
    have h2 : duesL a e r m n = [] := by unfold duesL; rw [h]
    rw [h2]
    exact ⟨[], [.nilSlice], rfl, rfl, FitsM.of trivial, by simp, fun i hi => by omega⟩
  all_goals
    rintro now tries o ⟨h0, t, rfl, h⟩
    have h : dsFin (dsMu (ds0 a e r m n)) (ds0 a e r m n) = ⟨a, e, r, m, cut64 n, now, tries, h0 :: t⟩ := h
    have h2 : duesL a e r m n = h0 :: t := by unfold duesL; rw [h]
    rw [h2]
    exact outL_fits h0 t [] _ rfl
/-- Two tables' entries: a list of numbers, or none. -/
def duesG (D : Int → Int → Int → Int → Int → List V) (eD : Int → Int → Int → Int → Int → Bool) : List V → Option (List (Bool × (V × St)))
  | [.int .i64 a, .int .i64 e, .int .i64 r, .int .i64 m, .int .i64 n] => some [(eD a e r m n, (.nilSlice, [])), (true, (.slice 0 0 (D a e r m n).length false 0 0, [.row (D a e r m n) 3 1]))]
  | _ => none
def duesI (a e r m n : Int) : List V := ints (duesL a e r m n)
def duesE (a e r m n : Int) : Bool := (duesL a e r m n).isEmpty
def duesF : List V → Option (List (Bool × (V × St))) := duesG duesI duesE
theorem duesF_pick {a e r m n : Int} {o : V × St} (h : pickO [((duesL a e r m n).isEmpty, (V.nilSlice, ([] : St))), (true, (.slice 0 0 (ints (duesL a e r m n)).length false 0 0, [.row (ints (duesL a e r m n)) 3 1]))] = some o) : o = outL (duesL a e r m n) := by
  unfold outL
  revert h
  cases duesL a e r m n <;> (simp only [pickO, List.isEmpty_nil, List.isEmpty_cons, cond_true, cond_false, Option.some.injEq]; intro h; exact h.symm)
theorem duesF_ok {g : Nat} (hs : ∀ a e r m n : Int, FnSat Try.prog g [.int .i64 a, .int .i64 e, .int .i64 r, .int .i64 m, .int .i64 n] [] (Is (outL (duesL a e r m n)))) : ∀ args l o, duesF args = some l → pickO l = some o → FnSat Try.prog g args [] (Is o) := by
  intro args l o hl ho
  unfold duesF duesG duesI duesE at hl
  split at hl
  · cases hl
    rw [duesF_pick ho]
    exact hs _ _ _ _ _
  · cases hl
noncomputable def T6 : Tab := ⟨addT (addT (ofPure F3) 13 duesF) 19 duesF, addL noL 14 sameF, noLks 100⟩
theorem T6_ok : TabOk3 Try.prog T6 := ⟨addT_ok (addT_ok (ofPure_ok F3_ok) (duesF_ok dues_sat)) (duesF_ok doc_sat), addL_ok noL_ok sameF_ok, noLks_ok 100⟩
end Go.Proofs.Ytleflholgkcmkaa
