/- The times at which it is tried: what they come to. -/
import Derived.Test.YtleflholgkcmkaaVmc
import Derived.Test.YtleflholgkcmkaaSame
namespace Go.Proofs.Ytleflholgkcmkaa
open Go Go.Vm Go.RowKit
set_option linter.unusedVariables false
def rangeOf : Code → Option (Array Tmp × Code × Code)
  | .seq a b => (rangeOf a).or (rangeOf b)
  | .cond _ a b => (rangeOf a).or (rangeOf b)
  | .block _ c => rangeOf c
  | .loop c => rangeOf c
  | .rangeFunc _ ps asg bd => some (ps, asg, bd)
  | _ => none
/-- The record of a function's range. -/
def rgLoop (P : Program) (g : Nat) (s : LoopState) (p : Option Code) (T : List (Nat × V)) (dn : Nat) : Blk := match rangeOf (bodyOf P g) with
  | some (ps, asg, bd) => .loop s p (szOf P g) (putsT .lf T) ps asg bd dn
  | none => .dead
structure DS where
  a : Int
  e : Int
  r : Int
  m : Int
  n : Int
  now : Int
  tries : Int
  out : List Int
def ints (l : List Int) : List V := l.map (V.int .i64)
def dsSl : List Int → V
  | [] => .nilSlice
  | h :: t => .slice 9 0 (h :: t).length false 0 0
def dsRow : List Int → St
  | [] => []
  | h :: t => [.row (ints (h :: t)) 3 1]
def dsT : List (Nat × V) := [(5, .ptr 0 0), (6, .ptr 1 0), (9, .ptr 2 0), (11, .ptr 3 0)]
noncomputable def dsL (s : LoopState) (p : Option Code) : Blk := rgLoop Try.prog 13 s p dsT 7
noncomputable def dsM (x : DS) (s : LoopState) (p : Option Code) (v : V) (rest : St) : St := [.row [.int .i64 x.a] 3 1, .row [.int .i64 x.e] 3 1, .row [.int .i64 x.n] 3 1,
    .row [v] 28 1, .row [.int .i64 x.a] 3 1, .row [.int .i64 x.r] 3 1, .row [.int .i64 x.m] 3 1, .defd, dsL s p] ++ rest
def dsV (x : DS) : List V := [.yield 8, .ptr 4 0, .ptr 5 0, .ptr 6 0, .int .i64 x.now, .int .i64 x.tries]
noncomputable def dsJ (x : DS) : St := dsM x .ready none (dsSl x.out) (dsRow x.out)
def dsPre (x : DS) : Bool := decide (0 ≤ x.tries) && decide (x.tries ≤ x.n) && decide (x.n ≤ 64) && decide ((x.out.length : Int) = x.tries)
theorem dues_round0 (a e r m n now tries : Int) (R : Exit → List (Option V) → St → Prop) : roundW Try.prog T3 100 10 (rounds 100) 26 14 [0,1,2,3,5,6] (dsV ⟨a, e, r, m, n, now, tries, []⟩) (dsM ⟨a, e, r, m, n, now, tries, []⟩ .ready none .nilSlice []) R =
   (
    bif tries == n then
      R (Exit.exit 0)
        [some (V.yield 8), some (V.ptr 4 0), some (V.ptr 5 0), some (V.ptr 6 0), some (V.int IntKind.i64 now),
          some (V.int IntKind.i64 tries)]
        [Blk.row [V.int IntKind.i64 a] 3 1, Blk.row [V.int IntKind.i64 e] 3 1, Blk.row [V.int IntKind.i64 n] 3 1,
          Blk.row [V.nilSlice] 28 1, Blk.row [V.int IntKind.i64 a] 3 1, Blk.row [V.int IntKind.i64 r] 3 1,
          Blk.row [V.int IntKind.i64 m] 3 1, Blk.defd, dsL LoopState.done (some (Code.exit 0))]
    else
      bif overF now a e then
        R (Exit.exit 0)
          [some (V.yield 8), some (V.ptr 4 0), some (V.ptr 5 0), some (V.ptr 6 0), some (V.int IntKind.i64 now),
            some (V.int IntKind.i64 tries)]
          [Blk.row [V.int IntKind.i64 a] 3 1, Blk.row [V.int IntKind.i64 e] 3 1, Blk.row [V.int IntKind.i64 n] 3 1,
            Blk.row [V.slice 10 0 1 false 0 0] 28 1, Blk.row [V.int IntKind.i64 a] 3 1, Blk.row [V.int IntKind.i64 r] 3 1,
            Blk.row [V.int IntKind.i64 m] 3 1, Blk.defd, dsL LoopState.done (some (Code.exit 0)),
            Blk.row [V.int IntKind.i64 now] 3 1, Blk.row [V.int IntKind.i64 now] 3 1]
      else
        R Exit.normal
          [some (V.yield 8), some (V.ptr 4 0), some (V.ptr 5 0), some (V.ptr 6 0),
            some (V.int IntKind.i64 (dueF now tries r m)), some (V.int IntKind.i64 (IntKind.i64.wrap (tries + 1)))]
          [Blk.row [V.int IntKind.i64 a] 3 1, Blk.row [V.int IntKind.i64 e] 3 1, Blk.row [V.int IntKind.i64 n] 3 1,
            Blk.row [V.slice 10 0 1 false 0 0] 28 1, Blk.row [V.int IntKind.i64 a] 3 1, Blk.row [V.int IntKind.i64 r] 3 1,
            Blk.row [V.int IntKind.i64 m] 3 1, Blk.defd, dsL LoopState.ready none, Blk.row [V.int IntKind.i64 now] 3 1,
            Blk.row [V.int IntKind.i64 now] 3 1]) := by kernel_rfl
theorem dues_round1 (a e r m n now tries : Int) (o : List V) (R : Exit → List (Option V) → St → Prop) : roundW Try.prog T3 100 10 (rounds 100) 26 14 [0,1,2,3,5,6] (dsV ⟨a, e, r, m, n, now, tries, []⟩) (dsM ⟨a, e, r, m, n, now, tries, []⟩ .ready none (.slice 9 0 o.length false 0 0) [.row o 3 1]) R =
   (
    bif tries == n then
      R (Exit.exit 0)
        [some (V.yield 8), some (V.ptr 4 0), some (V.ptr 5 0), some (V.ptr 6 0), some (V.int IntKind.i64 now),
          some (V.int IntKind.i64 tries)]
        [Blk.row [V.int IntKind.i64 a] 3 1, Blk.row [V.int IntKind.i64 e] 3 1, Blk.row [V.int IntKind.i64 n] 3 1,
          Blk.row [V.slice 9 0 o.length false 0 0] 28 1, Blk.row [V.int IntKind.i64 a] 3 1,
          Blk.row [V.int IntKind.i64 r] 3 1, Blk.row [V.int IntKind.i64 m] 3 1, Blk.defd,
          dsL LoopState.done (some (Code.exit 0)), Blk.row o 3 1]
    else
      bif o.length.beq (o.length * 1) then
        bif (o.length + 1).ble 9223372036854775807 && ((o.length + 1) * 8).ble 140737488355328 then
          bif overF now a e then
            R (Exit.exit 0)
              [some (V.yield 8), some (V.ptr 4 0), some (V.ptr 5 0), some (V.ptr 6 0), some (V.int IntKind.i64 now),
                some (V.int IntKind.i64 tries)]
              [Blk.row [V.int IntKind.i64 a] 3 1, Blk.row [V.int IntKind.i64 e] 3 1, Blk.row [V.int IntKind.i64 n] 3 1,
                Blk.row [V.slice 11 0 (o.length + 1) false 0 0] 28 1, Blk.row [V.int IntKind.i64 a] 3 1,
                Blk.row [V.int IntKind.i64 r] 3 1, Blk.row [V.int IntKind.i64 m] 3 1, Blk.defd,
                dsL LoopState.done (some (Code.exit 0)), Blk.dead, Blk.row [V.int IntKind.i64 now] 3 1,
                Blk.row (o ++ [V.int IntKind.i64 now]) 3 1]
          else
            R Exit.normal
              [some (V.yield 8), some (V.ptr 4 0), some (V.ptr 5 0), some (V.ptr 6 0),
                some (V.int IntKind.i64 (dueF now tries r m)), some (V.int IntKind.i64 (IntKind.i64.wrap (tries + 1)))]
              [Blk.row [V.int IntKind.i64 a] 3 1, Blk.row [V.int IntKind.i64 e] 3 1, Blk.row [V.int IntKind.i64 n] 3 1,
                Blk.row [V.slice 11 0 (o.length + 1) false 0 0] 28 1, Blk.row [V.int IntKind.i64 a] 3 1,
                Blk.row [V.int IntKind.i64 r] 3 1, Blk.row [V.int IntKind.i64 m] 3 1, Blk.defd, dsL LoopState.ready none,
                Blk.dead, Blk.row [V.int IntKind.i64 now] 3 1, Blk.row (o ++ [V.int IntKind.i64 now]) 3 1]
        else False
      else False) := by kernel_rfl
theorem dsL_fit (c : Nat) (s : LoopState) (p : Option Code) : FitB [0, 1, 2, 3, 4, 5, 6, 7, 8, c] (dsL s p) (dsL s p) := by
  unfold dsL rgLoop
  split
  · refine .inr ⟨_, _, _, _, _, _, _, _, _, _, rfl, rfl, rfl, FitT.of (fun t v hm => ?_)⟩
    simp only [dsT, List.mem_cons, Prod.mk.injEq, List.not_mem_nil, or_false] at hm
    rcases hm with ⟨rfl, rfl⟩ | ⟨rfl, rfl⟩ | ⟨rfl, rfl⟩ | ⟨rfl, rfl⟩ <;> exact ⟨_, rfl, rfl⟩
  · exact .inl rfl
theorem dsL_fit0 (s : LoopState) (p : Option Code) : FitB [0, 1, 2, 3, 4, 5, 6, 7, 8] (dsL s p) (dsL s p) := by
  unfold dsL rgLoop
  split
  · refine .inr ⟨_, _, _, _, _, _, _, _, _, _, rfl, rfl, rfl, FitT.of (fun t v hm => ?_)⟩
    simp only [dsT, List.mem_cons, Prod.mk.injEq, List.not_mem_nil, or_false] at hm
    rcases hm with ⟨rfl, rfl⟩ | ⟨rfl, rfl⟩ | ⟨rfl, rfl⟩ | ⟨rfl, rfl⟩ <;> exact ⟨_, rfl, rfl⟩
  · exact .inl rfl
theorem ints_ren (σ : List Nat) : ∀ l : List Int, renL σ (ints l) = some (ints l)
  | [] => rfl
  | h :: t => by
    have := ints_ren σ t
    unfold ints at this ⊢
    simp only [List.map_cons, renL, renV, this]
theorem ds_fits (y : DS) (s : LoopState) (p : Option Code) (g : St) (hg : g.length < 3) (h : Int) (t : List Int) :
    Fits 9 (dsV y) (dsM y s p (dsSl (h :: t)) (dsRow (h :: t))) ((dsV y).map some) (dsM y s p (.slice (9 + g.length) 0 (h :: t).length false 0 0) (g ++ [.row (ints (h :: t)) 3 1])) := by
  refine ⟨[0, 1, 2, 3, 4, 5, 6, 7, 8, 9 + g.length], dsV y, rfl, rfl, FitsM.of ?_, ?_, ?_⟩
  · refine ⟨.inr ⟨_, .inl rfl, rfl⟩, .inr ⟨_, .inl rfl, rfl⟩, .inr ⟨_, .inl rfl, rfl⟩, .inr ⟨_, .inl rfl, rfl⟩, .inr ⟨_, .inl rfl, rfl⟩, .inr ⟨_, .inl rfl, rfl⟩, .inr ⟨_, .inl rfl, rfl⟩, .inr ⟨_, .inl rfl, rfl⟩, .inr ⟨_, dsL_fit _ s p, rfl⟩, .inr ⟨.row (ints (h :: t)) 3 1, .inl (by simp only [renB, ints_ren]), ?_⟩, trivial⟩
    unfold dsM
    rw [List.getElem?_append_right (by simp)]
    simp
  · have : ∀ c : Nat, 9 ≤ c → [0, 1, 2, 3, 4, 5, 6, 7, 8, c].Nodup := by
      intro c hc
      simp
      omega
    exact this _ (by omega)
  · intro i hi
    match i, hi with
    | 0, _ | 1, _ | 2, _ | 3, _ | 4, _ | 5, _ | 6, _ | 7, _ | 8, _ => rfl
theorem ds_fits0 (y : DS) (s : LoopState) (p : Option Code) :
    Fits 9 (dsV y) (dsM y s p .nilSlice []) ((dsV y).map some) (dsM y s p .nilSlice []) := by
  refine ⟨[0, 1, 2, 3, 4, 5, 6, 7, 8], dsV y, rfl, rfl, FitsM.of ?_, by decide, ?_⟩
  · exact ⟨.inr ⟨_, .inl rfl, rfl⟩, .inr ⟨_, .inl rfl, rfl⟩, .inr ⟨_, .inl rfl, rfl⟩, .inr ⟨_, .inl rfl, rfl⟩, .inr ⟨_, .inl rfl, rfl⟩, .inr ⟨_, .inl rfl, rfl⟩, .inr ⟨_, .inl rfl, rfl⟩, .inr ⟨_, .inl rfl, rfl⟩, .inr ⟨_, dsL_fit0 s p, rfl⟩, trivial⟩
  · intro i hi
    match i, hi with
    | 0, _ | 1, _ | 2, _ | 3, _ | 4, _ | 5, _ | 6, _ | 7, _ | 8, _ => rfl
def dsFin : Nat → DS → DS
  | 0, x => x
  | k + 1, x => bif overF x.now x.a x.e then { x with out := x.out ++ [x.now] } else dsFin k { x with now := dueF x.now x.tries x.r x.m, tries := x.tries + 1, out := x.out ++ [x.now] }
def dsMu (x : DS) : Nat := (x.n - x.tries).toNat
def dsEnd0 (x : DS) (now tries : Int) : Prop := dsFin (dsMu x) x = ⟨x.a, x.e, x.r, x.m, x.n, now, tries, []⟩
def dsEnd1 (x : DS) (now tries : Int) (o : List V) : Prop := ∃ h t, o = ints (h :: t) ∧ dsFin (dsMu x) x = ⟨x.a, x.e, x.r, x.m, x.n, now, tries, h :: t⟩
noncomputable def dsOut : Asks DS := fun x K =>
  (∀ now tries, dsEnd0 x now tries → K (.exit 0) (dsV ⟨x.a, x.e, x.r, x.m, x.n, now, tries, []⟩) (dsM ⟨x.a, x.e, x.r, x.m, x.n, now, tries, []⟩ .done (some (.exit 0)) .nilSlice [])) ∧
  (∀ now tries o, dsEnd1 x now tries o → K (.exit 0) (dsV ⟨x.a, x.e, x.r, x.m, x.n, now, tries, []⟩) (dsM ⟨x.a, x.e, x.r, x.m, x.n, now, tries, []⟩ .done (some (.exit 0)) (.slice 9 0 o.length false 0 0) [.row o 3 1]))
theorem ints_len (l : List Int) : (ints l).length = l.length := by simp [ints]
theorem ds_round (x : DS) (hx : dsPre x = true) : roundW Try.prog T3 100 10 (rounds 100) 26 14 [0,1,2,3,5,6] (dsV x) (dsJ x) (RoundOkA 9 dsPre dsV dsJ dsMu dsOut x) := by
  obtain ⟨a, e, r, m, n, now, tries, out⟩ := x
  simp only [dsPre, Bool.and_eq_true, decide_eq_true_eq] at hx
  obtain ⟨⟨⟨p1, p2⟩, p3⟩, p4⟩ := hx
  have stop : tries = n → dsFin (dsMu ⟨a, e, r, m, n, now, tries, out⟩) ⟨a, e, r, m, n, now, tries, out⟩ = ⟨a, e, r, m, n, now, tries, out⟩ := by
    intro h
    have : dsMu ⟨a, e, r, m, n, now, tries, out⟩ = 0 := by simp only [dsMu]; omega
    rw [this]; rfl
  have next : tries ≠ n → dsMu ⟨a, e, r, m, n, now, tries, out⟩ = dsMu ⟨a, e, r, m, n, dueF now tries r m, tries + 1, out ++ [now]⟩ + 1 := by
    intro h
    simp only [dsMu]; omega
  have over : tries ≠ n → overF now a e = true → dsFin (dsMu ⟨a, e, r, m, n, now, tries, out⟩) ⟨a, e, r, m, n, now, tries, out⟩ = ⟨a, e, r, m, n, now, tries, out ++ [now]⟩ := by
    intro h ho
    rw [next h]; simp only [dsFin, ho, cond_true]
  have go : tries ≠ n → overF now a e = false → dsFin (dsMu ⟨a, e, r, m, n, now, tries, out⟩) ⟨a, e, r, m, n, now, tries, out⟩ = dsFin (dsMu ⟨a, e, r, m, n, dueF now tries r m, tries + 1, out ++ [now]⟩) ⟨a, e, r, m, n, dueF now tries r m, tries + 1, out ++ [now]⟩ := by
    intro h ho
    rw [next h]; simp only [dsFin, ho, cond_false]
  have again : tries ≠ n → overF now a e = false → ∀ K, dsOut ⟨a, e, r, m, n, now, tries, out⟩ K → dsOut ⟨a, e, r, m, n, dueF now tries r m, tries + 1, out ++ [now]⟩ K := by
    intro h ho K hK
    have hg := go h ho
    refine ⟨fun now' tries' he => hK.1 now' tries' (hg.trans he), fun now' tries' o he => hK.2 now' tries' o ?_⟩
    obtain ⟨h1, t1, e1, e2⟩ := he
    exact ⟨h1, t1, e1, hg.trans e2⟩
  have e1 : tries ≠ n → IntKind.i64.wrap (tries + 1) = tries + 1 := fun h => IntWalk.i64_in _ ⟨by omega, by omega⟩
  have hpre : tries ≠ n → dsPre ⟨a, e, r, m, n, dueF now tries r m, tries + 1, out ++ [now]⟩ = true := by
    intro h
    simp only [dsPre, Bool.and_eq_true, decide_eq_true_eq, List.length_append, List.length_cons, List.length_nil]
    omega
  cases out with
  | nil =>
    show roundW Try.prog T3 100 10 (rounds 100) 26 14 [0,1,2,3,5,6] (dsV ⟨a, e, r, m, n, now, tries, []⟩) (dsM ⟨a, e, r, m, n, now, tries, []⟩ .ready none .nilSlice []) _
    rw [dues_round0]
    refine bif_intro (fun h => ?_) (fun h => bif_intro (fun ho => ?_) (fun ho => ?_))
    · have h : tries = n := by simpa using h
      exact ⟨_, _, fun K hK => hK.1 now tries (stop h), ds_fits0 ⟨a, e, r, m, n, now, tries, []⟩ _ _⟩
    · have h : tries ≠ n := by simpa using h
      exact ⟨_, _, fun K hK => hK.2 now tries (ints [now]) ⟨now, [], rfl, over h ho⟩, ds_fits ⟨a, e, r, m, n, now, tries, [now]⟩ _ _ [.row [.int .i64 now] 3 1] (by simp) now []⟩
    · have h : tries ≠ n := by simpa using h
      refine ⟨⟨a, e, r, m, n, dueF now tries r m, tries + 1, [] ++ [now]⟩, hpre h, ?_, by have := next h; omega, again h ho⟩
      rw [e1 h]
      exact ds_fits ⟨a, e, r, m, n, dueF now tries r m, tries + 1, [now]⟩ _ _ [.row [.int .i64 now] 3 1] (by simp) now []
  | cons h0 t =>
    have hl : (h0 :: t).length = (ints (h0 :: t)).length := by simp [ints]
    show roundW Try.prog T3 100 10 (rounds 100) 26 14 [0,1,2,3,5,6] (dsV ⟨a, e, r, m, n, now, tries, []⟩) (dsM ⟨a, e, r, m, n, now, tries, []⟩ .ready none (.slice 9 0 (h0 :: t).length false 0 0) [.row (ints (h0 :: t)) 3 1]) _
    have hl2 : (ints (h0 :: t)).length ≤ 64 := by rw [← hl]; omega
    have ha : ints (h0 :: t) ++ [V.int .i64 now] = ints (h0 :: (t ++ [now])) := by simp [ints]
    have hlen : (ints (h0 :: t)).length + 1 = (h0 :: (t ++ [now])).length := by simp [ints]
    rw [hl, dues_round1]
    refine bif_intro (fun h => ?_) (fun h => must_intro (by simp) (must_intro ?_ (bif_intro (fun ho => ?_) (fun ho => ?_))))
    · have h : tries = n := by simpa using h
      refine ⟨_, _, fun K hK => hK.2 now tries (ints (h0 :: t)) ⟨h0, t, rfl, stop h⟩, ?_⟩
      rw [← hl]
      exact ds_fits ⟨a, e, r, m, n, now, tries, h0 :: t⟩ _ _ [] (by simp) h0 t
    · simp only [Bool.and_eq_true]
      exact ⟨Nat.ble_eq_true_of_le (by omega), Nat.ble_eq_true_of_le (by omega)⟩
    · have h : tries ≠ n := by simpa using h
      refine ⟨_, _, fun K hK => hK.2 now tries (ints (h0 :: (t ++ [now]))) ⟨h0, t ++ [now], rfl, over h ho⟩, ?_⟩
      rw [ha, hlen, ints_len]
      exact ds_fits ⟨a, e, r, m, n, now, tries, h0 :: (t ++ [now])⟩ _ _ [.dead, .row [.int .i64 now] 3 1] (by simp) h0 (t ++ [now])
    · have h : tries ≠ n := by simpa using h
      refine ⟨⟨a, e, r, m, n, dueF now tries r m, tries + 1, (h0 :: t) ++ [now]⟩, hpre h, ?_, by have := next h; omega, again h ho⟩
      rw [e1 h, ha, hlen]
      exact ds_fits ⟨a, e, r, m, n, dueF now tries r m, tries + 1, h0 :: (t ++ [now])⟩ _ _ [.dead, .row [.int .i64 now] 3 1] (by simp) h0 (t ++ [now])
end Go.Proofs.Ytleflholgkcmkaa
