/- The times at which it is tried, the function whole. -/
import Derived.Test.YtleflholgkcmkaaDues
namespace Go.Proofs.Ytleflholgkcmkaa
open Go Go.Vm Go.RowKit
set_option linter.unusedVariables false
noncomputable def dsRg : Array Tmp × Code × Code := (rangeOf (bodyOf Try.prog 13)).getD (#[], .skip, .skip)
noncomputable def dsPs : Array Tmp := dsRg.1
noncomputable def dsAs : Code := dsRg.2.1
noncomputable def dsBd : Code := dsRg.2.2
def dsDec : List (Option V) → St → Option DS
  | [some (.yield 8), some (.ptr 4 0), some (.ptr 5 0), some (.ptr 6 0), some (.int .i64 now), some (.int .i64 tries)], (.row [.int .i64 a] _ _) :: (.row [.int .i64 e] _ _) :: (.row [.int .i64 n] _ _) :: (.row [.nilSlice] _ _) :: (.row [.int .i64 a2] _ _) :: (.row [.int .i64 r] _ _) :: (.row [.int .i64 m] _ _) :: _ => some ⟨a, e, r, m, n, now, tries, []⟩
  | _, _ => none
noncomputable def lk26 : Nat → Trans → Trans := withLoop 14 (loopA 9 20 [0,1,2,3,5,6] dsDec dsPre dsV dsJ dsOut) (rounds 100)
theorem lk26_ok : FnLoopsW Try.prog 9 lk26 26 :=
  fnLoopW (fnRoundsW 100 9 26) (by kernel_rfl) fun f st Q h => loopA_ok (P := Try.prog) (lim := 100) (n := 10) (g := 26) mixed T3_ok (roundsW 100 _ _) dsMu ds_round h
noncomputable def T4 : Tab := ⟨ofPure F3, addL noL 14 sameF, addLk (noLks 100) 26 9 lk26⟩
theorem T4_ok : TabOk3 Try.prog T4 := ⟨ofPure_ok F3_ok, addL_ok noL_ok sameF_ok, addLk_ok (noLks_ok 100) lk26_ok⟩
theorem dues_tree (a e r m n : Int) (R : V → St → Prop) : runM Try.prog T4 100 10 13 [.int .i64 a, .int .i64 e, .int .i64 r, .int .i64 m, .int .i64 n] R =
   (
    Fits 9 [V.yield 8, V.ptr 4 0, V.ptr 5 0, V.ptr 6 0, V.int IntKind.i64 (clamp 1099511627776 a), V.int IntKind.i64 0]
        [Blk.row [V.int IntKind.i64 a] 3 1, Blk.row [V.int IntKind.i64 e] 3 1,
          Blk.row [V.int IntKind.i64 (if (if 64 < n then 64 else n) > 0 then if 64 < n then 64 else n else 0)] 3 1,
          Blk.row [V.nilSlice] 28 1, Blk.row [V.int IntKind.i64 a] 3 1, Blk.row [V.int IntKind.i64 r] 3 1,
          Blk.row [V.int IntKind.i64 m] 3 1, Blk.defd,
          Blk.loop LoopState.ready none 35
            (((Tr.lf.nd none (Tr.lf.nd (some (V.ptr 3 0)) Tr.lf)).nd none
                  ((Tr.lf.nd (some (V.ptr 2 0)) Tr.lf).nd (some (V.ptr 0 0)) Tr.lf)).nd
              none (Tr.lf.nd none (Tr.lf.nd (some (V.ptr 1 0)) Tr.lf)))
            { toList := [21, 22] } dsAs dsBd 7]
        [some (V.yield 8), some (V.ptr 4 0), some (V.ptr 5 0), some (V.ptr 6 0),
          some (V.int IntKind.i64 (clamp 1099511627776 a)), some (V.int IntKind.i64 0)]
        [Blk.row [V.int IntKind.i64 a] 3 1, Blk.row [V.int IntKind.i64 e] 3 1,
          Blk.row [V.int IntKind.i64 (if (if 64 < n then 64 else n) > 0 then if 64 < n then 64 else n else 0)] 3 1,
          Blk.row [V.nilSlice] 28 1, Blk.row [V.int IntKind.i64 a] 3 1, Blk.row [V.int IntKind.i64 r] 3 1,
          Blk.row [V.int IntKind.i64 m] 3 1, Blk.defd,
          Blk.loop LoopState.ready none 35
            (((((Tr.lf.nd (some (V.int IntKind.i64 n)) Tr.lf).nd none Tr.lf).nd (some (V.int IntKind.i64 m))
                      ((Tr.lf.nd (some (V.int IntKind.i64 m)) Tr.lf).nd (some (V.ptr 3 0)) Tr.lf)).nd
                  (some (V.int IntKind.i64 e))
                  (((Tr.lf.nd (some (V.int IntKind.i64 a)) Tr.lf).nd (some (V.ptr 2 0)) Tr.lf).nd (some (V.ptr 0 0))
                    Tr.lf)).nd
              (some (V.int IntKind.i64 a))
              ((((Tr.lf.nd
                            (some
                              (V.int IntKind.i64 (if (if 64 < n then 64 else n) > 0 then if 64 < n then 64 else n else 0)))
                            Tr.lf).nd
                        none Tr.lf).nd
                    (some (V.int IntKind.i64 n))
                    ((Tr.lf.nd (some (V.func (Fn.func 26) [] [V.ptr 4 0, V.ptr 5 0, V.ptr 6 0])) Tr.lf).nd none Tr.lf)).nd
                (some (V.int IntKind.i64 r))
                (((Tr.lf.nd (some (V.int IntKind.i64 r)) Tr.lf).nd (some V.nilSlice) Tr.lf).nd (some (V.ptr 1 0))
                  (Tr.lf.nd (some (V.agg [V.int IntKind.i64 0, V.int IntKind.i64 64])) Tr.lf))))
            { toList := [21, 22] } dsAs dsBd 7] ∧
      bif
          dsPre
            { a := a, e := e, r := r, m := m, n := if (if 64 < n then 64 else n) > 0 then if 64 < n then 64 else n else 0,
              now := clamp 1099511627776 a, tries := 0, out := [] } then
        (∀ (now tries : Int),
            dsEnd0
                { a := a, e := e, r := r, m := m,
                  n := if (if 64 < n then 64 else n) > 0 then if 64 < n then 64 else n else 0, now := clamp 1099511627776 a,
                  tries := 0, out := [] }
                now tries →
              R V.nilSlice
                [Blk.row [V.int IntKind.i64 a] 3 1, Blk.row [V.int IntKind.i64 e] 3 1,
                  Blk.row [V.int IntKind.i64 (if (if 64 < n then 64 else n) > 0 then if 64 < n then 64 else n else 0)] 3 1,
                  Blk.row [V.nilSlice] 28 1, Blk.row [V.int IntKind.i64 a] 3 1, Blk.row [V.int IntKind.i64 r] 3 1,
                  Blk.row [V.int IntKind.i64 m] 3 1, Blk.dead, Blk.dead]) ∧
          ∀ (now tries : Int) (o : List V),
            dsEnd1
                { a := a, e := e, r := r, m := m,
                  n := if (if 64 < n then 64 else n) > 0 then if 64 < n then 64 else n else 0, now := clamp 1099511627776 a,
                  tries := 0, out := [] }
                now tries o →
              R (V.slice 9 0 o.length false 0 0)
                [Blk.row [V.int IntKind.i64 a] 3 1, Blk.row [V.int IntKind.i64 e] 3 1,
                  Blk.row [V.int IntKind.i64 (if (if 64 < n then 64 else n) > 0 then if 64 < n then 64 else n else 0)] 3 1,
                  Blk.row [V.slice 9 0 o.length false 0 0] 28 1, Blk.row [V.int IntKind.i64 a] 3 1,
                  Blk.row [V.int IntKind.i64 r] 3 1, Blk.row [V.int IntKind.i64 m] 3 1, Blk.dead, Blk.dead, Blk.row o 3 1]
      else False) := by kernel_rfl
theorem dsT2_fit (T2 : Tr) (h5 : T2.get 5 = some (.ptr 0 0)) (h6 : T2.get 6 = some (.ptr 1 0)) (h9 : T2.get 9 = some (.ptr 2 0)) (h11 : T2.get 11 = some (.ptr 3 0)) :
    FitT [0, 1, 2, 3, 4, 5, 6, 7, 8] (putsT .lf dsT) T2 := by
  refine FitT.of fun t v hm => ?_
  simp only [dsT, List.mem_cons, Prod.mk.injEq, List.not_mem_nil, or_false] at hm
  rcases hm with ⟨rfl, rfl⟩ | ⟨rfl, rfl⟩ | ⟨rfl, rfl⟩ | ⟨rfl, rfl⟩ <;> exact ⟨_, rfl, by assumption⟩
theorem ds_enter (a e r m n c : Int) (l : List (Option V)) (hl : l = (dsV ⟨a, e, r, m, n, c, 0, []⟩).map some) (T2 : Tr) (h5 : T2.get 5 = some (.ptr 0 0)) (h6 : T2.get 6 = some (.ptr 1 0)) (h9 : T2.get 9 = some (.ptr 2 0)) (h11 : T2.get 11 = some (.ptr 3 0)) :
    Fits 9 (dsV ⟨a, e, r, m, n, c, 0, []⟩) (dsJ ⟨a, e, r, m, n, c, 0, []⟩) l
      [.row [.int .i64 a] 3 1, .row [.int .i64 e] 3 1, .row [.int .i64 n] 3 1, .row [.nilSlice] 28 1, .row [.int .i64 a] 3 1, .row [.int .i64 r] 3 1, .row [.int .i64 m] 3 1, .defd, .loop .ready none 35 T2 dsPs dsAs dsBd 7] := by
  subst hl
  have hL : dsL .ready none = .loop .ready none 35 (putsT .lf dsT) dsPs dsAs dsBd 7 := by kernel_rfl
  refine ⟨[0, 1, 2, 3, 4, 5, 6, 7, 8], dsV ⟨a, e, r, m, n, c, 0, []⟩, rfl, rfl, FitsM.of ?_, by decide, ?_⟩
  · refine ⟨.inr ⟨_, .inl rfl, rfl⟩, .inr ⟨_, .inl rfl, rfl⟩, .inr ⟨_, .inl rfl, rfl⟩, .inr ⟨_, .inl rfl, rfl⟩, .inr ⟨_, .inl rfl, rfl⟩, .inr ⟨_, .inl rfl, rfl⟩, .inr ⟨_, .inl rfl, rfl⟩, .inr ⟨_, .inl rfl, rfl⟩, .inr ⟨_, ?_, rfl⟩, trivial⟩
    rw [hL]
    exact .inr ⟨_, _, _, _, _, _, _, _, _, _, rfl, rfl, rfl, dsT2_fit T2 h5 h6 h9 h11⟩
  · intro i hi
    match i, hi with
    | 0, _ | 1, _ | 2, _ | 3, _ | 4, _ | 5, _ | 6, _ | 7, _ | 8, _ => rfl
def cut64 (n : Int) : Int := if (if 64 < n then 64 else n) > 0 then if 64 < n then 64 else n else 0
theorem cut64_in (n : Int) : 0 ≤ cut64 n ∧ cut64 n ≤ 64 := by unfold cut64; constructor <;> (repeat' split) <;> omega
def ds0 (a e r m n : Int) : DS := ⟨a, e, r, m, cut64 n, clamp 1099511627776 a, 0, []⟩
/-- The times at which it is tried. -/
def duesL (a e r m n : Int) : List Int := (dsFin (dsMu (ds0 a e r m n)) (ds0 a e r m n)).out
/-- A list of numbers, as it is handed back. -/
def outL (l : List Int) : V × St := match l with
  | [] => (.nilSlice, [])
  | h :: t => (.slice 0 0 (ints (h :: t)).length false 0 0, [.row (ints (h :: t)) 3 1])
theorem outL_fits (h : Int) (t : List Int) (G : St) (st : St) (hg : st = G ++ [.row (ints (h :: t)) 3 1]) :
    Fits 0 [(outL (h :: t)).1] (outL (h :: t)).2 [some (.slice G.length 0 (ints (h :: t)).length false 0 0)] st := by
  refine ⟨[G.length], [.slice G.length 0 (ints (h :: t)).length false 0 0], rfl, rfl, FitsM.of ⟨.inr ⟨.row (ints (h :: t)) 3 1, .inl (by simp only [renB, ints_ren]), ?_⟩, trivial⟩, by simp, fun i hi => by omega⟩
  subst hg
  simp
theorem dues_sat (a e r m n : Int) : FnSat Try.prog 13 [.int .i64 a, .int .i64 e, .int .i64 r, .int .i64 m, .int .i64 n] [] (Is (outL (duesL a e r m n))) := by
  refine FnSat.fits (runM_ok (lim := 100) (n := 10) mixed T4_ok ?_)
  rw [dues_tree]
  refine ⟨ds_enter a e r m (cut64 n) (clamp 1099511627776 a) _ rfl _ rfl rfl rfl rfl, must_intro ?_ ⟨?_, ?_⟩⟩
  · have := cut64_in n
    show dsPre ⟨a, e, r, m, cut64 n, _, _, _⟩ = true
    simp only [dsPre, Bool.and_eq_true, decide_eq_true_eq, List.length_nil]
    omega
  · intro now tries h
    have h : dsFin (dsMu (ds0 a e r m n)) (ds0 a e r m n) = ⟨a, e, r, m, cut64 n, now, tries, []⟩ := h
    have h2 : duesL a e r m n = [] := by unfold duesL; rw [h]
    rw [h2]
    exact ⟨[], [.nilSlice], rfl, rfl, FitsM.of trivial, by simp, fun i hi => by omega⟩
  · rintro now tries o ⟨h0, t, rfl, h⟩
    have h : dsFin (dsMu (ds0 a e r m n)) (ds0 a e r m n) = ⟨a, e, r, m, cut64 n, now, tries, h0 :: t⟩ := h
    have h2 : duesL a e r m n = h0 :: t := by unfold duesL; rw [h]
    rw [h2]
    exact outL_fits h0 t [_, _, _, _, _, _, _, _, _] _ rfl
end Go.Proofs.Ytleflholgkcmkaa
