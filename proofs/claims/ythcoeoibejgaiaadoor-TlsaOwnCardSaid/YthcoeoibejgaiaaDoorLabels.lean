/- Names: the labels of one: what they come to. -/
import Derived.Test.YthcoeoibejgaiaaDoorMatch
namespace Go.Proofs.YthcoeoibejgaiaaDoor
open Go Go.Vm Go.RowKit
set_option linter.unusedVariables false
set_option maxRecDepth 100000
set_option linter.unusedSectionVars false
variable [Φ : Frz]
noncomputable def lsRg : Array Tmp × Code × Code := (rangeOfN (bodyOf Tryd.prog 63)).getD (#[], .skip, .skip)
noncomputable def lsAs : Code := lsRg.2.1
noncomputable def lsBd : Code := lsRg.2.2
def lsT : List (Nat × V) := [(2, .ptr 1 0)]
noncomputable def lsL (s : LoopState) (p : Option Code) : Blk := rgLoopN Tryd.prog 63 s p lsT 2
noncomputable def LS0 : Tab := ⟨addP (addT noT 62 cutP) 41 mayP, noL, noLks 9⟩
theorem LS0_ok : TabOk3 Tryd.prog LS0 := ⟨addP_ok (addT_ok noT_ok cut_ok) may_ok, noL_ok, noLks_ok 9⟩
theorem ls_round0 (s : List UInt8) (R : Exit → List (Option V) → St → Prop) : roundW Tryd.prog LS0 9 10 (rounds 9) 64 2 [0,1] [.yield 3, .ptr 0 0] [.row [.str s] 9 1, .row [.nilSlice] 24 1, .defd, lsL .ready none] R =
  (
 bif okLen s then bif !cutM s then R Exit.ret [some (V.yield 3), some (V.ptr 0 0)] [Blk.row [V.str s] 9 1, Blk.row [V.slice 5 0 1 false 0 0] 24 1, Blk.defd, lsL
 LoopState.ready none, Blk.row [V.str (cutB s)] 9 1, Blk.row [V.str (cutB s)] 9 1] else R Exit.normal [some (V.yield 3), some (V.ptr 0 0)] [Blk.row [V.str (cutR s)] 9 1,
 Blk.row [V.slice 5 0 1 false 0 0] 24 1, Blk.defd, lsL LoopState.ready none, Blk.row [V.str (cutB s)] 9 1, Blk.row [V.str (cutB s)] 9 1] else False) := by kernel_rfl
theorem ls_round1 (s : List UInt8) (n : Nat) (o : List V) (R : Exit → List (Option V) → St → Prop) : roundW Tryd.prog LS0 9 10 (rounds 9) 64 2 [0,1] [.yield 3, .ptr 0 0] [.row [.str s] 9 1, .row [.slice 4 0 n false 0 0] 24 1, .defd, lsL .ready none, .row o 9 1] R =
  (
 bif okLen s then bif o.length.beq (n * 1) then bif (n + 1).ble 9223372036854775807 && ((n + 1) * 16).ble 140737488355328 then bif !cutM s then R Exit.ret [some (V.yield
 3), some (V.ptr 0 0)] [Blk.row [V.str s] 9 1, Blk.row [V.slice 6 0 (n + 1) false 0 0] 24 1, Blk.defd, lsL LoopState.ready none, Blk.dead, Blk.row [V.str (cutB s)] 9 1,
 Blk.row (o ++ [V.str (cutB s)]) 9 1] else R Exit.normal [some (V.yield 3), some (V.ptr 0 0)] [Blk.row [V.str (cutR s)] 9 1, Blk.row [V.slice 6 0 (n + 1) false 0 0] 24 1,
 Blk.defd, lsL LoopState.ready none, Blk.dead, Blk.row [V.str (cutB s)] 9 1, Blk.row (o ++ [V.str (cutB s)]) 9 1] else False else False else False) := by kernel_rfl
def labF : Nat → List UInt8 → List (List UInt8)
 | 0, _ => []
 | k + 1, s => bif cutM s then cutB s :: labF k (cutR s) else [cutB s]
def labsN (s : List UInt8) : List (List UInt8) := labF (s.length + 1) s
theorem labF_fuel : ∀ (k j : Nat) (s : List UInt8), s.length < k → s.length < j → labF k s = labF j s
 | 0, _, s, h, _ => by omega
 | _ + 1, 0, s, _, h => by omega
 | k + 1, j + 1, s, h1, h2 => by
  rw [labF, labF]
  cases hm : cutM s with
  | false => rfl
  | true =>
   have hlt := cutR_lt hm
   rw [cond_true, cond_true, labF_fuel k j _ (by omega) (by omega)]
theorem labs_end {s : List UInt8} (h : cutM s = false) : labsN s = [cutB s] := by unfold labsN; rw [labF, h]; rfl
theorem labs_next {s : List UInt8} (h : cutM s = true) : labsN s = cutB s :: labsN (cutR s) := by
 have hlt := cutR_lt h
 unfold labsN
 rw [labF, h, cond_true, labF_fuel s.length ((cutR s).length + 1) _ (by omega) (by omega)]
structure LS where
 s : List UInt8
 o : List (List UInt8)
def lsV (_ : LS) : List V := [.yield 3, .ptr 0 0]
noncomputable def lsM (s : List UInt8) : List (List UInt8) → St
 | [] => [.row [.str s] 9 1, .row [.nilSlice] 24 1, .defd, lsL .ready none]
 | a :: r => [.row [.str s] 9 1, .row [.slice 4 0 (a :: r).length false 0 0] 24 1, .defd, lsL .ready none, .row (strs (a :: r)) 9 1]
noncomputable def lsJ (x : LS) : St := lsM x.s x.o
def lsPre (x : LS) : Bool := Nat.ble (x.o.length + x.s.length) 1000000
def lsMu (x : LS) : Nat := x.s.length
noncomputable def lsDec : List (Option V) → St → Option LS
 | [some (.yield 3), some (.ptr 0 0)], (.row [.str s] _ _) :: (.row [.nilSlice] _ _) :: _ => some ⟨s, []⟩
 | _, _ => none
noncomputable def lsOutG (n : Nat) (cs : List V) (K : Exit → List V → St → Prop) : Prop :=
 ∀ s : List UInt8, K .ret [.yield 3, .ptr 0 0] [.row [.str s] 9 1, .row [.slice 4 0 n false 0 0] 24 1, .defd, lsL .ready none, .row cs 9 1]
def lsN (s : List UInt8) (o : List (List UInt8)) : Nat := (o ++ labsN s).length
def lsC (s : List UInt8) (o : List (List UInt8)) : List V := strs (o ++ labsN s)
noncomputable def lsOut : Asks LS := fun x K => lsOutG (lsN x.s x.o) (lsC x.s x.o) K
theorem lsL_fit (σ : List Nat) (h1 : σ[1]? = some 1) (h2 : σ[2]? = some 2) (s : LoopState) (p : Option Code) : FitB σ (lsL s p) (lsL s p) := by
 unfold lsL rgLoopN
 split
 ·refine .inr ⟨_, _, _, _, _, _, _, _, _, _, rfl, rfl, h2, FitT.of (fun t v hm => ?_)⟩
  simp only [lsT, List.mem_cons, Prod.mk.injEq, List.not_mem_nil, or_false] at hm
  obtain ⟨rfl, rfl⟩ := hm
  exact ⟨.ptr 1 0, by simp [renV, h1], rfl⟩
 ·exact .inl rfl
theorem ls_fits1 (s : List UInt8) (n : Nat) (cs : List V) (hf : flatL cs = true) (c : Nat) (hc : 4 ≤ c) (st : St) (h0 : st[0]? = some (.row [.str s] 9 1)) (h1 : st[1]? = some (.row [.slice c 0 n false 0 0] 24 1)) (h2 : st[2]? = some .defd) (h3 : st[3]? = some (lsL .ready none)) (h4 : st[c]? = some (.row cs 9 1)) :
  Fits 4 [.yield 3, .ptr 0 0] [.row [.str s] 9 1, .row [.slice 4 0 n false 0 0] 24 1, .defd, lsL .ready none, .row cs 9 1] [some (.yield 3), some (.ptr 0 0)] st :=
 ⟨[0, 1, 2, 3, c], [.yield 3, .ptr 0 0], rfl, rfl, FitsM.of ⟨.inr ⟨_, .inl rfl, h0⟩, .inr ⟨_, .inl rfl, h1⟩, .inr ⟨_, .inl rfl, h2⟩, .inr ⟨_, lsL_fit _ rfl rfl .ready none, h3⟩, .inr ⟨.row cs 9 1, .inl (by simp only [renB, renL_of_flat _ hf]), h4⟩, trivial⟩, by simp; omega, fun i hi => by
  match i, hi with
  | 0, _ | 1, _ | 2, _ | 3, _ => rfl⟩
theorem ls_roundOk (x : LS) (hx : lsPre x = true) : roundW Tryd.prog LS0 9 10 (rounds 9) 64 2 [0,1] (lsV x) (lsJ x) (RoundOkA 4 lsPre lsV lsJ lsMu lsOut x) := by
 obtain ⟨s, o⟩ := x
 have p1 : o.length + s.length ≤ 1000000 := Nat.le_of_ble_eq_true hx
 have hk : okLen s = true := decide_eq_true (by omega)
 have step : ∀ (c : Nat) (st : St), 4 ≤ c → st[0]? = some (.row [.str (cutR s)] 9 1) → st[1]? = some (.row [.slice c 0 (o ++ [cutB s]).length false 0 0] 24 1) → st[2]? = some .defd → st[3]? = some (lsL .ready none) → st[c]? = some (.row (strs (o ++ [cutB s])) 9 1) → cutM s = true →
   RoundOkA 4 lsPre lsV lsJ lsMu lsOut ⟨s, o⟩ .normal [some (.yield 3), some (.ptr 0 0)] st := by
  intro c st hc h0 h1 h2 h3 h4 hm
  have hlt := cutR_lt hm
  refine ⟨⟨cutR s, o ++ [cutB s]⟩, ?_, ?_, hlt, fun K hK => ?_⟩
  ·exact Nat.ble_eq_true_of_le (by simp only [List.length_append, List.length_cons, List.length_nil]; omega)
  ·have : lsJ ⟨cutR s, o ++ [cutB s]⟩ = [.row [.str (cutR s)] 9 1, .row [.slice 4 0 (o ++ [cutB s]).length false 0 0] 24 1, .defd, lsL .ready none, .row (strs (o ++ [cutB s])) 9 1] := by
    cases o <;> rfl
   rw [this]
   exact ls_fits1 _ _ _ (strs_flat _) c hc st h0 h1 h2 h3 h4
  ·have hK : lsOutG (lsN s o) (lsC s o) K := hK
   show lsOutG (lsN (cutR s) (o ++ [cutB s])) (lsC (cutR s) (o ++ [cutB s])) K
   have e : o ++ labsN s = (o ++ [cutB s]) ++ labsN (cutR s) := by rw [labs_next hm, List.append_assoc]; rfl
   unfold lsN lsC at hK ⊢
   rw [← e]; exact hK
 have fin : ∀ (c : Nat) (st : St), 4 ≤ c → st[0]? = some (.row [.str s] 9 1) → st[1]? = some (.row [.slice c 0 (o ++ [cutB s]).length false 0 0] 24 1) → st[2]? = some .defd → st[3]? = some (lsL .ready none) → st[c]? = some (.row (strs (o ++ [cutB s])) 9 1) → cutM s = false →
   RoundOkA 4 lsPre lsV lsJ lsMu lsOut ⟨s, o⟩ .ret [some (.yield 3), some (.ptr 0 0)] st := by
  intro c st hc h0 h1 h2 h3 h4 hm
  refine ⟨_, _, fun K hK => ?_, ls_fits1 _ _ _ (strs_flat _) c hc st h0 h1 h2 h3 h4⟩
  have hK : lsOutG (lsN s o) (lsC s o) K := hK
  unfold lsN lsC at hK
  rw [labs_end hm] at hK
  exact hK s
 cases o with
 | nil =>
  show roundW Tryd.prog LS0 9 10 (rounds 9) 64 2 [0,1] [.yield 3, .ptr 0 0] [.row [.str s] 9 1, .row [.nilSlice] 24 1, .defd, lsL .ready none] _
  rw [ls_round0, hk, cond_true]
  refine bif_intro (fun h => ?_) (fun h => ?_)
  ·rw [Bool.not_eq_true'] at h
   exact fin 5 _ (by omega) rfl rfl rfl rfl rfl h
  ·rw [Bool.not_eq_false'] at h
   exact step 5 _ (by omega) rfl rfl rfl rfl rfl h
 | cons a r =>
  show roundW Tryd.prog LS0 9 10 (rounds 9) 64 2 [0,1] [.yield 3, .ptr 0 0] [.row [.str s] 9 1, .row [.slice 4 0 (a :: r).length false 0 0] 24 1, .defd, lsL .ready none, .row (strs (a :: r)) 9 1] _
  rw [ls_round1, hk, cond_true]
  have hs : strs (a :: r) ++ [V.str (cutB s)] = strs (a :: r ++ [cutB s]) := by unfold strs; rw [List.map_append]; rfl
  have hn : (a :: r).length + 1 = (a :: r ++ [cutB s]).length := by simp
  refine must_intro (by rw [strs_len, Nat.mul_one]; exact Nat.beq_refl _) (must_intro ?_ ?_)
  ·rw [Bool.and_eq_true]; exact ⟨Nat.ble_eq_true_of_le (by omega), Nat.ble_eq_true_of_le (by omega)⟩
  refine bif_intro (fun h => ?_) (fun h => ?_)
  ·rw [Bool.not_eq_true'] at h
   exact fin 6 _ (by omega) rfl (by rw [← hn]; rfl) rfl rfl (by rw [← hs]; rfl) h
  ·rw [Bool.not_eq_false'] at h
   exact step 6 _ (by omega) rfl (by rw [← hn]; rfl) rfl rfl (by rw [← hs]; rfl) h
noncomputable def lkLS : Nat → Trans → Trans := withLoop 2 (loopA 4 (szOf Tryd.prog 64) [0,1] lsDec lsPre lsV lsJ lsOut) (rounds 9)
theorem lkLS_ok : FnLoopsW Tryd.prog 4 lkLS 64 := by
 unfold lkLS
 exact fnLoopW (fnRoundsW 9 4 64) (by kernel_rfl) fun f st Q h => loopA_ok (P := Tryd.prog) (T := LS0) (k := 4) (lim := 9) (n := 10) (g := 64) (p0 := 2) (lk := rounds 9) mixed LS0_ok (roundsW 9 _ _) lsMu ls_roundOk h
noncomputable def LS1 : Tab := ⟨addP (addT noT 62 cutP) 41 mayP, noL, addLk (noLks 9) 64 4 lkLS⟩
theorem LS1_ok : TabOk3 Tryd.prog LS1 := ⟨addP_ok (addT_ok noT_ok cut_ok) may_ok, noL_ok, addLk_ok (noLks_ok 9) lkLS_ok⟩
theorem labs_tree (s : List UInt8) (R : V → St → Prop) : runM Tryd.prog LS1 9 10 24 [.str s] R =
  (
 bif !mayN s then R V.nilSlice [] else Fits 4 [V.yield 3, V.ptr 0 0] [Blk.row [V.str s] 9 1, Blk.row [V.nilSlice] 24 1, Blk.defd, lsL LoopState.ready none] [some (V.yield
 3), some (V.ptr 0 0)] [Blk.row [V.str s] 9 1, Blk.row [V.nilSlice] 24 1, Blk.defd, Blk.loop LoopState.ready none 13 ((Tr.lf.nd (some (V.func (Fn.func 64) [] [V.ptr 0 0]))
 Tr.lf).nd (some V.nilSlice) ((Tr.lf.nd (some V.nilSlice) Tr.lf).nd (some (V.ptr 1 0)) (Tr.lf.nd (some (V.func (Fn.func 64) [] [V.ptr 0 0])) Tr.lf))) { toList := [7] }
 lsAs lsBd 2] ∧ bif lsPre { s := s, o := [] } then ∀ (s_1 : List UInt8), R (V.slice 4 0 (lsN s []) false 0 0) [Blk.row [V.str s_1] 9 1, Blk.row [V.slice 4 0 (lsN s [])
 false 0 0] 24 1, Blk.dead, Blk.dead, Blk.row (lsC s []) 9 1] else False) := by kernel_rfl
def labsT : List V → Option (List (Bool × (V × St)))
 | [.str s] => some [(mayN s, (.slice 0 0 (lsN s []) false 0 0, [.row (lsC s []) 9 1])), (!mayN s, (.nilSlice, []))]
 | _ => none
theorem ls_enter (s : List UInt8) (T2 : Tr) (h2 : T2.get 2 = some (.ptr 1 0)) :
  Fits 4 [.yield 3, .ptr 0 0] [.row [.str s] 9 1, .row [.nilSlice] 24 1, .defd, lsL .ready none] [some (.yield 3), some (.ptr 0 0)] [.row [.str s] 9 1, .row [.nilSlice] 24 1, .defd, .loop .ready none 13 T2 { toList := [7] } lsAs lsBd 2] := by
 have hL : lsL .ready none = .loop .ready none 13 (putsT .lf lsT) { toList := [7] } lsAs lsBd 2 := by kernel_rfl
 refine ⟨[0, 1, 2, 3], [.yield 3, .ptr 0 0], rfl, rfl, FitsM.of ?_, by decide, fun i hi => by
  match i, hi with
  | 0, _ | 1, _ | 2, _ | 3, _ => rfl⟩
 refine ⟨.inr ⟨_, .inl rfl, rfl⟩, .inr ⟨_, .inl rfl, rfl⟩, .inr ⟨_, .inl rfl, rfl⟩, .inr ⟨_, ?_, rfl⟩, trivial⟩
 rw [hL]
 refine .inr ⟨_, _, _, _, _, _, _, _, _, _, rfl, rfl, rfl, FitT.of fun t v hm => ?_⟩
 simp only [lsT, List.mem_cons, Prod.mk.injEq, List.not_mem_nil, or_false] at hm
 obtain ⟨rfl, rfl⟩ := hm
 exact ⟨_, rfl, h2⟩
theorem labs_ok (args : List V) (l : List (Bool × (V × St))) (o : V × St) (h : labsT args = some l) (ho : pickO l = some o) : FnSat Tryd.prog 24 args [] (Is o) := by
 unfold labsT at h
 split at h
 ·rename_i s
  cases h
  refine FnSat.fits (runM_ok mixed LS1_ok (lim := 9) (n := 10) ?_)
  rw [labs_tree]
  cases hm : mayN s with
  | false =>
   rw [hm] at ho
   cases ho
   exact vs_fits [.nilSlice] rfl _ rfl _
  | true =>
   rw [hm] at ho
   cases ho
   have hl := may_len hm
   refine ⟨ls_enter s _ rfl, must_intro (Nat.ble_eq_true_of_le (show 0 + s.length ≤ 1000000 by omega)) (fun s' => ?_)⟩
   exact ⟨[4], [.slice 4 0 (lsN s []) false 0 0], rfl, rfl, FitsM.of ⟨.inr ⟨.row (lsC s []) 9 1, .inl (by simp only [renB, renL_of_flat _ (strs_flat _), lsC]), rfl⟩, trivial⟩, by simp, fun i hi => by omega⟩
 ·cases h
end Go.Proofs.YthcoeoibejgaiaaDoor
