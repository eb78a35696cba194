/- TrustStar: what it comes to. -/
import Derived.Test.YtakfcajmfgnchaaDoorLong15
import Derived.Test.YtakfcajmfgnchaaDoorEncG
namespace Go.Proofs.YtakfcajmfgnchaaDoor
open Go Go.Vm Go.RowKit
set_option linter.unusedVariables false
set_option maxRecDepth 100000
set_option linter.unusedSectionVars false
variable [Φ : Frz]
def hOK (p : V) (st : St) : Bool := match viewS st p with
 | some (b, l) => b && Nat.ble l.length 9223372036854775807
 | none => false
def hV (p : V) (h : List UInt8) (st : St) : Bool := match viewS st p with
 | some (_, l) => hasH l h
 | none => false
def hostGV (OK : V → St → Bool) (HV : V → List UInt8 → St → Bool) : List V → St → Option (List (Bool × (V × St)))
 | [.agg [.str _, .str _, p, .int .i64 _, .int .i64 _, .bool _], .str h], st => some [(OK p st, (.bool (HV p h st), st))]
 | _, _ => none
theorem hostGV_ok (args : List V) (s : St) (l : List (Bool × (V × St))) (o : V × St) (h : hostGV hOK hV args s = some l) (ho : pickO l = some o) : FnSat Tryd.prog 20 args s (Is o) := by
 unfold hostGV at h
 split at h
 ·rename_i k g p f u ca hh
  cases h
  obtain ⟨hb, rfl⟩ := pickO_one ho
  unfold hOK at hb
  split at hb
  ·rename_i b ls hv
   have hL : hV p hh s = hasH ls hh := by unfold hV; rw [hv]
   rw [hL]
   exact hostG_ok [.agg [.str k, .str g, p, .int .i64 f, .int .i64 u, .bool ca], .str hh] s [(b && Nat.ble ls.length 9223372036854775807, (.bool (hasH ls hh), s))] _ (by simp only [hostG, hv]) (by rw [hb]; rfl)
  ·cases hb
 ·cases h
noncomputable def TS0 (OK : V → St → Bool) (HV : V → List UInt8 → St → Bool) : Tab := ⟨noT, addS noL 20 (hostGV OK HV), noLks 9⟩
theorem TS0_ok : TabOk3 Tryd.prog (TS0 hOK hV) := ⟨noT_ok, addS_ok noL_ok hostGV_ok, noLks_ok 9⟩
theorem da_round (OK : V → St → Bool) (HV : V → List UInt8 → St → Bool) (x : Value) (n : Nat) (cs : List V) (h : List UInt8) (d i : Int) (R : Exit → List (Option V) → St → Prop) : roundW Tryd.prog (TS0 OK HV) 9 10 (rounds 9) 7 250 [0,1,4,5,6,7] [.lst x n cs, .str h, .bool false, .bool false, .int .i64 d, .int .i64 i] [] R =
  (
 bif decide (i < (↑h.length : Int)) then bif decide (0 ≤ i) && i.toNat.blt h.length then bif (↑(h.getD i.toNat 0).toNat : Int) == 46 then R Exit.normal [some (V.lst x n
 cs), some (V.str h), some (V.bool false), some (V.bool false), some (V.int IntKind.i64 (IntKind.i64.wrap (d + 1))), some (V.int IntKind.i64 (IntKind.i64.wrap (i + 1)))]
 [] else R Exit.normal [some (V.lst x n cs), some (V.str h), some (V.bool false), some (V.bool false), some (V.int IntKind.i64 d), some (V.int IntKind.i64
 (IntKind.i64.wrap (i + 1)))] [] else False else R (Exit.exit 0) [some (V.lst x n cs), some (V.str h), some (V.bool false), some (V.bool false), some (V.int IntKind.i64
 d), some (V.int IntKind.i64 i)] []) := by kernel_rfl
theorem db_round (OK : V → St → Bool) (HV : V → List UInt8 → St → Bool) (x : Value) (n : Nat) (cs : List V) (h : List UInt8) (want : Bool) (d j : Int) (s : List UInt8) (is : Bool) (c i : Int) (R : Exit → List (Option V) → St → Prop) : roundW Tryd.prog (TS0 OK HV) 9 10 (rounds 9) 7 4147626 [0,1,4,5,6,8,9,10,11,12] [.lst x n cs, .str h, .bool false, .bool want, .int .i64 d, .int .i64 j, .str s, .bool is, .int .i64 c, .int .i64 i] [] R =
  (
 bif decide (i < (↑s.length : Int)) then bif decide (0 ≤ i) && i.toNat.blt s.length then bif (↑(s.getD i.toNat 0).toNat : Int) == 46 then R Exit.normal [some (V.lst x n
 cs), some (V.str h), some (V.bool false), some (V.bool want), some (V.int IntKind.i64 d), some (V.int IntKind.i64 j), some (V.str s), some (V.bool is), some (V.int
 IntKind.i64 (IntKind.i64.wrap (c + 1))), some (V.int IntKind.i64 (IntKind.i64.wrap (i + 1)))] [] else R Exit.normal [some (V.lst x n cs), some (V.str h), some (V.bool
 false), some (V.bool want), some (V.int IntKind.i64 d), some (V.int IntKind.i64 j), some (V.str s), some (V.bool is), some (V.int IntKind.i64 c), some (V.int IntKind.i64
 (IntKind.i64.wrap (i + 1)))] [] else False else R (Exit.exit 4) [some (V.lst x n cs), some (V.str h), some (V.bool false), some (V.bool want), some (V.int IntKind.i64 d),
 some (V.int IntKind.i64 j), some (V.str s), some (V.bool is), some (V.int IntKind.i64 c), some (V.int IntKind.i64 i)] []) := by kernel_rfl
theorem nbeq {a b : Nat} (h : a = b) : Nat.beq a b = true := by subst h; exact Nat.beq_refl a
def dotN : List UInt8 → Nat
 | [] => 0
 | c :: r => (bif c == 46 then 1 else 0) + dotN r
theorem dotN_le : ∀ s : List UInt8, dotN s ≤ s.length
 | [] => Nat.le_refl _
 | c :: r => by
  have := dotN_le r
  rw [dotN, List.length_cons]
  cases c == 46 <;> simp only [cond_true, cond_false] <;> omega
theorem dot_eq (c : UInt8) : ((c.toNat : Int) == 46) = (c == 46) := by
 cases hc : c == 46 with
 | true => have := eq_of_beq hc; subst this; rfl
 | false =>
  have hne : c ≠ 46 := by simpa using hc
  have : c.toNat ≠ 46 := fun h => hne (UInt8.toNat_inj.1 h)
  have : (c.toNat : Int) ≠ 46 := by omega
  simpa using this
structure DA where
 x : Value
 n : Nat
 cs : List V
 h : List UInt8
 d : Nat
 i : Nat
def daV (y : DA) : List V := [.lst y.x y.n y.cs, .str y.h, .bool false, .bool false, .int .i64 y.d, .int .i64 y.i]
def daJ (_ : DA) : St := []
def daPre (y : DA) : Bool := okLen y.h && (Nat.ble y.i y.h.length && Nat.beq (y.d + dotN (y.h.drop y.i)) (dotN y.h))
def daMu (y : DA) : Nat := y.h.length - y.i
def daDec : List (Option V) → St → Option DA
 | [some (.lst x n cs), some (.str h), some (.bool false), some (.bool false), some (.int .i64 0), some (.int .i64 0)], _ => some ⟨x, n, cs, h, 0, 0⟩
 | _, _ => none
def daOut : Asks DA := fun y K => K (.exit 0) [.lst y.x y.n y.cs, .str y.h, .bool false, .bool false, .int .i64 (dotN y.h : Nat), .int .i64 y.h.length] []
theorem da_roundOk (y : DA) (hy : daPre y = true) : roundW Tryd.prog (TS0 hOK hV) 9 10 (rounds 9) 7 250 [0,1,4,5,6,7] (daV y) (daJ y) (RoundOkA 0 daPre daV daJ daMu daOut y) := by
 obtain ⟨x, n, cs, h, d, i⟩ := y
 unfold daPre at hy
 simp only [Bool.and_eq_true] at hy
 have p0 : h.length ≤ 1099511627776 := of_decide_eq_true hy.1
 have p1 : i ≤ h.length := Nat.le_of_ble_eq_true hy.2.1
 have p2 : d + dotN (h.drop i) = dotN h := Nat.eq_of_beq_eq_true hy.2.2
 have p3 := dotN_le h
 show roundW Tryd.prog (TS0 hOK hV) 9 10 (rounds 9) 7 250 [0,1,4,5,6,7] [.lst x n cs, .str h, .bool false, .bool false, .int .i64 d, .int .i64 i] [] _
 rw [da_round]
 cases hd : h.drop i with
 | nil =>
  have hi : i = h.length := by
   have := congrArg List.length hd
   rw [List.length_drop] at this
   simp at this; omega
  rw [decide_eq_false (show ¬ ((i : Int) < (h.length : Int)) by omega), cond_false]
  refine ⟨_, [], fun K hK => ?_, vs_fits [.lst x n cs, .str h, .bool false, .bool false, .int .i64 d, .int .i64 i] rfl _ rfl _⟩
  have hK : K (.exit 0) [.lst x n cs, .str h, .bool false, .bool false, .int .i64 (dotN h : Nat), .int .i64 h.length] [] := hK
  rw [hd] at p2
  have : d = dotN h := by simpa [dotN] using p2
  rw [this, hi]; exact hK
 | cons c r =>
  obtain ⟨e1, e2, e3⟩ := drop_cons hd
  rw [hd, dotN] at p2
  simp only [decide_eq_true (show (i : Int) < (h.length : Int) by omega), decide_eq_true (show (0 : Int) ≤ (i : Int) by omega), Int.toNat_natCast, e1, cond_true, Bool.true_and, dot_eq, show Nat.blt i h.length = true from Nat.ble_eq_true_of_le e3, show IntKind.i64.wrap ((i : Int) + 1) = ((i + 1 : Nat) : Int) by rw [IntWalk.i64_in _ ⟨by omega, by omega⟩]; omega]
  cases hc : (c == 46) with
  | true =>
   rw [hc, cond_true] at p2
   simp only [cond_true, show IntKind.i64.wrap ((d : Int) + 1) = ((d + 1 : Nat) : Int) by rw [IntWalk.i64_in _ ⟨by omega, by omega⟩]; omega]
   refine ⟨⟨x, n, cs, h, d + 1, i + 1⟩, ?_, vs_fits [.lst x n cs, .str h, .bool false, .bool false, .int .i64 ((d + 1 : Nat) : Int), .int .i64 ((i + 1 : Nat) : Int)] rfl _ rfl _, by simp only [daMu]; omega, fun K hK => hK⟩
   unfold daPre
   simp only [Bool.and_eq_true]
   exact ⟨hy.1, Nat.ble_eq_true_of_le (show i + 1 ≤ h.length by omega), by rw [e2]; exact nbeq (by omega)⟩
  | false =>
   rw [hc, cond_false] at p2
   rw [cond_false]
   refine ⟨⟨x, n, cs, h, d, i + 1⟩, ?_, vs_fits [.lst x n cs, .str h, .bool false, .bool false, .int .i64 (d : Int), .int .i64 ((i + 1 : Nat) : Int)] rfl _ rfl _, by simp only [daMu]; omega, fun K hK => hK⟩
   unfold daPre
   simp only [Bool.and_eq_true]
   exact ⟨hy.1, Nat.ble_eq_true_of_le (show i + 1 ≤ h.length by omega), by rw [e2]; exact nbeq (by omega)⟩
structure DB where
 x : Value
 n : Nat
 cs : List V
 h : List UInt8
 want : Bool
 D : Int
 j : Int
 s : List UInt8
 is : Bool
 d : Nat
 i : Nat
def dbV (y : DB) : List V := [.lst y.x y.n y.cs, .str y.h, .bool false, .bool y.want, .int .i64 y.D, .int .i64 y.j, .str y.s, .bool y.is, .int .i64 y.d, .int .i64 y.i]
def dbJ (_ : DB) : St := []
def dbPre (y : DB) : Bool := okLen y.s && (Nat.ble y.i y.s.length && Nat.beq (y.d + dotN (y.s.drop y.i)) (dotN y.s))
def dbMu (y : DB) : Nat := y.s.length - y.i
def dbDec : List (Option V) → St → Option DB
 | [some (.lst x n cs), some (.str h), some (.bool false), some (.bool want), some (.int .i64 D), some (.int .i64 j), some (.str s), some (.bool is), some (.int .i64 0), some (.int .i64 0)], _ => some ⟨x, n, cs, h, want, D, j, s, is, 0, 0⟩
 | _, _ => none
def dbOut : Asks DB := fun y K => K (.exit 4) [.lst y.x y.n y.cs, .str y.h, .bool false, .bool y.want, .int .i64 y.D, .int .i64 y.j, .str y.s, .bool y.is, .int .i64 (dotN y.s : Nat), .int .i64 y.s.length] []
theorem db_roundOk (y : DB) (hy : dbPre y = true) : roundW Tryd.prog (TS0 hOK hV) 9 10 (rounds 9) 7 4147626 [0,1,4,5,6,8,9,10,11,12] (dbV y) (dbJ y) (RoundOkA 0 dbPre dbV dbJ dbMu dbOut y) := by
 obtain ⟨x, n, cs, h, want, D, j, s, is, d, i⟩ := y
 unfold dbPre at hy
 simp only [Bool.and_eq_true] at hy
 have p0 : s.length ≤ 1099511627776 := of_decide_eq_true hy.1
 have p1 : i ≤ s.length := Nat.le_of_ble_eq_true hy.2.1
 have p2 : d + dotN (s.drop i) = dotN s := Nat.eq_of_beq_eq_true hy.2.2
 have p3 := dotN_le s
 show roundW Tryd.prog (TS0 hOK hV) 9 10 (rounds 9) 7 4147626 [0,1,4,5,6,8,9,10,11,12] [.lst x n cs, .str h, .bool false, .bool want, .int .i64 D, .int .i64 j, .str s, .bool is, .int .i64 d, .int .i64 i] [] _
 rw [db_round]
 cases hd : s.drop i with
 | nil =>
  have hi : i = s.length := by
   have := congrArg List.length hd
   rw [List.length_drop] at this
   simp at this; omega
  rw [decide_eq_false (show ¬ ((i : Int) < (s.length : Int)) by omega), cond_false]
  refine ⟨_, [], fun K hK => ?_, vs_fits [.lst x n cs, .str h, .bool false, .bool want, .int .i64 D, .int .i64 j, .str s, .bool is, .int .i64 d, .int .i64 i] rfl _ rfl _⟩
  have hK : K (.exit 4) [.lst x n cs, .str h, .bool false, .bool want, .int .i64 D, .int .i64 j, .str s, .bool is, .int .i64 (dotN s : Nat), .int .i64 s.length] [] := hK
  rw [hd] at p2
  have : d = dotN s := by simpa [dotN] using p2
  rw [this, hi]; exact hK
 | cons c r =>
  obtain ⟨e1, e2, e3⟩ := drop_cons hd
  rw [hd, dotN] at p2
  simp only [decide_eq_true (show (i : Int) < (s.length : Int) by omega), decide_eq_true (show (0 : Int) ≤ (i : Int) by omega), Int.toNat_natCast, e1, cond_true, Bool.true_and, dot_eq, show Nat.blt i s.length = true from Nat.ble_eq_true_of_le e3, show IntKind.i64.wrap ((i : Int) + 1) = ((i + 1 : Nat) : Int) by rw [IntWalk.i64_in _ ⟨by omega, by omega⟩]; omega]
  cases hc : (c == 46) with
  | true =>
   rw [hc, cond_true] at p2
   simp only [cond_true, show IntKind.i64.wrap ((d : Int) + 1) = ((d + 1 : Nat) : Int) by rw [IntWalk.i64_in _ ⟨by omega, by omega⟩]; omega]
   refine ⟨⟨x, n, cs, h, want, D, j, s, is, d + 1, i + 1⟩, ?_, vs_fits [.lst x n cs, .str h, .bool false, .bool want, .int .i64 D, .int .i64 j, .str s, .bool is, .int .i64 ((d + 1 : Nat) : Int), .int .i64 ((i + 1 : Nat) : Int)] rfl _ rfl _, by simp only [dbMu]; omega, fun K hK => hK⟩
   unfold dbPre
   simp only [Bool.and_eq_true]
   exact ⟨hy.1, Nat.ble_eq_true_of_le (show i + 1 ≤ s.length by omega), by rw [e2]; exact nbeq (by omega)⟩
  | false =>
   rw [hc, cond_false] at p2
   rw [cond_false]
   refine ⟨⟨x, n, cs, h, want, D, j, s, is, d, i + 1⟩, ?_, vs_fits [.lst x n cs, .str h, .bool false, .bool want, .int .i64 D, .int .i64 j, .str s, .bool is, .int .i64 (d : Int), .int .i64 ((i + 1 : Nat) : Int)] rfl _ rfl _, by simp only [dbMu]; omega, fun K hK => hK⟩
   unfold dbPre
   simp only [Bool.and_eq_true]
   exact ⟨hy.1, Nat.ble_eq_true_of_le (show i + 1 ≤ s.length by omega), by rw [e2]; exact nbeq (by omega)⟩
noncomputable def lkDB : Nat → Trans → Trans := withLoop 4147626 (loopA 0 (szOf Tryd.prog 7) [0,1,4,5,6,8,9,10,11,12] dbDec dbPre dbV dbJ dbOut) (rounds 9)
theorem lkDB_ok : LoopsW Tryd.prog none 0 lkDB (2 * 506) (loopOf Tryd.prog 7 506) := by
 unfold lkDB
 refine withLoopW_ok _ _ (roundsW 9 _ _) fun c' hc f st Q h => ?_
 rw [show loopsAt 4147626 (2 * 506) (loopOf Tryd.prog 7 506) = [loopOf Tryd.prog 7 4147626] by kernel_rfl] at hc
 obtain rfl := List.mem_singleton.1 hc
 exact loopA_ok (P := Tryd.prog) (T := TS0 hOK hV) (k := 0) (lim := 9) (n := 10) (g := 7) (p0 := 4147626) (lk := rounds 9) mixed TS0_ok (roundsW 9 _ _) dbMu db_roundOk h
theorem so_round (OK : V → St → Bool) (HV : V → List UInt8 → St → Bool) (x : Value) (n : Nat) (cs : List V) (h : List UInt8) (want : Bool) (d j : Int) (R : Exit → List (Option V) → St → Prop) : roundW Tryd.prog (TS0 OK HV) 9 10 lkDB 7 506 [0,1,4,5,6,8] [.lst x n cs, .str h, .bool false, .bool want, .int .i64 d, .int .i64 j] [] R =
  (
 bif decide (j < (↑n : Int)) then bif decide (0 ≤ j) && decide (j < (↑n : Int)) then bif (j.toNat * 1).blt cs.length then bif isStrV (cs.getD (j.toNat * 1) (V.bool false))
 then bif decide (0 ≤ j) then bif decide (0 ≤ IntKind.i64.wrap (j + 1)) then bif j.toNat.ble (IntKind.i64.wrap (j + 1)).toNat && (IntKind.i64.wrap (j + 1)).toNat.ble n
 then bif OK (V.lst (sliceX x j.toNat (IntKind.i64.wrap (j + 1)).toNat 1) ((IntKind.i64.wrap (j + 1)).toNat - j.toNat) (List.take (((IntKind.i64.wrap (j + 1)).toNat -
 j.toNat) * 1) (List.drop (j.toNat * 1) cs))) [] then bif decide ((↑(strOfV (cs.getD (j.toNat * 1) (V.bool false))).length : Int) > 1) then bif true && Nat.ble 2 (strOfV
 (cs.getD (j.toNat * 1) (V.bool false))).length then bif List.take 2 (List.drop 0 (strOfV (cs.getD (j.toNat * 1) (V.bool false)))) == [42, 46] then Fits 0 [V.lst x n cs,
 V.str h, V.bool false, V.bool want, V.int IntKind.i64 d, V.int IntKind.i64 j, V.str (strOfV (cs.getD (j.toNat * 1) (V.bool false))), V.bool (HV (V.lst (sliceX x j.toNat
 (IntKind.i64.wrap (j + 1)).toNat 1) ((IntKind.i64.wrap (j + 1)).toNat - j.toNat) (List.take (((IntKind.i64.wrap (j + 1)).toNat - j.toNat) * 1) (List.drop (j.toNat * 1)
 cs))) h []), V.int IntKind.i64 0, V.int IntKind.i64 0] [] [some (V.lst x n cs), some (V.str h), some (V.bool false), some (V.bool want), some (V.int IntKind.i64 d), some
 (V.int IntKind.i64 j), some (V.str (strOfV (cs.getD (j.toNat * 1) (V.bool false)))), some (V.bool (HV (V.lst (sliceX x j.toNat (IntKind.i64.wrap (j + 1)).toNat 1)
 ((IntKind.i64.wrap (j + 1)).toNat - j.toNat) (List.take (((IntKind.i64.wrap (j + 1)).toNat - j.toNat) * 1) (List.drop (j.toNat * 1) cs))) h [])), some (V.int IntKind.i64
 0), some (V.int IntKind.i64 0)] [] ∧ bif dbPre { x := x, n := n, cs := cs, h := h, want := want, D := d, j := j, s := strOfV (cs.getD (j.toNat * 1) (V.bool false)), is := HV (V.lst (sliceX x j.toNat (IntKind.i64.wrap (j + 1)).toNat 1) ((IntKind.i64.wrap (j + 1)).toNat - j.toNat) (List.take (((IntKind.i64.wrap (j + 1)).toNat - j.toNat) * 1) (List.drop (j.toNat * 1) cs))) h [], d := 0, i := 0 }
 then bif HV (V.lst (sliceX x j.toNat (IntKind.i64.wrap (j + 1)).toNat 1) ((IntKind.i64.wrap (j + 1)).toNat - j.toNat) (List.take (((IntKind.i64.wrap (j + 1)).toNat -
 j.toNat) * 1) (List.drop (j.toNat * 1) cs))) h [] then bif (↑(dotN (strOfV (cs.getD (j.toNat * 1) (V.bool false)))) : Int) != d then R Exit.ret [some (V.lst x n cs), some
 (V.str h), some (V.bool false), some (V.bool want), some (V.int IntKind.i64 d), some (V.int IntKind.i64 j)] [] else bif decide ((↑(dotN (strOfV (cs.getD (j.toNat * 1)
 (V.bool false)))) : Int) < 2) then R Exit.ret [some (V.lst x n cs), some (V.str h), some (V.bool false), some (V.bool want), some (V.int IntKind.i64 d), some (V.int
 IntKind.i64 j)] [] else bif decide (0 ≤ j) then bif decide (0 ≤ IntKind.i64.wrap (j + 1)) then bif j.toNat.ble (IntKind.i64.wrap (j + 1)).toNat && (IntKind.i64.wrap (j +
 1)).toNat.ble n then bif Nat.ble 2 (strOfV (cs.getD (j.toNat * 1) (V.bool false))).length && (strOfV (cs.getD (j.toNat * 1) (V.bool false))).length.ble (strOfV (cs.getD
 (j.toNat * 1) (V.bool false))).length then bif OK (V.lst (sliceX x j.toNat (IntKind.i64.wrap (j + 1)).toNat 1) ((IntKind.i64.wrap (j + 1)).toNat - j.toNat) (List.take
 (((IntKind.i64.wrap (j + 1)).toNat - j.toNat) * 1) (List.drop (j.toNat * 1) cs))) [] then bif HV (V.lst (sliceX x j.toNat (IntKind.i64.wrap (j + 1)).toNat 1)
 ((IntKind.i64.wrap (j + 1)).toNat - j.toNat) (List.take (((IntKind.i64.wrap (j + 1)).toNat - j.toNat) * 1) (List.drop (j.toNat * 1) cs))) (List.take ((strOfV (cs.getD
 (j.toNat * 1) (V.bool false))).length - 2) (List.drop 2 (strOfV (cs.getD (j.toNat * 1) (V.bool false))))) [] then R Exit.ret [some (V.lst x n cs), some (V.str h), some
 (V.bool false), some (V.bool want), some (V.int IntKind.i64 d), some (V.int IntKind.i64 j)] [] else bif want then R Exit.normal [some (V.lst x n cs), some (V.str h), some
 (V.bool false), some (V.bool true), some (V.int IntKind.i64 d), some (V.int IntKind.i64 (IntKind.i64.wrap (j + 1)))] [] else R Exit.normal [some (V.lst x n cs), some
 (V.str h), some (V.bool false), some (V.bool (HV (V.lst (sliceX x j.toNat (IntKind.i64.wrap (j + 1)).toNat 1) ((IntKind.i64.wrap (j + 1)).toNat - j.toNat) (List.take
 (((IntKind.i64.wrap (j + 1)).toNat - j.toNat) * 1) (List.drop (j.toNat * 1) cs))) h [])), some (V.int IntKind.i64 d), some (V.int IntKind.i64 (IntKind.i64.wrap (j + 1)))]
 [] else False else False else False else False else False else bif decide (0 ≤ j) then bif decide (0 ≤ IntKind.i64.wrap (j + 1)) then bif j.toNat.ble (IntKind.i64.wrap (j
 + 1)).toNat && (IntKind.i64.wrap (j + 1)).toNat.ble n then bif Nat.ble 2 (strOfV (cs.getD (j.toNat * 1) (V.bool false))).length && (strOfV (cs.getD (j.toNat * 1) (V.bool
 false))).length.ble (strOfV (cs.getD (j.toNat * 1) (V.bool false))).length then bif OK (V.lst (sliceX x j.toNat (IntKind.i64.wrap (j + 1)).toNat 1) ((IntKind.i64.wrap (j
 + 1)).toNat - j.toNat) (List.take (((IntKind.i64.wrap (j + 1)).toNat - j.toNat) * 1) (List.drop (j.toNat * 1) cs))) [] then bif HV (V.lst (sliceX x j.toNat
 (IntKind.i64.wrap (j + 1)).toNat 1) ((IntKind.i64.wrap (j + 1)).toNat - j.toNat) (List.take (((IntKind.i64.wrap (j + 1)).toNat - j.toNat) * 1) (List.drop (j.toNat * 1)
 cs))) (List.take ((strOfV (cs.getD (j.toNat * 1) (V.bool false))).length - 2) (List.drop 2 (strOfV (cs.getD (j.toNat * 1) (V.bool false))))) [] then R Exit.ret [some
 (V.lst x n cs), some (V.str h), some (V.bool false), some (V.bool want), some (V.int IntKind.i64 d), some (V.int IntKind.i64 j)] [] else bif want then R Exit.normal [some
 (V.lst x n cs), some (V.str h), some (V.bool false), some (V.bool true), some (V.int IntKind.i64 d), some (V.int IntKind.i64 (IntKind.i64.wrap (j + 1)))] [] else R
 Exit.normal [some (V.lst x n cs), some (V.str h), some (V.bool false), some (V.bool (HV (V.lst (sliceX x j.toNat (IntKind.i64.wrap (j + 1)).toNat 1) ((IntKind.i64.wrap (j
 + 1)).toNat - j.toNat) (List.take (((IntKind.i64.wrap (j + 1)).toNat - j.toNat) * 1) (List.drop (j.toNat * 1) cs))) h [])), some (V.int IntKind.i64 d), some (V.int
 IntKind.i64 (IntKind.i64.wrap (j + 1)))] [] else False else False else False else False else False else False else bif strOfV (cs.getD (j.toNat * 1) (V.bool false)) == h
 then bif OK (V.slice 0 0 1 false 0 0) [Blk.row [V.str h] 9 1] then bif !HV (V.lst (sliceX x j.toNat (IntKind.i64.wrap (j + 1)).toNat 1) ((IntKind.i64.wrap (j + 1)).toNat
 - j.toNat) (List.take (((IntKind.i64.wrap (j + 1)).toNat - j.toNat) * 1) (List.drop (j.toNat * 1) cs))) h [] == HV (V.slice 0 0 1 false 0 0) h [Blk.row [V.str h] 9 1]
 then R Exit.ret [some (V.lst x n cs), some (V.str h), some (V.bool false), some (V.bool want), some (V.int IntKind.i64 d), some (V.int IntKind.i64 j)] [Blk.row [V.str h]
 9 1] else bif want then R Exit.normal [some (V.lst x n cs), some (V.str h), some (V.bool false), some (V.bool true), some (V.int IntKind.i64 d), some (V.int IntKind.i64
 (IntKind.i64.wrap (j + 1)))] [Blk.row [V.str h] 9 1] else R Exit.normal [some (V.lst x n cs), some (V.str h), some (V.bool false), some (V.bool (HV (V.lst (sliceX x
 j.toNat (IntKind.i64.wrap (j + 1)).toNat 1) ((IntKind.i64.wrap (j + 1)).toNat - j.toNat) (List.take (((IntKind.i64.wrap (j + 1)).toNat - j.toNat) * 1) (List.drop (j.toNat
 * 1) cs))) h [])), some (V.int IntKind.i64 d), some (V.int IntKind.i64 (IntKind.i64.wrap (j + 1)))] [Blk.row [V.str h] 9 1] else False else bif !HV (V.lst (sliceX x
 j.toNat (IntKind.i64.wrap (j + 1)).toNat 1) ((IntKind.i64.wrap (j + 1)).toNat - j.toNat) (List.take (((IntKind.i64.wrap (j + 1)).toNat - j.toNat) * 1) (List.drop (j.toNat
 * 1) cs))) h [] == false then R Exit.ret [some (V.lst x n cs), some (V.str h), some (V.bool false), some (V.bool want), some (V.int IntKind.i64 d), some (V.int
 IntKind.i64 j)] [] else bif want then R Exit.normal [some (V.lst x n cs), some (V.str h), some (V.bool false), some (V.bool true), some (V.int IntKind.i64 d), some (V.int
 IntKind.i64 (IntKind.i64.wrap (j + 1)))] [] else R Exit.normal [some (V.lst x n cs), some (V.str h), some (V.bool false), some (V.bool (HV (V.lst (sliceX x j.toNat
 (IntKind.i64.wrap (j + 1)).toNat 1) ((IntKind.i64.wrap (j + 1)).toNat - j.toNat) (List.take (((IntKind.i64.wrap (j + 1)).toNat - j.toNat) * 1) (List.drop (j.toNat * 1)
 cs))) h [])), some (V.int IntKind.i64 d), some (V.int IntKind.i64 (IntKind.i64.wrap (j + 1)))] [] else False else bif strOfV (cs.getD (j.toNat * 1) (V.bool false)) == h
 then bif OK (V.slice 0 0 1 false 0 0) [Blk.row [V.str h] 9 1] then bif !HV (V.lst (sliceX x j.toNat (IntKind.i64.wrap (j + 1)).toNat 1) ((IntKind.i64.wrap (j + 1)).toNat
 - j.toNat) (List.take (((IntKind.i64.wrap (j + 1)).toNat - j.toNat) * 1) (List.drop (j.toNat * 1) cs))) h [] == HV (V.slice 0 0 1 false 0 0) h [Blk.row [V.str h] 9 1]
 then R Exit.ret [some (V.lst x n cs), some (V.str h), some (V.bool false), some (V.bool want), some (V.int IntKind.i64 d), some (V.int IntKind.i64 j)] [Blk.row [V.str h]
 9 1] else bif want then R Exit.normal [some (V.lst x n cs), some (V.str h), some (V.bool false), some (V.bool true), some (V.int IntKind.i64 d), some (V.int IntKind.i64
 (IntKind.i64.wrap (j + 1)))] [Blk.row [V.str h] 9 1] else R Exit.normal [some (V.lst x n cs), some (V.str h), some (V.bool false), some (V.bool (HV (V.lst (sliceX x
 j.toNat (IntKind.i64.wrap (j + 1)).toNat 1) ((IntKind.i64.wrap (j + 1)).toNat - j.toNat) (List.take (((IntKind.i64.wrap (j + 1)).toNat - j.toNat) * 1) (List.drop (j.toNat
 * 1) cs))) h [])), some (V.int IntKind.i64 d), some (V.int IntKind.i64 (IntKind.i64.wrap (j + 1)))] [Blk.row [V.str h] 9 1] else False else bif !HV (V.lst (sliceX x
 j.toNat (IntKind.i64.wrap (j + 1)).toNat 1) ((IntKind.i64.wrap (j + 1)).toNat - j.toNat) (List.take (((IntKind.i64.wrap (j + 1)).toNat - j.toNat) * 1) (List.drop (j.toNat
 * 1) cs))) h [] == false then R Exit.ret [some (V.lst x n cs), some (V.str h), some (V.bool false), some (V.bool want), some (V.int IntKind.i64 d), some (V.int
 IntKind.i64 j)] [] else bif want then R Exit.normal [some (V.lst x n cs), some (V.str h), some (V.bool false), some (V.bool true), some (V.int IntKind.i64 d), some (V.int
 IntKind.i64 (IntKind.i64.wrap (j + 1)))] [] else R Exit.normal [some (V.lst x n cs), some (V.str h), some (V.bool false), some (V.bool (HV (V.lst (sliceX x j.toNat
 (IntKind.i64.wrap (j + 1)).toNat 1) ((IntKind.i64.wrap (j + 1)).toNat - j.toNat) (List.take (((IntKind.i64.wrap (j + 1)).toNat - j.toNat) * 1) (List.drop (j.toNat * 1)
 cs))) h [])), some (V.int IntKind.i64 d), some (V.int IntKind.i64 (IntKind.i64.wrap (j + 1)))] [] else False else False else False else False else False else False else
 False else R (Exit.exit 2) [some (V.lst x n cs), some (V.str h), some (V.bool false), some (V.bool want), some (V.int IntKind.i64 d), some (V.int IntKind.i64 j)] []) := by kernel_rfl
theorem dot_cut : ∀ s : List UInt8, (cutM s = true → dotN s = 1 + dotN (cutR s)) ∧ (cutM s = false → dotN s = 0)
 | [] => ⟨fun h => (by cases h), fun _ => rfl⟩
 | c :: r => by
  obtain ⟨h1, h2⟩ := dot_cut r
  unfold cutM cutR at *
  by_cases hc : c = 46
  ·subst hc
   simp [cutA, dotN]
  ·have hb : (c == 46) = false := by simpa using hc
   simp only [cutA, if_neg hc, dotN, hb, cond_false, Nat.zero_add]
   exact ⟨h1, h2⟩
theorem labF_dots : ∀ (k : Nat) (s : List UInt8), s.length < k → (labF k s).length = 1 + dotN s
 | 0, s, h => by omega
 | k + 1, s, h => by
  rw [labF]
  cases hm : cutM s with
  | true =>
   have := cutR_lt hm
   rw [cond_true, List.length_cons, labF_dots k _ (by omega), (dot_cut s).1 hm]; omega
  | false => rw [cond_false, (dot_cut s).2 hm]; rfl
theorem lsN_dots (s : List UInt8) : lsN s [] = 1 + dotN s := by
 unfold lsN labsN
 rw [List.nil_append]
 exact labF_dots _ s (by omega)
theorem star_dots {s : List UInt8} (h : starP s = true) : dotN s = 1 + dotN (s.drop 2) := by
 unfold starP at h
 have h := eq_of_beq h
 match s, h with
 | [], h => cases h
 | [_], h => cases h
 | a :: b :: r, h =>
  simp only [List.take_succ_cons, List.take_zero, List.cons.injEq, and_true] at h
  obtain ⟨rfl, rfl⟩ := h
  simp [dotN]
theorem bare_drop {s : List UInt8} (h : starP s = true) : bareP s = s.drop 2 := by rw [bare_star, h]; rfl
theorem host_star {s h : List UInt8} (hs : starP s = true) (hh : hostB s h = true) : dotN s = dotN h ∧ 2 ≤ dotN s := by
 unfold hostB matchN at hh
 rw [hs, bare_drop hs] at hh
 simp only [Bool.and_eq_true, Bool.not_true, Bool.false_or, cond_true, decide_eq_true_eq] at hh
 obtain ⟨⟨_, _, hp, hc⟩, hl⟩ := hh
 have hm : cutM h = true := by unfold parB at hp; rw [Bool.and_eq_true] at hp; exact hp.1
 have hc := eq_of_beq hc
 have h1 := (dot_cut h).1 hm
 have h2 := star_dots hs
 rw [lsN_dots] at hl
 rw [hc] at h1
 omega
theorem host_self {s : List UInt8} (hs : starP s = true) : hostB s (s.drop 2) = false := by
 cases hh : hostB s (s.drop 2) with
 | false => rfl
 | true =>
  unfold hostB matchN at hh
  rw [hs, bare_drop hs] at hh
  simp only [Bool.and_eq_true, cond_true] at hh
  obtain ⟨⟨_, _, hp, hc⟩, _⟩ := hh
  have hm : cutM (s.drop 2) = true := by unfold parB at hp; rw [Bool.and_eq_true] at hp; exact hp.1
  have hlt := cutR_lt hm
  rw [eq_of_beq hc] at hlt
  omega
theorem host_plain {s h : List UInt8} (hs : starP s = false) (hne : (s == h) = false) : hostB s h = false := by
 unfold hostB matchN
 rw [hs, cond_false, hne, Bool.and_false, Bool.and_false, Bool.false_and]
theorem viewS_l (st : St) (x : Value) (l : List (List UInt8)) : viewS st (.lst x l.length (strs l)) = some (true, l) := by
 simp only [viewS, viewC, strs_len, Nat.mul_one, Nat.beq_refl, strs_isStr, strs_strOf, Bool.and_self]
theorem h_lst (st : St) (x : Value) (l : List (List UInt8)) (h : l.length ≤ 9223372036854775807) : hOK (.lst x l.length (strs l)) st = true ∧ ∀ g, hV (.lst x l.length (strs l)) g st = hasH l g := by
 unfold hOK hV
 rw [viewS_l]
 exact ⟨by show (true && Nat.ble l.length 9223372036854775807) = true; rw [Nat.ble_eq_true_of_le h]; rfl, fun _ => rfl⟩
theorem has_one (c h : List UInt8) : hasH [c] h = hostB c h := by unfold hasH; simp
theorem h_row (st : St) (s : List UInt8) (t : TypeId) (hb : st[0]? = some (.row [.str s] t 1)) : hOK (.slice 0 0 1 false 0 0) st = true ∧ ∀ g, hV (.slice 0 0 1 false 0 0) g st = hostB s g := by
 have hv : viewS st (.slice 0 0 1 false 0 0) = some (true, [s]) := by
  simp only [viewS, viewC, hb]
  rfl
 unfold hOK hV
 rw [hv]
 exact ⟨rfl, fun g => has_one s g⟩
structure SO where
 x : Value
 n : Nat
 cs : List V
 h : List UInt8
 want : Bool
 d : Int
 j : Nat
def soV (y : SO) : List V := [.lst y.x y.n y.cs, .str y.h, .bool false, .bool y.want, .int .i64 y.d, .int .i64 y.j]
def soJ (_ : SO) : St := []
def soPre (y : SO) : Bool := okS y.n y.cs && (Nat.ble y.j y.n && (decide (y.d = (dotN y.h : Nat)) && (y.cs.map strOfV).all okLen))
def soMu (y : SO) : Nat := y.n - y.j
def soDec : List (Option V) → St → Option SO
 | [some (.lst x n cs), some (.str h), some (.bool false), some (.bool false), some (.int .i64 d), some (.int .i64 0)], _ => some ⟨x, n, cs, h, false, d, 0⟩
 | _, _ => none
def soAny (cs : List V) (j : Nat) (h : List UInt8) : Bool := hasH ((cs.map strOfV).drop j) h
def soOut : Asks SO := fun y K => K (.exit 2) [.lst y.x y.n y.cs, .str y.h, .bool false, .bool (y.want || soAny y.cs y.j y.h), .int .i64 y.d, .int .i64 y.n] []
theorem so_roundOk (y : SO) (hy : soPre y = true) : roundW Tryd.prog (TS0 hOK hV) 9 10 lkDB 7 506 [0,1,4,5,6,8] (soV y) (soJ y) (RoundOkA 0 soPre soV soJ soMu soOut y) := by
 obtain ⟨x, n, cs, h, want, d, j⟩ := y
 unfold soPre at hy
 simp only [Bool.and_eq_true] at hy
 have hx1 : okS n cs = true := hy.1
 have p1 : j ≤ n := Nat.le_of_ble_eq_true hy.2.1
 have p2 : d = (dotN h : Nat) := of_decide_eq_true hy.2.2.1
 have p3 : (cs.map strOfV).all okLen = true := hy.2.2.2
 subst p2
 obtain ⟨l, rfl, rfl, q2, q3⟩ := okS_spec hx1
 rw [strs_strOf] at p3
 show roundW Tryd.prog (TS0 hOK hV) 9 10 lkDB 7 506 [0,1,4,5,6,8] [.lst x l.length (strs l), .str h, .bool false, .bool want, .int .i64 (dotN h : Nat), .int .i64 j] [] _
 rw [so_round]
 have out : ∀ K, soOut ⟨x, l.length, strs l, h, want, (dotN h : Nat), j⟩ K → K (.exit 2) [.lst x l.length (strs l), .str h, .bool false, .bool (want || hasH (l.drop j) h), .int .i64 (dotN h : Nat), .int .i64 l.length] [] := fun K hK => by
  have hK : K (.exit 2) [.lst x l.length (strs l), .str h, .bool false, .bool (want || soAny (strs l) j h), .int .i64 (dotN h : Nat), .int .i64 l.length] [] := hK
  unfold soAny at hK; rw [strs_strOf] at hK; exact hK
 cases hd : l.drop j with
 | nil =>
  have hi := dropA_nil hd p1
  rw [decide_eq_false (show ¬ ((j : Int) < (l.length : Int)) by omega), cond_false]
  refine ⟨_, [], fun K hK => ?_, vs_fits [.lst x l.length (strs l), .str h, .bool false, .bool want, .int .i64 (dotN h : Nat), .int .i64 j] rfl _ rfl _⟩
  have hK := out K hK
  rw [hd, show hasH [] h = false from rfl, Bool.or_false] at hK
  rw [hi]; exact hK
 | cons c r =>
  obtain ⟨e1, e2, e3⟩ := dropA_cons hd
  obtain ⟨e4, e5⟩ := strs_at hd
  have hmem : c ∈ l := List.mem_of_getElem? e1
  have hcl : okLen c = true := List.all_eq_true.1 p3 c hmem
  have hcl' : c.length ≤ 1099511627776 := of_decide_eq_true hcl
  have hw : IntKind.i64.wrap ((j : Int) + 1) = ((j + 1 : Nat) : Int) := by rw [IntWalk.i64_in _ ⟨by omega, by omega⟩]; omega
  have hA : List.take (([c] : List (List UInt8)).length * 1) (List.drop (j * 1) (strs l)) = strs [c] := by
   rw [show ([c] : List (List UInt8)).length * 1 = 1 from rfl, Nat.mul_one]
   unfold strs
   rw [← List.map_drop, hd, List.map_cons, List.take_succ_cons, List.take_zero]
   rfl
  have hn1 : j + 1 - j = ([c] : List (List UInt8)).length := by simp
  have q1 : decide ((j : Int) < (l.length : Int)) = true := decide_eq_true (by omega)
  have q4 : decide ((0 : Int) ≤ (j : Int)) = true := decide_eq_true (by omega)
  have q5 : decide ((0 : Int) ≤ ((j + 1 : Nat) : Int)) = true := decide_eq_true (by omega)
  have q6 : (j.ble (j + 1) && (j + 1).ble l.length) = true := by rw [Nat.ble_eq_true_of_le (by omega), Nat.ble_eq_true_of_le (by omega)]; rfl
  have r1 : ∀ z, hOK (.lst z ([c] : List (List UInt8)).length (strs [c])) [] = true := fun z => (h_lst [] z [c] (by simp)).1
  have r2 : ∀ z g, hV (.lst z ([c] : List (List UInt8)).length (strs [c])) g [] = hostB c g := fun z g => by rw [(h_lst [] z [c] (by simp)).2 g, has_one]
  obtain ⟨r3, r4⟩ := h_row [Blk.row [V.str h] 9 1] h 9 rfl
  simp only [q1, q4, q5, q6, hw, hA, hn1, r1, r2, r3, r4, Int.toNat_natCast, e4, e5, isStrV, strOfV, cond_true, Bool.and_true, Bool.true_and, List.drop_zero]
  have hcons : hasH (l.drop j) h = (hostB c h || hasH r h) := by rw [hd]; rfl
  -- one round more
  have next : ∀ (S : St), RoundOkA 0 soPre soV soJ soMu soOut ⟨x, l.length, strs l, h, want, (dotN h : Nat), j⟩ Exit.normal [some (V.lst x l.length (strs l)), some (V.str h), some (V.bool false), some (V.bool (want || hostB c h)), some (V.int IntKind.i64 (dotN h : Nat)), some (V.int IntKind.i64 ((j + 1 : Nat) : Int))] S := fun S => by
   refine ⟨⟨x, l.length, strs l, h, want || hostB c h, (dotN h : Nat), j + 1⟩, ?_, vs_fits [V.lst x l.length (strs l), V.str h, V.bool false, V.bool (want || hostB c h), V.int IntKind.i64 (dotN h : Nat), V.int IntKind.i64 ((j + 1 : Nat) : Int)] rfl _ rfl _, by simp only [soMu]; omega, fun K hK => ?_⟩
   ·unfold soPre; simp only [Bool.and_eq_true]
    exact ⟨hx1, Nat.ble_eq_true_of_le (show j + 1 ≤ l.length by omega), by simp, by rw [strs_strOf]; exact p3⟩
   ·have hK := out K hK
    rw [hcons, ← Bool.or_assoc] at hK
    show K (.exit 2) [.lst x l.length (strs l), .str h, .bool false, .bool ((want || hostB c h) || soAny (strs l) (j + 1) h), .int .i64 (dotN h : Nat), .int .i64 l.length] []
    unfold soAny
    rw [strs_strOf, e2]; exact hK
  have nextW : ∀ (S : St), bif want then RoundOkA 0 soPre soV soJ soMu soOut ⟨x, l.length, strs l, h, want, (dotN h : Nat), j⟩ Exit.normal [some (V.lst x l.length (strs l)), some (V.str h), some (V.bool false), some (V.bool true), some (V.int IntKind.i64 (dotN h : Nat)), some (V.int IntKind.i64 ((j + 1 : Nat) : Int))] S else RoundOkA 0 soPre soV soJ soMu soOut ⟨x, l.length, strs l, h, want, (dotN h : Nat), j⟩ Exit.normal [some (V.lst x l.length (strs l)), some (V.str h), some (V.bool false), some (V.bool (hostB c h)), some (V.int IntKind.i64 (dotN h : Nat)), some (V.int IntKind.i64 ((j + 1 : Nat) : Int))] S := fun S => by
   have := next S
   cases want with
   | true => exact this
   | false => exact this
  have hst : starP c = (decide ((c.length : Int) > 1) && (List.take 2 c == [42, 46])) := by
   unfold starP
   cases hq : (List.take 2 c == [42, 46]) with
   | false => rw [Bool.and_false]
   | true =>
    have := congrArg List.length (eq_of_beq hq)
    rw [List.length_take] at this
    simp only [List.length_cons, List.length_nil] at this
    rw [decide_eq_true (by omega)]; rfl
  have two : starP c = false → ∀ (S S' : St), bif c == h then bif !(hostB c h == hostB h h) then RoundOkA 0 soPre soV soJ soMu soOut ⟨x, l.length, strs l, h, want, (dotN h : Nat), j⟩ Exit.ret [some (V.lst x l.length (strs l)), some (V.str h), some (V.bool false), some (V.bool want), some (V.int IntKind.i64 (dotN h : Nat)), some (V.int IntKind.i64 (j : Int))] S
   else bif want then RoundOkA 0 soPre soV soJ soMu soOut ⟨x, l.length, strs l, h, want, (dotN h : Nat), j⟩ Exit.normal [some (V.lst x l.length (strs l)), some (V.str h), some (V.bool false), some (V.bool true), some (V.int IntKind.i64 (dotN h : Nat)), some (V.int IntKind.i64 ((j + 1 : Nat) : Int))] S else RoundOkA 0 soPre soV soJ soMu soOut ⟨x, l.length, strs l, h, want, (dotN h : Nat), j⟩ Exit.normal [some (V.lst x l.length (strs l)), some (V.str h), some (V.bool false), some (V.bool (hostB c h)), some (V.int IntKind.i64 (dotN h : Nat)), some (V.int IntKind.i64 ((j + 1 : Nat) : Int))] S
   else bif !(hostB c h == false) then RoundOkA 0 soPre soV soJ soMu soOut ⟨x, l.length, strs l, h, want, (dotN h : Nat), j⟩ Exit.ret [some (V.lst x l.length (strs l)), some (V.str h), some (V.bool false), some (V.bool want), some (V.int IntKind.i64 (dotN h : Nat)), some (V.int IntKind.i64 (j : Int))] S'
   else bif want then RoundOkA 0 soPre soV soJ soMu soOut ⟨x, l.length, strs l, h, want, (dotN h : Nat), j⟩ Exit.normal [some (V.lst x l.length (strs l)), some (V.str h), some (V.bool false), some (V.bool true), some (V.int IntKind.i64 (dotN h : Nat)), some (V.int IntKind.i64 ((j + 1 : Nat) : Int))] S' else RoundOkA 0 soPre soV soJ soMu soOut ⟨x, l.length, strs l, h, want, (dotN h : Nat), j⟩ Exit.normal [some (V.lst x l.length (strs l)), some (V.str h), some (V.bool false), some (V.bool (hostB c h)), some (V.int IntKind.i64 (dotN h : Nat)), some (V.int IntKind.i64 ((j + 1 : Nat) : Int))] S' := fun hs S S' => by
   cases hq : (c == h) with
   | true =>
    have e : hostB c h = hostB h h := by rw [eq_of_beq hq]
    rw [cond_true, show (hostB c h == hostB h h) = true by rw [e]; simp, Bool.not_true, cond_false]
    exact nextW S
   | false =>
    rw [cond_false, show (hostB c h == false) = true by rw [host_plain hs hq]; rfl, Bool.not_true, cond_false]
    exact nextW S'
  cases hs : starP c with
  | true =>
   rw [hs] at hst
   have hst := hst.symm
   rw [Bool.and_eq_true] at hst
   have hlen : 2 ≤ c.length := by have := of_decide_eq_true hst.1; omega
   rw [hst.1, hst.2, cond_true, Nat.ble_eq_true_of_le hlen, cond_true, cond_true]
   refine ⟨vs_fits [V.lst x l.length (strs l), V.str h, V.bool false, V.bool want, V.int IntKind.i64 (dotN h : Nat), V.int IntKind.i64 (j : Int), V.str c, V.bool (hostB c h), V.int IntKind.i64 0, V.int IntKind.i64 0] rfl _ rfl _, must_intro (by unfold dbPre; simp only [Bool.and_eq_true]; exact ⟨hcl, Nat.ble_eq_true_of_le (Nat.zero_le _), nbeq (by rw [List.drop_zero]; omega)⟩) ?_⟩
   have hdrop : List.take (c.length - 2) (List.drop 2 c) = c.drop 2 := List.take_of_length_le (by rw [List.length_drop]; omega)
   have hself := host_self hs
   have nW := nextW []
   rw [hdrop, hself, Nat.ble_eq_true_of_le (Nat.le_refl _), Bool.and_self, cond_true, cond_false]
   cases hb : hostB c h with
   | true =>
    obtain ⟨d1, d2⟩ := host_star hs hb
    rw [hb] at nW
    rw [d1, show ((((dotN h : Nat) : Int)) != ((dotN h : Nat) : Int)) = false by simp, cond_true, cond_false, decide_eq_false (by omega), cond_false]
    exact nW
   | false => rw [hb] at nW; exact nW
  | false =>
   have two := two hs
   rw [hs] at hst
   have hst := hst.symm
   cases h1 : decide ((c.length : Int) > 1) with
   | false => rw [cond_false]; exact two _ _
   | true =>
    rw [h1, Bool.true_and] at hst
    have hlen : 2 ≤ c.length := by have := of_decide_eq_true h1; omega
    rw [hst, cond_true, Nat.ble_eq_true_of_le hlen, cond_true, cond_false]
    exact two _ _
noncomputable def lkSO : Nat → Trans → Trans := withLoop 250 (loopA 0 (szOf Tryd.prog 7) [0,1,4,5,6,7] daDec daPre daV daJ daOut) (withLoop 506 (loopA 0 (szOf Tryd.prog 7) [0,1,4,5,6,8] soDec soPre soV soJ soOut) (rounds 9))
theorem lkSO_ok : FnLoopsW Tryd.prog 0 lkSO 7 := by
 unfold lkSO
 refine fnLoopW (fnLoopW (fnRoundsW 9 0 7) (by kernel_rfl) fun f st Q h => ?_) (by kernel_rfl) fun f st Q h => ?_
 ·exact loopA_ok (P := Tryd.prog) (T := TS0 hOK hV) (k := 0) (lim := 9) (n := 10) (g := 7) (p0 := 506) (lk := lkDB) mixed TS0_ok lkDB_ok soMu so_roundOk h
 ·exact loopA_ok (P := Tryd.prog) (T := TS0 hOK hV) (k := 0) (lim := 9) (n := 10) (g := 7) (p0 := 250) (lk := rounds 9) mixed TS0_ok (roundsW 9 _ _) daMu da_roundOk h
end Go.Proofs.YtakfcajmfgnchaaDoor
