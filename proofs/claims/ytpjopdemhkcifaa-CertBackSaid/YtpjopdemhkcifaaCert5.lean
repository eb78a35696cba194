/- Certificates: whether two are the same; how large one is; the examples. -/
import Derived.Test.YtpjopdemhkcifaaCert4
namespace Go.Proofs.Ytpjopdemhkcifaa
open Go Go.Vm Go.RowKit
set_option linter.unusedVariables false
set_option linter.unusedSectionVars false
set_option maxRecDepth 100000
variable [Φ : Frz]
def dCd (s : List UInt8) : CD := (decR s).getD ⟨[], [], [], 0, 0, false⟩
def dK (s : List UInt8) : List UInt8 := (dCd s).k
def dG (s : List UInt8) : List UInt8 := (dCd s).g
def dL (s : List UInt8) : List (List UInt8) := (dCd s).l
def dN (s : List UInt8) : Nat := (dL s).length
def dF (s : List UInt8) : Int := (dCd s).f
def dU (s : List UInt8) : Int := (dCd s).u
def dCa (s : List UInt8) : Bool := (dCd s).ca
theorem decE_iff (s : List UInt8) : (decE s = 0 ↔ ∃ c, decR s = some c) := by
  unfold decE decR
  cases decide ((s.length : Int) > 512) with
  | true => simp
  | false =>
    rw [cond_false, cond_false]
    cases decC s with
    | none => simp
    | some c => simp
def decG : List V → Option (List (Bool × (V × St)))
  | [.str s] => some [(decE s != 0, (.tuple [zeroC, .int .i64 (decE s)], [])), (Nat.beq (dN s) 0, (.tuple [.agg [.str (dK s), .str (dG s), .nilSlice, .int .i64 (dF s), .int .i64 (dU s), .bool (dCa s)], .int .i64 0], [])), (true, (.tuple [.agg [.str (dK s), .str (dG s), .slice 0 0 (dN s) false 0 0, .int .i64 (dF s), .int .i64 (dU s), .bool (dCa s)], .int .i64 0], [.row (strs (dL s)) 9 1]))]
  | _ => none
theorem decG_ok (args : List V) (l : List (Bool × (V × St))) (o : V × St) (h : decG args = some l) (ho : pickO l = some o) : FnSat Try.prog 30 args [] (Is o) := by
  unfold decG at h
  split at h
  · rename_i s
    cases h
    have key : o = outD s := by
      cases hR : decR s with
      | none =>
        have hE : (decE s != 0) = true := by
          cases hq : (decE s != 0) with
          | true => rfl
          | false =>
            have : decE s = 0 := by simpa using hq
            obtain ⟨c, hc⟩ := (decE_iff s).1 this
            rw [hR] at hc; cases hc
        simp only [pickO, hE, cond_true, Option.some.injEq] at ho
        rw [← ho]; unfold outD; rw [hR]
      | some c =>
        have hE : (decE s != 0) = false := by
          have := (decE_iff s).2 ⟨c, hR⟩
          rw [this]; rfl
        have hc : dCd s = c := by unfold dCd; rw [hR]; rfl
        simp only [pickO, hE, cond_false] at ho
        unfold dN dK dG dL dF dU dCa at ho
        rw [hc] at ho
        unfold outD; rw [hR]
        cases hl : c.l with
        | nil =>
          rw [hl, show Nat.beq ([] : List (List UInt8)).length 0 = true from rfl, cond_true] at ho
          injection ho with ho
          rw [← ho]; simp only [hl]
        | cons a r =>
          rw [hl, show Nat.beq (a :: r).length 0 = false from rfl, cond_false, cond_true] at ho
          injection ho with ho
          rw [← ho]; simp only [hl]
    rw [key]
    exact de_sat s
  · cases h
/-! ### whether two lists are the same -/
noncomputable def G0 : Tab := ⟨noT, noL, noLks 9⟩
theorem G0_ok : TabOk3 Try.prog G0 := ⟨noT_ok, noL_ok, noLks_ok 9⟩
theorem eq_round (x y : Value) (n m : Nat) (cs ds : List V) (i : Int) (R : Exit → List (Option V) → St → Prop) : roundW Try.prog G0 9 10 (rounds 9) 47 58 [0,1,4,12,13] [.lst x n cs, .lst y m ds, .bool false, .int .i64 n, .int .i64 i] [] R =
   (
    bif decide (i < (↑n : Int)) then
      bif decide (0 ≤ i) && decide (i < (↑n : Int)) then
        bif (i.toNat * 1).blt cs.length then
          bif isStrV (cs.getD (i.toNat * 1) (V.bool false)) then
            bif decide (0 ≤ i) && decide (i < (↑m : Int)) then
              bif (i.toNat * 1).blt ds.length then
                bif isStrV (ds.getD (i.toNat * 1) (V.bool false)) then
                  bif !strOfV (cs.getD (i.toNat * 1) (V.bool false)) == strOfV (ds.getD (i.toNat * 1) (V.bool false)) then
                    R Exit.ret
                      [some (V.lst x n cs), some (V.lst y m ds), some (V.bool false), some (V.int IntKind.i64 (↑n : Int)),
                        some (V.int IntKind.i64 i)]
                      []
                  else
                    R Exit.normal
                      [some (V.lst x n cs), some (V.lst y m ds), some (V.bool false), some (V.int IntKind.i64 (↑n : Int)),
                        some (V.int IntKind.i64 (IntKind.i64.wrap (i + 1)))]
                      []
                else False
              else False
            else False
          else False
        else False
      else False
    else
      R (Exit.exit 0)
        [some (V.lst x n cs), some (V.lst y m ds), some (V.bool false), some (V.int IntKind.i64 (↑n : Int)),
          some (V.int IntKind.i64 i)]
        []) := by kernel_rfl
structure EQ where
  x : Value
  y : Value
  n : Nat
  cs : List V
  ds : List V
  i : Nat
def eqV' (x : EQ) : List V := [.lst x.x x.n x.cs, .lst x.y x.n x.ds, .bool false, .int .i64 x.n, .int .i64 x.i]
def eqJ (_ : EQ) : St := []
def eqPre (x : EQ) : Bool := okS x.n x.cs && (okS x.n x.ds && Nat.ble x.i x.n)
def eqMu (x : EQ) : Nat := x.n - x.i
def eqDec : List (Option V) → St → Option EQ
  | [some (.lst x n cs), some (.lst y m ds), some (.bool false), some (.int .i64 _), some (.int .i64 0)], _ => some ⟨x, y, n, cs, ds, 0⟩
  | _, _ => none
def sameV (cs ds : List V) : Bool := cs.map strOfV == ds.map strOfV
def eqOutG (x y : Value) (n : Nat) (cs ds : List V) (b : Bool) (K : Exit → List V → St → Prop) : Prop :=
  bif b then K (.exit 0) [.lst x n cs, .lst y n ds, .bool false, .int .i64 n, .int .i64 n] [] else ∀ i : Nat, K .ret [.lst x n cs, .lst y n ds, .bool false, .int .i64 n, .int .i64 i] []
def eqOut : Asks EQ := fun x K => eqOutG x.x x.y x.n x.cs x.ds (sameV (x.cs.drop x.i) (x.ds.drop x.i)) K
theorem eq_roundOk (x : EQ) (hx : eqPre x = true) : roundW Try.prog G0 9 10 (rounds 9) 47 58 [0,1,4,12,13] (eqV' x) (eqJ x) (RoundOkA 0 eqPre eqV' eqJ eqMu eqOut x) := by
  obtain ⟨x, y, n, cs, ds, i⟩ := x
  unfold eqPre at hx
  simp only [Bool.and_eq_true] at hx
  have hx1 : okS n cs = true := hx.1
  have hx2 : okS n ds = true := hx.2.1
  have p1 : i ≤ n := Nat.le_of_ble_eq_true hx.2.2
  obtain ⟨l, rfl, rfl, p2, p3⟩ := okS_spec hx1
  obtain ⟨k, rfl, hlk, p4, p5⟩ := okS_spec hx2
  show roundW Try.prog G0 9 10 (rounds 9) 47 58 [0,1,4,12,13] [.lst x l.length (strs l), .lst y l.length (strs k), .bool false, .int .i64 l.length, .int .i64 i] [] _
  rw [eq_round]
  have ha : ∀ j, sameV ((strs l).drop j) ((strs k).drop j) = (l.drop j == k.drop j) := fun j => by
    unfold sameV; rw [List.map_drop, List.map_drop, strs_strOf, strs_strOf]
  have out : ∀ K, eqOut ⟨x, y, l.length, strs l, strs k, i⟩ K → eqOutG x y l.length (strs l) (strs k) (l.drop i == k.drop i) K := fun K hK => by
    have hK : eqOutG x y l.length (strs l) (strs k) (sameV ((strs l).drop i) ((strs k).drop i)) K := hK
    rw [ha] at hK; exact hK
  cases hd : l.drop i with
  | nil =>
    have hi := dropA_nil hd p1
    have hk : k.drop i = [] := List.drop_eq_nil_of_le (by omega)
    rw [decide_eq_false (show ¬ ((i : Int) < (l.length : Int)) by omega), cond_false]
    refine ⟨[.lst x l.length (strs l), .lst y l.length (strs k), .bool false, .int .i64 l.length, .int .i64 i], [], fun K hK => ?_, vs_fits _ rfl _ rfl _⟩
    have hK := out K hK
    rw [hd, hk] at hK
    rw [hi]; exact hK
  | cons c r =>
    obtain ⟨e1, e2, e3⟩ := dropA_cons hd
    obtain ⟨e4, e5⟩ := strs_at hd
    obtain ⟨c', r', hd'⟩ : ∃ c' r', k.drop i = c' :: r' := by
      cases h : k.drop i with
      | nil => have := dropA_nil h (by omega); omega
      | cons a b => exact ⟨a, b, rfl⟩
    obtain ⟨f1, f2, f3⟩ := dropA_cons hd'
    obtain ⟨f4, f5⟩ := strs_at hd'
    have q1 : decide ((i : Int) < (l.length : Int)) = true := decide_eq_true (by omega)
    have q2 : decide ((0 : Int) ≤ (i : Int)) = true := decide_eq_true (by omega)
    simp only [q1, q2, Int.toNat_natCast, e4, e5, f4, f5, isStrV, strOfV, cond_true, Bool.and_true, show IntKind.i64.wrap ((i : Int) + 1) = ((i + 1 : Nat) : Int) by rw [IntWalk.i64_in _ ⟨by omega, by omega⟩]; omega]
    have hcons : (l.drop i == k.drop i) = ((c == c') && (r == r')) := by rw [hd, hd']; rfl
    cases hc : (c == c') with
    | false =>
      rw [Bool.not_false, cond_true]
      refine ⟨[.lst x l.length (strs l), .lst y l.length (strs k), .bool false, .int .i64 l.length, .int .i64 i], [], fun K hK => ?_, vs_fits _ rfl _ rfl _⟩
      have hK := out K hK
      rw [hcons, hc] at hK
      exact hK i
    | true =>
      rw [Bool.not_true, cond_false]
      refine ⟨⟨x, y, l.length, strs l, strs k, i + 1⟩, ?_, vs_fits _ rfl _ rfl _, by simp only [eqMu]; omega, fun K hK => ?_⟩
      · unfold eqPre; simp only [Bool.and_eq_true]; exact ⟨hx1, hx2, Nat.ble_eq_true_of_le (show i + 1 ≤ l.length by omega)⟩
      · have hK := out K hK
        show eqOutG x y l.length (strs l) (strs k) (sameV ((strs l).drop (i + 1)) ((strs k).drop (i + 1))) K
        rw [ha, e2, f2]
        rw [hcons, hc, Bool.true_and] at hK
        exact hK
noncomputable def lk47 : Nat → Trans → Trans := withLoop 58 (loopA 0 (szOf Try.prog 47) [0,1,4,12,13] eqDec eqPre eqV' eqJ eqOut) (rounds 9)
theorem lk47_ok : FnLoopsW Try.prog 0 lk47 47 := by
  unfold lk47
  exact fnLoopW (fnRoundsW 9 0 47) (by kernel_rfl) fun f st Q h => loopA_ok (P := Try.prog) (T := G0) (k := 0) (lim := 9) (n := 10) (g := 47) (p0 := 58) (lk := rounds 9) mixed G0_ok (roundsW 9 _ _) eqMu eq_roundOk h
noncomputable def G1 : Tab := ⟨noT, noL, addLk (noLks 9) 47 0 lk47⟩
theorem G1_ok : TabOk3 Try.prog G1 := ⟨noT_ok, noL_ok, addLk_ok (noLks_ok 9) lk47_ok⟩
theorem eqf_tree (x y : Value) (n m : Nat) (cs ds : List V) (R : V → Prop) : runW Try.prog G1 9 10 47 [.lst x n cs, .lst y m ds] R =
   (
    bif (↑n : Int) != (↑m : Int) then R (V.bool false)
    else
      Fits 0 [V.lst x n cs, V.lst y n ds, V.bool false, V.int IntKind.i64 (↑n : Int), V.int IntKind.i64 0] []
          [some (V.lst x n cs), some (V.lst y m ds), some (V.bool false), some (V.int IntKind.i64 (↑n : Int)),
            some (V.int IntKind.i64 0)]
          [] ∧
        bif eqPre { x := x, y := y, n := n, cs := cs, ds := ds, i := 0 } then
          bif sameV cs ds then R (V.bool true) else ∀ (i : Nat), R (V.bool false)
        else False) := by kernel_rfl
def eqP : List V → Option (List (Bool × (V × St)))
  | [.lst _ n cs, .lst _ m ds] => some [(okS n cs && okS m ds, (.bool (sameV cs ds), []))]
  | _ => none
theorem eqP_ok (args : List V) (l : List (Bool × (V × St))) (o : V × St) (h : eqP args = some l) (ho : pickO l = some o) : FnSat Try.prog 47 args [] (Is o) := by
  unfold eqP at h
  split at h
  · rename_i x n cs y m ds
    cases h
    obtain ⟨hb, rfl⟩ := pickO_one ho
    rw [Bool.and_eq_true] at hb
    obtain ⟨l, rfl, rfl, p2, p3⟩ := okS_spec hb.1
    obtain ⟨k, rfl, rfl, p4, p5⟩ := okS_spec hb.2
    refine pureW_of (lim := 9) (n := 10) mixed G1_ok rfl rfl ?_
    rw [eqf_tree]
    have hs : sameV (strs l) (strs k) = (l == k) := by unfold sameV; rw [strs_strOf, strs_strOf]
    rw [hs]
    refine bif_intro (fun h => ?_) (fun h => ?_)
    · have h : (l.length : Int) ≠ k.length := by simpa using h
      have : (l == k) = false := by
        cases hq : (l == k) with
        | false => rfl
        | true => have := eq_of_beq hq; subst this; exact absurd rfl h
      rw [this]
    · have h : (l.length : Int) = k.length := by simpa using h
      have h : l.length = k.length := by omega
      rw [h]
      refine ⟨vs_fits _ rfl _ rfl _, must_intro ?_ ?_⟩
      · unfold eqPre; simp only [Bool.and_eq_true]
        exact ⟨by rw [← h]; exact hb.1, hb.2, Nat.ble_eq_true_of_le (Nat.zero_le _)⟩
      · refine bif_intro (fun h => by rw [h]) (fun h => by intro _; rw [h])
  · cases h
noncomputable def G2 : Tab := ⟨addT noT 47 eqP, noL, noLks 9⟩
theorem G2_ok : TabOk3 Try.prog G2 := ⟨addT_ok noT_ok eqP_ok, noL_ok, noLks_ok 9⟩
theorem same_tree (k g : List UInt8) (x : Value) (n : Nat) (cs : List V) (f u : Int) (ca : Bool) (k' g' : List UInt8) (y : Value) (m : Nat) (ds : List V) (f' u' : Int) (ca' : Bool) (R : V → Prop) : runW Try.prog G2 9 10 32 [.agg [.str k, .str g, .lst x n cs, .int .i64 f, .int .i64 u, .bool ca], .agg [.str k', .str g', .lst y m ds, .int .i64 f', .int .i64 u', .bool ca']] R =
   (
    bif k == k' then
      bif g == g' then
        bif f == f' then
          bif u == u' then
            bif ca == ca' then bif okS n cs && okS m ds then R (V.bool (sameV cs ds)) else False else R (V.bool false)
          else R (V.bool false)
        else R (V.bool false)
      else R (V.bool false)
    else R (V.bool false)) := by kernel_rfl
def sameC (k g : List UInt8) (l : List (List UInt8)) (f u : Int) (ca : Bool) (k' g' : List UInt8) (l' : List (List UInt8)) (f' u' : Int) (ca' : Bool) : Bool := (k == k') && ((g == g') && ((f == f') && ((u == u') && ((ca == ca') && (l == l')))))
theorem same_sat (k g : List UInt8) (x : Value) (l : List (List UInt8)) (f u : Int) (ca : Bool) (k' g' : List UInt8) (y : Value) (l' : List (List UInt8)) (f' u' : Int) (ca' : Bool) (h1 : l.length ≤ 9223372036854775807) (h2 : l'.length ≤ 9223372036854775807) :
    FnSat Try.prog 32 [.agg [.str k, .str g, lstS x l, .int .i64 f, .int .i64 u, .bool ca], .agg [.str k', .str g', lstS y l', .int .i64 f', .int .i64 u', .bool ca']] [] (Is (.bool (sameC k g l f u ca k' g' l' f' u' ca'), [])) := by
  refine pureW_of (lim := 9) (n := 10) mixed G2_ok rfl rfl ?_
  unfold lstS
  rw [same_tree]
  have hs : sameV (strs l) (strs l') = (l == l') := by unfold sameV; rw [strs_strOf, strs_strOf]
  rw [okS_mk h1, okS_mk h2, hs]
  unfold sameC
  refine bif_intro (fun h => ?_) (fun h => by rw [h]; rfl)
  rw [h]
  refine bif_intro (fun h => ?_) (fun h => by rw [h]; rfl)
  rw [h]
  refine bif_intro (fun h => ?_) (fun h => by rw [h]; rfl)
  rw [h]
  refine bif_intro (fun h => ?_) (fun h => by rw [h]; rfl)
  rw [h]
  refine bif_intro (fun h => ?_) (fun h => by rw [h]; rfl)
  rw [h]
  simp only [Bool.and_self, cond_true, Bool.true_and]
def sameG : List V → St → Option (List (Bool × (V × St)))
  | [.agg [.str k, .str g, p, .int .i64 f, .int .i64 u, .bool ca], .agg [.str k', .str g', p', .int .i64 f', .int .i64 u', .bool ca']], st => match viewS st p, viewS st p' with
    | some (b, l), some (b', l') => some [(b && (b' && (Nat.ble l.length 9223372036854775807 && Nat.ble l'.length 9223372036854775807)), (.bool (sameC k g l f u ca k' g' l' f' u' ca'), st))]
    | _, _ => none
  | _, _ => none
theorem sameG_ok (args : List V) (s : St) (l : List (Bool × (V × St))) (o : V × St) (h : sameG args s = some l) (ho : pickO l = some o) : FnSat Try.prog 32 args s (Is o) := by
  unfold sameG at h
  split at h
  · rename_i k g p f u ca k' g' p' f' u' ca'
    split at h
    · rename_i b ls b' ls' hv hv'
      cases h
      obtain ⟨hb, rfl⟩ := pickO_one ho
      simp only [Bool.and_eq_true] at hb
      obtain ⟨rfl, rfl, h1, h2⟩ := hb
      refine frz_sat rfl fun B W0 w m rargs hr ha => ?_
      obtain ⟨a, r, q1, q2, rfl⟩ := realL_cons ha
      obtain ⟨a', r', q3, q4, rfl⟩ := realL_cons q2
      simp only [realL, Option.some.injEq] at q4
      subst q4
      obtain ⟨y, hy⟩ := cert_frz hr hv q1
      obtain ⟨z, hz⟩ := cert_frz hr hv' q3
      exact ⟨[.agg [.str k, .str g, lstS y ls, .int .i64 f, .int .i64 u, .bool ca], .agg [.str k', .str g', lstS z ls', .int .i64 f', .int .i64 u', .bool ca']], by simp only [realL, hy, hz], @same_sat (Frz.of w) k g y ls f u ca k' g' z ls' f' u' ca' (Nat.le_of_ble_eq_true h1) (Nat.le_of_ble_eq_true h2)⟩
    · cases h
  · cases h
/-! ### how large one is -/
theorem lg_round (k g : List UInt8) (x : Value) (n : Nat) (cs : List V) (f u : Int) (ca : Bool) (a i : Int) (R : Exit → List (Option V) → St → Prop) : roundW Try.prog G0 9 10 (rounds 9) 28 58 [1,2,3,4] [.ptr 0 0, .bool false, .int .i64 a, .int .i64 i] [.row [.str k, .str g, .lst x n cs, .int .i64 f, .int .i64 u, .bool ca] 53 6] R =
   (
    bif decide (i < (↑n : Int)) then
      bif decide (a < 9000) then
        bif decide (0 ≤ i) && decide (i < (↑n : Int)) then
          bif (i.toNat * 1).blt cs.length then
            bif isStrV (cs.getD (i.toNat * 1) (V.bool false)) then
              R Exit.normal
                [some (V.ptr 0 0), some (V.bool false),
                  some
                    (V.int IntKind.i64
                      (IntKind.i64.wrap
                        (IntKind.i64.wrap (a + 10) +
                          if (↑(strOfV (cs.getD (i.toNat * 1) (V.bool false))).length : Int) < 9000 then
                            (↑(strOfV (cs.getD (i.toNat * 1) (V.bool false))).length : Int)
                          else 9000))),
                  some (V.int IntKind.i64 (IntKind.i64.wrap (i + 1)))]
                [Blk.row [V.str k, V.str g, V.lst x n cs, V.int IntKind.i64 f, V.int IntKind.i64 u, V.bool ca] 53 6]
            else False
          else False
        else False
      else
        R (Exit.exit 0) [some (V.ptr 0 0), some (V.bool false), some (V.int IntKind.i64 a), some (V.int IntKind.i64 i)]
          [Blk.row [V.str k, V.str g, V.lst x n cs, V.int IntKind.i64 f, V.int IntKind.i64 u, V.bool ca] 53 6]
    else
      R (Exit.exit 0) [some (V.ptr 0 0), some (V.bool false), some (V.int IntKind.i64 a), some (V.int IntKind.i64 i)]
        [Blk.row [V.str k, V.str g, V.lst x n cs, V.int IntKind.i64 f, V.int IntKind.i64 u, V.bool ca] 53 6]) := by kernel_rfl
def lgN : Nat → List (List UInt8) → Nat
  | n, [] => n
  | n, s :: r => if n < 9000 then lgN (n + 10 + min 9000 s.length) r else n
structure LG where
  c : CT
  a : Nat
  i : Nat
def lgV (x : LG) : List V := [.ptr 0 0, .bool false, .int .i64 x.a, .int .i64 x.i]
def lgJ (x : LG) : St := [.row x.c.cells 53 6]
def lgPre (x : LG) : Bool := okS x.c.n x.c.cs && (Nat.ble x.i x.c.n && Nat.ble x.a 20000)
def lgMu (x : LG) : Nat := x.c.n - x.i
def lgDec : List (Option V) → St → Option LG
  | [some (.ptr 0 0), some (.bool false), some (.int .i64 a), some (.int .i64 0)], .row [.str k, .str g, .lst x n cs, .int .i64 f, .int .i64 u, .bool ca] _ _ :: _ => some ⟨⟨k, g, x, n, cs, f, u, ca⟩, a.toNat, 0⟩
  | _, _ => none
def lgOutG (c : CT) (a : Nat) (K : Exit → List V → St → Prop) : Prop := ∀ j : Nat, K (.exit 0) [.ptr 0 0, .bool false, .int .i64 a, .int .i64 j] [.row c.cells 53 6]
def lgS (a : Nat) (cs : List V) : Nat := lgN a (cs.map strOfV)
def lgOut : Asks LG := fun x K => lgOutG x.c (lgS x.a (x.c.cs.drop x.i)) K
theorem lg_fits (c : CT) (a : Int) (i : Int) : Fits 0 [.ptr 0 0, .bool false, .int .i64 a, .int .i64 i] [.row c.cells 53 6] [some (.ptr 0 0), some (.bool false), some (.int .i64 a), some (.int .i64 i)] [.row c.cells 53 6] :=
  ⟨[0], [.ptr 0 0, .bool false, .int .i64 a, .int .i64 i], rfl, rfl, FitsM.of ⟨.inr ⟨_, .inl rfl, rfl⟩, trivial⟩, by decide, fun i hi => by omega⟩
theorem lg_roundOk (x : LG) (hx : lgPre x = true) : roundW Try.prog G0 9 10 (rounds 9) 28 58 [1,2,3,4] (lgV x) (lgJ x) (RoundOkA 0 lgPre lgV lgJ lgMu lgOut x) := by
  obtain ⟨⟨k, g, y, n, cs, f, u, ca⟩, a, i⟩ := x
  unfold lgPre at hx
  simp only [Bool.and_eq_true] at hx
  have hx1 : okS n cs = true := hx.1
  have p1 : i ≤ n := Nat.le_of_ble_eq_true hx.2.1
  have p0 : a ≤ 20000 := Nat.le_of_ble_eq_true hx.2.2
  obtain ⟨l, rfl, rfl, p2, p3⟩ := okS_spec hx1
  show roundW Try.prog G0 9 10 (rounds 9) 28 58 [1,2,3,4] [.ptr 0 0, .bool false, .int .i64 a, .int .i64 i] [.row [.str k, .str g, .lst y l.length (strs l), .int .i64 f, .int .i64 u, .bool ca] 53 6] _
  rw [lg_round]
  have ha : ∀ b j, lgS b ((strs l).drop j) = lgN b (l.drop j) := fun b j => by
    unfold lgS; rw [List.map_drop, strs_strOf]
  have out : ∀ K, lgOut ⟨⟨k, g, y, l.length, strs l, f, u, ca⟩, a, i⟩ K → lgOutG ⟨k, g, y, l.length, strs l, f, u, ca⟩ (lgN a (l.drop i)) K := fun K hK => by
    have hK : lgOutG ⟨k, g, y, l.length, strs l, f, u, ca⟩ (lgS a ((strs l).drop i)) K := hK
    rw [ha] at hK; exact hK
  have fin : lgN a (l.drop i) = a → RoundOkA 0 lgPre lgV lgJ lgMu lgOut ⟨⟨k, g, y, l.length, strs l, f, u, ca⟩, a, i⟩ (.exit 0) [some (.ptr 0 0), some (.bool false), some (.int .i64 a), some (.int .i64 i)] [.row [.str k, .str g, .lst y l.length (strs l), .int .i64 f, .int .i64 u, .bool ca] 53 6] := fun h => by
    refine ⟨[.ptr 0 0, .bool false, .int .i64 a, .int .i64 i], _, fun K hK => ?_, lg_fits ⟨k, g, y, l.length, strs l, f, u, ca⟩ a i⟩
    have hK := out K hK
    rw [h] at hK
    exact hK i
  cases hd : l.drop i with
  | nil =>
    have hi := dropA_nil hd p1
    rw [decide_eq_false (show ¬ ((i : Int) < (l.length : Int)) by omega), cond_false]
    exact fin (by rw [hd]; rfl)
  | cons c r =>
    obtain ⟨e1, e2, e3⟩ := dropA_cons hd
    obtain ⟨e4, e5⟩ := strs_at hd
    rw [decide_eq_true (show ((i : Int) < (l.length : Int)) by omega), cond_true]
    refine bif_intro (fun h => ?_) (fun h => ?_)
    · have h := of_decide_eq_true h
      have q1 : decide ((i : Int) < (l.length : Int)) = true := decide_eq_true (by omega)
      have q2 : decide ((0 : Int) ≤ (i : Int)) = true := decide_eq_true (by omega)
      simp only [q1, q2, Int.toNat_natCast, e4, e5, isStrV, strOfV, cond_true, Bool.and_true, show IntKind.i64.wrap ((i : Int) + 1) = ((i + 1 : Nat) : Int) by rw [IntWalk.i64_in _ ⟨by omega, by omega⟩]; omega]
      have q3 : IntKind.i64.wrap (IntKind.i64.wrap ((a : Int) + 10) + if (c.length : Int) < 9000 then (c.length : Int) else 9000) = ((a + 10 + min 9000 c.length : Nat) : Int) := by
        rw [IntWalk.i64_in ((a : Int) + 10) ⟨by omega, by omega⟩]
        split
        · rw [IntWalk.i64_in _ ⟨by omega, by omega⟩]; omega
        · rw [IntWalk.i64_in _ ⟨by omega, by omega⟩]; omega
      rw [q3]
      refine ⟨⟨⟨k, g, y, l.length, strs l, f, u, ca⟩, a + 10 + min 9000 c.length, i + 1⟩, ?_, lg_fits ⟨k, g, y, l.length, strs l, f, u, ca⟩ _ _, by simp only [lgMu]; omega, fun K hK => ?_⟩
      · unfold lgPre; simp only [Bool.and_eq_true]
        exact ⟨hx1, Nat.ble_eq_true_of_le (show i + 1 ≤ l.length by omega), Nat.ble_eq_true_of_le (show a + 10 + min 9000 c.length ≤ 20000 by omega)⟩
      · have hK := out K hK
        show lgOutG ⟨k, g, y, l.length, strs l, f, u, ca⟩ (lgS (a + 10 + min 9000 c.length) ((strs l).drop (i + 1))) K
        rw [ha, e2]
        rw [hd, lgN, if_pos (by omega)] at hK
        exact hK
    · have h := of_decide_eq_false h
      exact fin (by rw [hd, lgN, if_neg (by omega)])
noncomputable def lk28 : Nat → Trans → Trans := withLoop 58 (loopA 0 (szOf Try.prog 28) [1,2,3,4] lgDec lgPre lgV lgJ lgOut) (rounds 9)
theorem lk28_ok : FnLoopsW Try.prog 0 lk28 28 := by
  unfold lk28
  exact fnLoopW (fnRoundsW 9 0 28) (by kernel_rfl) fun f st Q h => loopA_ok (P := Try.prog) (T := G0) (k := 0) (lim := 9) (n := 10) (g := 28) (p0 := 58) (lk := rounds 9) mixed G0_ok (roundsW 9 _ _) lgMu lg_roundOk h
noncomputable def G3 : Tab := ⟨noT, noL, addLk (noLks 9) 28 0 lk28⟩
theorem G3_ok : TabOk3 Try.prog G3 := ⟨noT_ok, noL_ok, addLk_ok (noLks_ok 9) lk28_ok⟩
theorem lg_tree (k g : List UInt8) (x : Value) (n : Nat) (cs : List V) (f u : Int) (ca : Bool) (R : V → Prop) : runW Try.prog G3 9 10 28 [.agg [.str k, .str g, .lst x n cs, .int .i64 f, .int .i64 u, .bool ca]] R =
   (
    Fits 0
        [V.ptr 0 0, V.bool false,
          V.int IntKind.i64
            (↑(IntKind.i64.wrap
                    ((if (↑k.length : Int) < 9000 then (↑k.length : Int) else 9000) +
                      if (↑g.length : Int) < 9000 then (↑g.length : Int) else 9000)).toNat :
              Int),
          V.int IntKind.i64 0]
        [Blk.row [V.str k, V.str g, V.lst x n cs, V.int IntKind.i64 f, V.int IntKind.i64 u, V.bool ca] 53 6]
        [some (V.ptr 0 0), some (V.bool false),
          some
            (V.int IntKind.i64
              (IntKind.i64.wrap
                ((if (↑k.length : Int) < 9000 then (↑k.length : Int) else 9000) +
                  if (↑g.length : Int) < 9000 then (↑g.length : Int) else 9000))),
          some (V.int IntKind.i64 0)]
        [Blk.row [V.str k, V.str g, V.lst x n cs, V.int IntKind.i64 f, V.int IntKind.i64 u, V.bool ca] 53 6] ∧
      bif
          lgPre
            { c := { k := k, g := g, x := x, n := n, cs := cs, f := f, u := u, ca := ca },
              a :=
                (IntKind.i64.wrap
                    ((if (↑k.length : Int) < 9000 then (↑k.length : Int) else 9000) +
                      if (↑g.length : Int) < 9000 then (↑g.length : Int) else 9000)).toNat,
              i := 0 } then
        ∀ (j : Nat),
          R
            (V.bool
              (decide
                ((↑(lgS
                        (IntKind.i64.wrap
                            ((if (↑k.length : Int) < 9000 then (↑k.length : Int) else 9000) +
                              if (↑g.length : Int) < 9000 then (↑g.length : Int) else 9000)).toNat
                        cs) :
                    Int) ≥
                  9000)))
      else False) := by kernel_rfl
theorem works_run : isTrue (E Try.prog noTable 100000 30 (.fn 27) [] []) = true := by kernel_rfl
theorem works_sat : FnSat Try.prog 27 [] [] (Is (.bool true, [])) := closed_sat mixed works_run
def worksF : List V → Option V
  | [] => some (.bool true)
  | _ => none
theorem worksF_ok (args : List V) (v : V) (h : worksF args = some v) : FnSat Try.prog 27 args [] (Is (v, [])) := by
  unfold worksF at h
  split at h
  · cases h; exact works_sat
  · cases h
end Go.Proofs.Ytpjopdemhkcifaa
