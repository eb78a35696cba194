/- DerNumbers: the document's numbers. -/
import Derived.Test.YtpjopdemhkcifaaInts
namespace Go.Proofs.Ytpjopdemhkcifaa
open Go Go.Vm Go.RowKit
set_option linter.unusedSectionVars false
variable [Φ : Frz]
set_option linter.unusedVariables false
theorem byte1_tree (n : Int) (R : V → Prop) : runW Try.prog T9 9 10 33 [.int .i64 n] R =
   (
    R (V.str (List.map Vm.byteOf [V.int IntKind.u8 (IntKind.u8.wrap (n.tmod 256))]))) := by kernel_rfl
def oneB (n : Int) : UInt8 := UInt8.ofNat (IntKind.u8.wrap (n.tmod 256)).toNat
def byte1F : List V → Option V
  | [.int .i64 n] => some (.str [oneB n])
  | _ => none
noncomputable def T13 : Tab := ⟨addP noT 33 byte1F, noL, noLks 9⟩
theorem ri_round1 (n u i : Int) (s : List UInt8) (R : Exit → List (Option V) → St → Prop) : roundW Try.prog T13 9 10 (rounds 9) 17 122 [0,2,3,4,5] [.int .i64 n, .str [], .str s, .int .u64 u, .int .i64 i] [] R =
   (
    bif decide (i < 8) then
      bif (1 + s.length).ble 9223372036854775807 then
        R Exit.normal
          [some (V.int IntKind.i64 n), some (V.str []), some (V.str ([oneB (IntKind.i64.wrap (u.tmod 256))] ++ s)),
            some (V.int IntKind.u64 (IntKind.u64.wrap (u.tdiv 256))), some (V.int IntKind.i64 (IntKind.i64.wrap (i + 1)))]
          []
      else False
    else
      R (Exit.exit 0)
        [some (V.int IntKind.i64 n), some (V.str []), some (V.str s), some (V.int IntKind.u64 u),
          some (V.int IntKind.i64 i)]
        []) := by kernel_rfl
theorem ri_round2 (n : Int) (s : List UInt8) (R : Exit → List (Option V) → St → Prop) : roundW Try.prog T13 9 10 (rounds 9) 17 124 [0,2,3] [.int .i64 n, .str [], .str s] [] R =
   (
    bif decide ((↑s.length : Int) > 1) then
      bif true && Nat.blt 0 s.length then
        bif (↑(s.getD 0 0).toNat : Int) == 0 then
          bif true && Nat.blt 1 s.length then
            bif decide ((↑(s.getD 1 0).toNat : Int) < 128) then
              bif Nat.ble 1 s.length && s.length.ble s.length then
                R Exit.normal
                  [some (V.int IntKind.i64 n), some (V.str []), some (V.str (List.take (s.length - 1) (List.drop 1 s)))] []
              else False
            else
              bif true && Nat.blt 0 s.length then
                bif (↑(s.getD 0 0).toNat : Int) == 255 then
                  bif true && Nat.blt 1 s.length then
                    bif decide ((↑(s.getD 1 0).toNat : Int) ≥ 128) then
                      bif Nat.ble 1 s.length && s.length.ble s.length then
                        R Exit.normal
                          [some (V.int IntKind.i64 n), some (V.str []),
                            some (V.str (List.take (s.length - 1) (List.drop 1 s)))]
                          []
                      else False
                    else R (Exit.exit 2) [some (V.int IntKind.i64 n), some (V.str []), some (V.str s)] []
                  else False
                else R (Exit.exit 2) [some (V.int IntKind.i64 n), some (V.str []), some (V.str s)] []
              else False
          else False
        else
          bif true && Nat.blt 0 s.length then
            bif (↑(s.getD 0 0).toNat : Int) == 255 then
              bif true && Nat.blt 1 s.length then
                bif decide ((↑(s.getD 1 0).toNat : Int) ≥ 128) then
                  bif Nat.ble 1 s.length && s.length.ble s.length then
                    R Exit.normal
                      [some (V.int IntKind.i64 n), some (V.str []), some (V.str (List.take (s.length - 1) (List.drop 1 s)))]
                      []
                  else False
                else R (Exit.exit 2) [some (V.int IntKind.i64 n), some (V.str []), some (V.str s)] []
              else False
            else R (Exit.exit 2) [some (V.int IntKind.i64 n), some (V.str []), some (V.str s)] []
          else False
      else False
    else R (Exit.exit 2) [some (V.int IntKind.i64 n), some (V.str []), some (V.str s)] []) := by kernel_rfl
theorem rr_round (s : List UInt8) (u i : Int) (R : Exit → List (Option V) → St → Prop) : roundW Try.prog T13 9 10 (rounds 9) 13 250 [0,2,3,4,5] [.str s, .int .i64 0, .int .i64 0, .int .u64 u, .int .i64 i] [] R =
   (
    bif decide (i < (↑s.length : Int)) then
      bif decide (0 ≤ i) && i.toNat.blt s.length then
        R Exit.normal
          [some (V.str s), some (V.int IntKind.i64 0), some (V.int IntKind.i64 0),
            some
              (V.int IntKind.u64
                (IntKind.u64.wrap (IntKind.u64.wrap (u * 256) + IntKind.u64.wrap (↑(s.getD i.toNat 0).toNat : Int)))),
            some (V.int IntKind.i64 (IntKind.i64.wrap (i + 1)))]
          []
      else False
    else
      R (Exit.exit 0)
        [some (V.str s), some (V.int IntKind.i64 0), some (V.int IntKind.i64 0), some (V.int IntKind.u64 u),
          some (V.int IntKind.i64 i)]
        []) := by kernel_rfl
theorem bool_tree (b : Bool) (R : V → Prop) : runW Try.prog T13 9 10 18 [.bool b] R =
   (
    bif b then R (V.str [255]) else R (V.str [0])) := by kernel_rfl
theorem rbool_tree (b : Bool) (R : V → Prop) : runW Try.prog T13 9 10 19 [.bool b] R =
   (
    bif b then R (V.str [255]) else R (V.str [0])) := by kernel_rfl
theorem rdbool_tree (s : List UInt8) (R : V → Prop) : runW Try.prog T13 9 10 14 [.str s] R =
   (
    bif !s == [255] then
      bif !s == [0] then R (V.tuple [V.bool false, V.int IntKind.i64 4])
      else R (V.tuple [V.bool (s == [255]), V.int IntKind.i64 0])
    else R (V.tuple [V.bool (s == [255]), V.int IntKind.i64 0])) := by kernel_rfl
theorem rrdbool_tree (s : List UInt8) (R : V → Prop) : runW Try.prog T13 9 10 15 [.str s] R =
   (
    bif (↑s.length : Int) == 1 then
      bif true && Nat.blt 0 s.length then
        bif (↑(s.getD 0 0).toNat : Int) == 0 then
          bif true && Nat.blt 0 s.length then R (V.tuple [V.bool ((↑(s.getD 0 0).toNat : Int) == 255), V.int IntKind.i64 0])
          else False
        else
          bif true && Nat.blt 0 s.length then
            bif (↑(s.getD 0 0).toNat : Int) == 255 then
              bif true && Nat.blt 0 s.length then
                R (V.tuple [V.bool ((↑(s.getD 0 0).toNat : Int) == 255), V.int IntKind.i64 0])
              else False
            else R (V.tuple [V.bool false, V.int IntKind.i64 4])
          else False
      else False
    else R (V.tuple [V.bool false, V.int IntKind.i64 4])) := by kernel_rfl
theorem byte1_ok (args : List V) (v : V) (h : byte1F args = some v) : FnSat Try.prog 33 args [] (Is (v, [])) := by
  unfold byte1F at h
  split at h
  · cases h
    refine pureW_of (lim := 9) (n := 10) mixed T9_ok rfl rfl ?_
    rw [byte1_tree]
    rfl
  · cases h
theorem T13_ok : TabOk3 Try.prog T13 := ⟨addP_ok noT_ok byte1_ok, noL_ok, noLks_ok 9⟩
/-! ### which first bytes say nothing -/
theorem many_le (n : Int) (j : Nat) (hj : j ≤ 6) : manyI n ≤ (j : Int) + 1 ↔ (-(128 * ((256 ^ j : Nat) : Int)) ≤ n ∧ n < 128 * ((256 ^ j : Nat) : Int)) := by
  obtain rfl | rfl | rfl | rfl | rfl | rfl | rfl : j = 0 ∨ j = 1 ∨ j = 2 ∨ j = 3 ∨ j = 4 ∨ j = 5 ∨ j = 6 := by omega
  · have := many_iff1 n; simp at this ⊢; omega
  · have := many_iff2 n; simp at this ⊢; omega
  · have := many_iff3 n; simp at this ⊢; omega
  · have := many_iff4 n; simp at this ⊢; omega
  · have := many_iff5 n; simp at this ⊢; omega
  · have := many_iff6 n; simp at this ⊢; omega
  · have := many_iff7 n; simp at this ⊢; omega
def red (b0 b1 : UInt8) : Prop := (b0.toNat = 0 ∧ b1.toNat < 128) ∨ (b0.toNat = 255 ∧ b1.toNat ≥ 128)
theorem red_iff (b0 b1 : UInt8) (r : List UInt8) (hr : r.length ≤ 6) : red b0 b1 ↔ manyI (dec (b0 :: b1 :: r)) ≤ (r.length : Int) + 1 := by
  rw [many_le _ _ hr]
  have h0 := b0.toNat_lt
  have h1 := b1.toNat_lt
  have hp := pow_pos256 r.length
  have hd := decF_bounds r (sgnB b0 * 256 + b1.toNat)
  simp only [dec, decF]
  generalize ((256 ^ r.length : Nat) : Int) = c at *
  generalize decF (sgnB b0 * 256 + b1.toNat) r = D at *
  generalize hq : sgnB b0 * 256 + b1.toNat = q at *
  have hs : sgnB b0 = b0.toNat ∨ sgnB b0 = (b0.toNat : Int) - 256 := by unfold sgnB; split <;> simp
  have hs2 : sgnB b0 = if b0.toNat ≥ 128 then (b0.toNat : Int) - 256 else b0.toNat := rfl
  have hrq : red b0 b1 ↔ (-128 ≤ q ∧ q ≤ 127) := by
    unfold red
    split at hs2 <;> omega
  rw [hrq]
  constructor
  · intro h
    have e1 : -128 * c ≤ q * c := Int.mul_le_mul_of_nonneg_right h.1 (by omega)
    have e2 : (q + 1) * c ≤ 128 * c := Int.mul_le_mul_of_nonneg_right (by omega) (by omega)
    omega
  · intro h
    refine ⟨?_, ?_⟩
    · refine Int.not_lt.1 fun hlt => ?_
      have e2 : (q + 1) * c ≤ -128 * c := Int.mul_le_mul_of_nonneg_right (by omega) (by omega)
      omega
    · refine Int.not_lt.1 fun hlt => ?_
      have e1 : 128 * c ≤ q * c := Int.mul_le_mul_of_nonneg_right (by omega) (by omega)
      omega
theorem many_dec (b : UInt8) (r : List UInt8) (hr : r.length ≤ 7) : manyI (dec (b :: r)) ≤ (r.length : Int) + 1 := by
  by_cases h : r.length ≤ 6
  · rw [many_le _ _ h]
    exact dec_bounds b r
  · have := many_max (dec (b :: r)); omega
theorem dec_beL {n : Int} (h0 : -9223372036854775808 ≤ n) (h1 : n ≤ 9223372036854775807) {m : Nat} (hm : manyI n ≤ m + 1) (h7 : m ≤ 7) : dec (beL (m + 1) n) = n := by
  by_cases h : m ≤ 6
  · have := (many_le n m h).1 hm
    exact dec_be this.1 this.2
  · have : m = 7 := by omega
    subst this
    exact dec_be (by simp; omega) (by simp; omega)
/-! ### the document's Int -/
def uAt (n : Int) (i : Nat) : Int := (n % 18446744073709551616) / ((256 ^ i : Nat) : Int)
theorem oneB_nat {u : Int} (h0 : 0 ≤ u) : ((oneB (IntKind.i64.wrap (u.tmod 256))).toNat : Int) = u % 256 := by
  have e : u.tmod 256 = u % 256 := Int.tmod_eq_emod_of_nonneg h0
  have b1 := Int.emod_nonneg u (show (256 : Int) ≠ 0 by omega)
  have b2 := Int.emod_lt_of_pos u (show (0 : Int) < 256 by omega)
  rw [e, IntWalk.i64_in _ ⟨by omega, by omega⟩]
  unfold oneB
  rw [Int.tmod_eq_emod_of_nonneg b1, IntKind.wrap_u8, UInt8.toNat_ofNat']
  omega
theorem uAt_step (n : Int) (i : Nat) (hi : i < 8) : 0 ≤ uAt n i ∧ uAt n i < 18446744073709551616 ∧ uAt n i % 256 = (n / ((256 ^ i : Nat) : Int)) % 256 ∧ uAt n i / 256 = uAt n (i + 1) := by
  obtain rfl | rfl | rfl | rfl | rfl | rfl | rfl | rfl : i = 0 ∨ i = 1 ∨ i = 2 ∨ i = 3 ∨ i = 4 ∨ i = 5 ∨ i = 6 ∨ i = 7 := by omega
  all_goals simp only [uAt, Nat.reducePow, Nat.reduceAdd]
  all_goals omega
structure AS where
  n : Int
  s : List UInt8
  i : Nat
def asV (x : AS) : List V := [.int .i64 x.n, .str [], .str x.s, .int .u64 (uAt x.n x.i), .int .i64 x.i]
def asPre (x : AS) : Bool := decide (x.i ≤ 8) && decide (x.s = beL x.i x.n)
def asJ (x : AS) : St := []
def asMu (x : AS) : Nat := 8 - x.i
def asOut : Asks AS := fun x K => K (.exit 0) (asV ⟨x.n, beL 8 x.n, 8⟩) []
theorem as_fits (x : AS) : Fits 0 (asV x) [] ((asV x).map some) [] := ⟨[], asV x, rfl, rfl, FitsM.of trivial, by simp, fun i hi => by omega⟩
theorem as_round (x : AS) (hx : asPre x = true) : roundW Try.prog T13 9 10 (rounds 9) 17 122 [0,2,3,4,5] (asV x) (asJ x) (RoundOkA 0 asPre asV asJ asMu asOut x) := by
  obtain ⟨n, s, i⟩ := x
  simp only [asPre, Bool.and_eq_true, decide_eq_true_eq] at hx
  have p1 := hx.1
  have p2 := hx.2
  clear hx
  show roundW Try.prog T13 9 10 (rounds 9) 17 122 [0,2,3,4,5] [.int .i64 n, .str [], .str s, .int .u64 (uAt n i), .int .i64 i] [] _
  rw [ri_round1]
  have hl : s.length = i := by rw [p2]; exact beL_len n i
  refine bif_intro (fun h => must_intro (Nat.ble_eq_true_of_le (by omega)) ?_) (fun h => ?_)
  · have h := of_decide_eq_true h
    have hu := uAt_step n i (by omega)
    have hb := byteAt_nat n i
    have ho := oneB_nat hu.1
    have e1 : [oneB (IntKind.i64.wrap ((uAt n i).tmod 256))] ++ s = beL (i + 1) n := by
      simp only [beL, List.cons_append, List.nil_append, ← p2]
      congr 1
      apply UInt8.toNat_inj.1
      omega
    have e2 : IntKind.u64.wrap ((uAt n i).tdiv 256) = uAt n (i + 1) := by
      rw [Int.tdiv_eq_ediv_of_nonneg hu.1, hu.2.2.2, IntKind.wrap_u64]
      rw [← hu.2.2.2]; omega
    have e3 : IntKind.i64.wrap ((i : Int) + 1) = ((i + 1 : Nat) : Int) := by rw [IntWalk.i64_in _ ⟨by omega, by omega⟩]; omega
    rw [e1, e2, e3]
    refine ⟨⟨n, beL (i + 1) n, i + 1⟩, ?_, as_fits _, by simp only [asMu]; omega, fun K hK => hK⟩
    simp only [asPre, Bool.and_eq_true, decide_eq_true_eq]
    exact ⟨by omega, trivial⟩
  · have h := of_decide_eq_false h
    have : i = 8 := by omega
    subst this
    subst p2
    exact ⟨_, _, fun K hK => hK, as_fits ⟨n, beL 8 n, 8⟩⟩
theorem red_leaf {x0 x1 : UInt8} {A B : Prop} (hA : red x0 x1 → A) (hB : ¬ red x0 x1 → B) :
    (bif (x0.toNat : Int) == 0 then bif decide ((x1.toNat : Int) < 128) then A else bif (x0.toNat : Int) == 255 then bif decide ((x1.toNat : Int) ≥ 128) then A else B else B
      else bif (x0.toNat : Int) == 255 then bif decide ((x1.toNat : Int) ≥ 128) then A else B else B) := by
  unfold red at hA hB
  cases h1 : ((x0.toNat : Int) == 0) <;> cases h2 : decide ((x1.toNat : Int) < 128) <;> cases h3 : ((x0.toNat : Int) == 255) <;> cases h4 : decide ((x1.toNat : Int) ≥ 128) <;> simp only [cond_true, cond_false] <;>
    first
      | (apply hA; clear hA hB; simp only [beq_iff_eq, beq_eq_false_iff_ne, decide_eq_true_eq, decide_eq_false_iff_not] at h1 h2 h3 h4; omega)
      | (apply hB; clear hA hB; simp only [beq_iff_eq, beq_eq_false_iff_ne, decide_eq_true_eq, decide_eq_false_iff_not] at h1 h2 h3 h4; omega)
structure BS where
  n : Int
  s : List UInt8
def bsV (x : BS) : List V := [.int .i64 x.n, .str [], .str x.s]
def okI (n : Int) : Bool := decide (-9223372036854775808 ≤ n) && decide (n ≤ 9223372036854775807)
def bsPre (x : BS) : Bool := okI x.n && decide (manyI x.n ≤ x.s.length) && decide (x.s.length ≤ 8) && decide (x.s = beL x.s.length x.n)
def bsJ (x : BS) : St := []
def bsMu (x : BS) : Nat := x.s.length
def bsOut : Asks BS := fun x K => K (.exit 2) (bsV ⟨x.n, intL x.n⟩) []
theorem bs_fits (x : BS) : Fits 0 (bsV x) [] ((bsV x).map some) [] := ⟨[], bsV x, rfl, rfl, FitsM.of trivial, by simp, fun i hi => by omega⟩
theorem bs_round (x : BS) (hx : bsPre x = true) : roundW Try.prog T13 9 10 (rounds 9) 17 124 [0,2,3] (bsV x) (bsJ x) (RoundOkA 0 bsPre bsV bsJ bsMu bsOut x) := by
  obtain ⟨n, s⟩ := x
  simp only [bsPre, okI, Bool.and_eq_true, decide_eq_true_eq] at hx
  have q1 := hx.1.1.1.1
  have q2 := hx.1.1.1.2
  have p1 := hx.1.1.2
  have p2 := hx.1.2
  have p3 := hx.2
  clear hx
  have hmx := many_max n
  have stop : manyI n = s.length → RoundOkA 0 bsPre bsV bsJ bsMu bsOut ⟨n, s⟩ (.exit 2) ((bsV ⟨n, s⟩).map some) [] := by
    intro h
    have e : intL n = s := by unfold intL; rw [h, Int.toNat_natCast]; exact p3.symm
    refine ⟨bsV ⟨n, intL n⟩, [], fun K hK => hK, ?_⟩
    rw [e]; exact bs_fits _
  show roundW Try.prog T13 9 10 (rounds 9) 17 124 [0,2,3] [.int .i64 n, .str [], .str s] [] _
  rw [ri_round2]
  match s, p1, p2, p3, stop with
  | [], p1, _, _, _ => simp at p1; omega
  | [b], p1, _, _, stop =>
    simp only [List.length_cons, List.length_nil] at p1 ⊢
    refine bif_intro (fun h => ?_) (fun h => stop (by simp; omega))
    have := of_decide_eq_true h; omega
  | b0 :: b1 :: r, p1, p2, p3, stop =>
    simp only [List.length_cons] at p1 p2
    have hd : dec (b0 :: b1 :: r) = n := by
      rw [p3]
      exact dec_beL q1 q2 (m := r.length + 1) (by omega) (by omega)
    have hr := red_iff b0 b1 r (by omega)
    rw [hd] at hr
    have htail : b1 :: r = beL (r.length + 1) n := by
      have : b0 :: b1 :: r = beL (r.length + 1 + 1) n := p3
      rw [beL] at this
      exact (List.cons.inj this).2
    have next : red b0 b1 → RoundOkA 0 bsPre bsV bsJ bsMu bsOut ⟨n, b0 :: b1 :: r⟩ .normal ((bsV ⟨n, b1 :: r⟩).map some) [] := by
      intro h
      refine ⟨⟨n, b1 :: r⟩, ?_, bs_fits _, by simp only [bsMu, List.length_cons]; omega, fun K hK => hK⟩
      simp only [bsPre, okI, Bool.and_eq_true, decide_eq_true_eq, List.length_cons]
      exact ⟨⟨⟨⟨q1, q2⟩, hr.1 h⟩, by omega⟩, htail⟩
    have done : ¬ red b0 b1 → RoundOkA 0 bsPre bsV bsJ bsMu bsOut ⟨n, b0 :: b1 :: r⟩ (.exit 2) ((bsV ⟨n, b0 :: b1 :: r⟩).map some) [] := by
      intro h
      refine stop ?_
      have : ¬ manyI n ≤ (r.length : Int) + 1 := fun h2 => h (hr.2 h2)
      simp only [List.length_cons]; omega
    have et : List.take ((b0 :: b1 :: r).length - 1) (List.drop 1 (b0 :: b1 :: r)) = b1 :: r := by simp
    have c1 : decide (((b0 :: b1 :: r).length : Int) > 1) = true := decide_eq_true (by simp; omega)
    have c2 : (true && Nat.blt 0 (b0 :: b1 :: r).length) = true := by simp [blt_dec]
    have c3 : (true && Nat.blt 1 (b0 :: b1 :: r).length) = true := by simp [blt_dec]
    have c4 : (Nat.ble 1 (b0 :: b1 :: r).length && (b0 :: b1 :: r).length.ble (b0 :: b1 :: r).length) = true := by simp [ble_dec]
    rw [et, c1, c2, c3, c4]
    simp only [cond_true, List.getD_cons_zero, List.getD_cons_succ]
    exact red_leaf next done
def asDec : List (Option V) → St → Option AS
  | [some (.int .i64 n), some (.str []), some (.str s), some (.int .u64 u), some (.int .i64 i)], [] => some ⟨n, s, i.toNat⟩
  | _, _ => none
def bsDec : List (Option V) → St → Option BS
  | [some (.int .i64 n), some (.str []), some (.str s)], [] => some ⟨n, s⟩
  | _, _ => none
noncomputable def lk17b : Nat → Trans → Trans := withLoop 124 (loopA 0 (szOf Try.prog 17) [0,2,3] bsDec bsPre bsV bsJ bsOut) (rounds 9)
noncomputable def lk17 : Nat → Trans → Trans := withLoop 122 (loopA 0 (szOf Try.prog 17) [0,2,3,4,5] asDec asPre asV asJ asOut) lk17b
theorem as_loop {f : Fr} {st : St} {Q : Exit → Fr → St → Prop} (h : loopA 0 (szOf Try.prog 17) [0,2,3,4,5] asDec asPre asV asJ asOut f st Q) : CodeSatW Try.prog none 0 (.loop (loopOf Try.prog 17 122)) f st Q :=
  loopA_ok (P := Try.prog) (T := T13) (k := 0) (lim := 9) (n := 10) (g := 17) (p0 := 122) (lk := rounds 9) mixed T13_ok (roundsW 9 _ _) asMu as_round h
theorem bs_loop {f : Fr} {st : St} {Q : Exit → Fr → St → Prop} (h : loopA 0 (szOf Try.prog 17) [0,2,3] bsDec bsPre bsV bsJ bsOut f st Q) : CodeSatW Try.prog none 0 (.loop (loopOf Try.prog 17 124)) f st Q :=
  loopA_ok (P := Try.prog) (T := T13) (k := 0) (lim := 9) (n := 10) (g := 17) (p0 := 124) (lk := rounds 9) mixed T13_ok (roundsW 9 _ _) bsMu bs_round h
theorem lk17_ok : FnLoopsW Try.prog 0 lk17 17 := by
  unfold lk17 lk17b
  exact fnLoopW (fnLoopW (fnRoundsW 9 0 17) (by kernel_rfl) fun f st Q h => bs_loop h) (by kernel_rfl) fun f st Q h => as_loop h
noncomputable def T14 : Tab := ⟨addP noT 33 byte1F, noL, addLk (noLks 9) 17 0 lk17⟩
theorem T14_ok : TabOk3 Try.prog T14 := ⟨addP_ok noT_ok byte1_ok, noL_ok, addLk_ok (noLks_ok 9) lk17_ok⟩
theorem rint_tree (n : Int) (R : V → Prop) : runW Try.prog T14 9 10 17 [.int .i64 n] R =
   (
    Fits 0 [V.int IntKind.i64 n, V.str [], V.str [], V.int IntKind.u64 (uAt n 0), V.int IntKind.i64 0] []
        [some (V.int IntKind.i64 n), some (V.str []), some (V.str []), some (V.int IntKind.u64 (IntKind.u64.wrap n)),
          some (V.int IntKind.i64 0)]
        [] ∧
      Fits 0 [V.int IntKind.i64 n, V.str [], V.str (beL 8 n)] []
          [some (V.int IntKind.i64 n), some (V.str []), some (V.str (beL 8 n))] [] ∧
        bif bsPre { n := n, s := beL 8 n } then R (V.str (intL n)) else False) := by kernel_rfl
def rintF : List V → Option (List (Bool × (V × St)))
  | [.int .i64 n] => some [(okI n, (.str (intL n), []))]
  | _ => none
theorem rint_ok (args : List V) (l : List (Bool × (V × St))) (o : V × St) (h : rintF args = some l) (ho : pickO l = some o) : FnSat Try.prog 17 args [] (Is o) := by
  unfold rintF at h
  split at h
  · rename_i n
    cases h
    cases ht : okI n with
    | false => rw [ht] at ho; simp [pickO] at ho
    | true =>
      rw [ht] at ho
      simp only [pickO, cond_true, Option.some.injEq] at ho
      subst ho
      refine pureW_of (lim := 9) (n := 10) mixed T14_ok rfl rfl ?_
      rw [rint_tree]
      have hmx := many_max n
      have e : IntKind.u64.wrap n = uAt n 0 := by
        rw [IntKind.wrap_u64]
        simp only [uAt, Nat.reducePow]
        omega
      rw [e]
      refine ⟨as_fits ⟨n, [], 0⟩, ⟨bs_fits ⟨n, beL 8 n⟩, must_intro ?_ rfl⟩⟩
      · simp only [bsPre, ht, beL_len, Bool.true_and, Bool.and_eq_true, decide_eq_true_eq]
        exact ⟨⟨by omega, by omega⟩, trivial⟩
  · cases h
/-! ### the document's ReadInt -/
structure US where
  s : List UInt8
  u : Int
  i : Nat
def usV (x : US) : List V := [.str x.s, .int .i64 0, .int .i64 0, .int .u64 x.u, .int .i64 x.i]
def topC (s : List UInt8) : Int := if (s.getD 0 0).toNat ≥ 128 then -1 else 0
def usPre (x : US) : Bool := decide (x.i ≤ x.s.length) && decide (x.s.length ≤ 8) && decide (x.u = IntKind.u64.wrap (decF (topC x.s) (x.s.take x.i)))
def usJ (x : US) : St := []
def usMu (x : US) : Nat := x.s.length - x.i
def usOut : Asks US := fun x K => K (.exit 0) (usV ⟨x.s, IntKind.u64.wrap (decF (topC x.s) x.s), x.s.length⟩) []
theorem us_fits (x : US) : Fits 0 (usV x) [] ((usV x).map some) [] := ⟨[], usV x, rfl, rfl, FitsM.of trivial, by simp, fun i hi => by omega⟩
theorem decF_take {s : List UInt8} {a : Int} {i : Nat} (h : i < s.length) : decF a (s.take (i + 1)) = decF a (s.take i) * 256 + (s.getD i 0).toNat := by
  rw [List.take_add_one, List.getElem?_eq_getElem h, Option.toList_some, decF_append, List.getD_eq_getElem?_getD, List.getElem?_eq_getElem h, Option.getD_some]
theorem us_round (x : US) (hx : usPre x = true) : roundW Try.prog T13 9 10 (rounds 9) 13 250 [0,2,3,4,5] (usV x) (usJ x) (RoundOkA 0 usPre usV usJ usMu usOut x) := by
  obtain ⟨s, u, i⟩ := x
  simp only [usPre, Bool.and_eq_true, decide_eq_true_eq] at hx
  have p1 := hx.1.1
  have p2 := hx.1.2
  have p3 := hx.2
  clear hx
  show roundW Try.prog T13 9 10 (rounds 9) 13 250 [0,2,3,4,5] [.str s, .int .i64 0, .int .i64 0, .int .u64 u, .int .i64 i] [] _
  rw [rr_round]
  cases hb : decide ((i : Int) < s.length) with
  | true =>
    rw [cond_true]
    have h := of_decide_eq_true hb
    have hi : i < s.length := by omega
    refine must_intro ?_ ?_
    · rw [decide_eq_true (show (0 : Int) ≤ i by omega), Int.toNat_natCast, Bool.true_and]
      exact Nat.ble_eq_true_of_le hi
    · have e1 : IntKind.i64.wrap ((i : Int) + 1) = ((i + 1 : Nat) : Int) := by rw [IntWalk.i64_in _ ⟨by omega, by omega⟩]; omega
      have e2 := decF_take (a := topC s) hi
      rw [e1, Int.toNat_natCast]
      refine ⟨⟨s, IntKind.u64.wrap (IntKind.u64.wrap (u * 256) + IntKind.u64.wrap (s.getD i 0).toNat), i + 1⟩, ?_, us_fits _, by simp only [usMu]; omega, fun K hK => hK⟩
      simp only [usPre, Bool.and_eq_true, decide_eq_true_eq]
      refine ⟨⟨by omega, p2⟩, ?_⟩
      rw [e2, p3]
      simp only [IntKind.wrap_u64]
      omega
  | false =>
    rw [cond_false]
    have h := of_decide_eq_false hb
    have hi : i = s.length := by omega
    subst hi
    rw [p3, List.take_length]
    exact ⟨_, _, fun K hK => hK, us_fits ⟨s, IntKind.u64.wrap (decF (topC s) s), s.length⟩⟩
def usDec : List (Option V) → St → Option US
  | [some (.str s), some (.int .i64 0), some (.int .i64 0), some (.int .u64 u), some (.int .i64 i)], [] => some ⟨s, u, i.toNat⟩
  | _, _ => none
noncomputable def lk13 : Nat → Trans → Trans := withLoop 250 (loopA 0 (szOf Try.prog 13) [0,2,3,4,5] usDec usPre usV usJ usOut) (rounds 9)
theorem us_loop {f : Fr} {st : St} {Q : Exit → Fr → St → Prop} (h : loopA 0 (szOf Try.prog 13) [0,2,3,4,5] usDec usPre usV usJ usOut f st Q) : CodeSatW Try.prog none 0 (.loop (loopOf Try.prog 13 250)) f st Q :=
  loopA_ok (P := Try.prog) (T := T13) (k := 0) (lim := 9) (n := 10) (g := 13) (p0 := 250) (lk := rounds 9) mixed T13_ok (roundsW 9 _ _) usMu us_round h
theorem lk13_ok : FnLoopsW Try.prog 0 lk13 13 := by
  unfold lk13
  exact fnLoopW (fnRoundsW 9 0 13) (by kernel_rfl) fun f st Q h => us_loop h
noncomputable def T15 : Tab := ⟨noT, noL, addLk (noLks 9) 13 0 lk13⟩
theorem T15_ok : TabOk3 Try.prog T15 := ⟨noT_ok, noL_ok, addLk_ok (noLks_ok 9) lk13_ok⟩
theorem rread_tree (s : List UInt8) (R : V → Prop) : runW Try.prog T15 9 10 13 [.str s] R =
   (
    bif s == [] then R (V.tuple [V.int IntKind.i64 0, V.int IntKind.i64 4])
    else
      bif decide ((↑s.length : Int) > 8) then R (V.tuple [V.int IntKind.i64 0, V.int IntKind.i64 4])
      else
        bif decide ((↑s.length : Int) > 1) then
          bif true && Nat.blt 0 s.length then
            bif (↑(s.getD 0 0).toNat : Int) == 0 then
              bif true && Nat.blt 1 s.length then
                bif decide ((↑(s.getD 1 0).toNat : Int) < 128) then R (V.tuple [V.int IntKind.i64 0, V.int IntKind.i64 4])
                else
                  bif true && Nat.blt 0 s.length then
                    bif (↑(s.getD 0 0).toNat : Int) == 255 then
                      bif true && Nat.blt 1 s.length then
                        bif decide ((↑(s.getD 1 0).toNat : Int) ≥ 128) then
                          R (V.tuple [V.int IntKind.i64 0, V.int IntKind.i64 4])
                        else
                          bif true && Nat.blt 0 s.length then
                            bif decide ((↑(s.getD 0 0).toNat : Int) ≥ 128) then
                              Fits 0
                                  [V.str s, V.int IntKind.i64 0, V.int IntKind.i64 0,
                                    V.int IntKind.u64 18446744073709551615, V.int IntKind.i64 0]
                                  []
                                  [some (V.str s), some (V.int IntKind.i64 0), some (V.int IntKind.i64 0),
                                    some (V.int IntKind.u64 18446744073709551615), some (V.int IntKind.i64 0)]
                                  [] ∧
                                bif usPre { s := s, u := 18446744073709551615, i := 0 } then
                                  R
                                    (V.tuple
                                      [V.int IntKind.i64 (IntKind.i64.wrap (IntKind.u64.wrap (decF (topC s) s))),
                                        V.int IntKind.i64 0])
                                else False
                            else
                              Fits 0
                                  [V.str s, V.int IntKind.i64 0, V.int IntKind.i64 0, V.int IntKind.u64 0,
                                    V.int IntKind.i64 0]
                                  []
                                  [some (V.str s), some (V.int IntKind.i64 0), some (V.int IntKind.i64 0),
                                    some (V.int IntKind.u64 0), some (V.int IntKind.i64 0)]
                                  [] ∧
                                bif usPre { s := s, u := 0, i := 0 } then
                                  R
                                    (V.tuple
                                      [V.int IntKind.i64 (IntKind.i64.wrap (IntKind.u64.wrap (decF (topC s) s))),
                                        V.int IntKind.i64 0])
                                else False
                          else False
                      else False
                    else
                      bif true && Nat.blt 0 s.length then
                        bif decide ((↑(s.getD 0 0).toNat : Int) ≥ 128) then
                          Fits 0
                              [V.str s, V.int IntKind.i64 0, V.int IntKind.i64 0, V.int IntKind.u64 18446744073709551615,
                                V.int IntKind.i64 0]
                              []
                              [some (V.str s), some (V.int IntKind.i64 0), some (V.int IntKind.i64 0),
                                some (V.int IntKind.u64 18446744073709551615), some (V.int IntKind.i64 0)]
                              [] ∧
                            bif usPre { s := s, u := 18446744073709551615, i := 0 } then
                              R
                                (V.tuple
                                  [V.int IntKind.i64 (IntKind.i64.wrap (IntKind.u64.wrap (decF (topC s) s))),
                                    V.int IntKind.i64 0])
                            else False
                        else
                          Fits 0
                              [V.str s, V.int IntKind.i64 0, V.int IntKind.i64 0, V.int IntKind.u64 0, V.int IntKind.i64 0]
                              []
                              [some (V.str s), some (V.int IntKind.i64 0), some (V.int IntKind.i64 0),
                                some (V.int IntKind.u64 0), some (V.int IntKind.i64 0)]
                              [] ∧
                            bif usPre { s := s, u := 0, i := 0 } then
                              R
                                (V.tuple
                                  [V.int IntKind.i64 (IntKind.i64.wrap (IntKind.u64.wrap (decF (topC s) s))),
                                    V.int IntKind.i64 0])
                            else False
                      else False
                  else False
              else False
            else
              bif true && Nat.blt 0 s.length then
                bif (↑(s.getD 0 0).toNat : Int) == 255 then
                  bif true && Nat.blt 1 s.length then
                    bif decide ((↑(s.getD 1 0).toNat : Int) ≥ 128) then
                      R (V.tuple [V.int IntKind.i64 0, V.int IntKind.i64 4])
                    else
                      bif true && Nat.blt 0 s.length then
                        bif decide ((↑(s.getD 0 0).toNat : Int) ≥ 128) then
                          Fits 0
                              [V.str s, V.int IntKind.i64 0, V.int IntKind.i64 0, V.int IntKind.u64 18446744073709551615,
                                V.int IntKind.i64 0]
                              []
                              [some (V.str s), some (V.int IntKind.i64 0), some (V.int IntKind.i64 0),
                                some (V.int IntKind.u64 18446744073709551615), some (V.int IntKind.i64 0)]
                              [] ∧
                            bif usPre { s := s, u := 18446744073709551615, i := 0 } then
                              R
                                (V.tuple
                                  [V.int IntKind.i64 (IntKind.i64.wrap (IntKind.u64.wrap (decF (topC s) s))),
                                    V.int IntKind.i64 0])
                            else False
                        else
                          Fits 0
                              [V.str s, V.int IntKind.i64 0, V.int IntKind.i64 0, V.int IntKind.u64 0, V.int IntKind.i64 0]
                              []
                              [some (V.str s), some (V.int IntKind.i64 0), some (V.int IntKind.i64 0),
                                some (V.int IntKind.u64 0), some (V.int IntKind.i64 0)]
                              [] ∧
                            bif usPre { s := s, u := 0, i := 0 } then
                              R
                                (V.tuple
                                  [V.int IntKind.i64 (IntKind.i64.wrap (IntKind.u64.wrap (decF (topC s) s))),
                                    V.int IntKind.i64 0])
                            else False
                      else False
                  else False
                else
                  bif true && Nat.blt 0 s.length then
                    bif decide ((↑(s.getD 0 0).toNat : Int) ≥ 128) then
                      Fits 0
                          [V.str s, V.int IntKind.i64 0, V.int IntKind.i64 0, V.int IntKind.u64 18446744073709551615,
                            V.int IntKind.i64 0]
                          []
                          [some (V.str s), some (V.int IntKind.i64 0), some (V.int IntKind.i64 0),
                            some (V.int IntKind.u64 18446744073709551615), some (V.int IntKind.i64 0)]
                          [] ∧
                        bif usPre { s := s, u := 18446744073709551615, i := 0 } then
                          R
                            (V.tuple
                              [V.int IntKind.i64 (IntKind.i64.wrap (IntKind.u64.wrap (decF (topC s) s))),
                                V.int IntKind.i64 0])
                        else False
                    else
                      Fits 0 [V.str s, V.int IntKind.i64 0, V.int IntKind.i64 0, V.int IntKind.u64 0, V.int IntKind.i64 0]
                          []
                          [some (V.str s), some (V.int IntKind.i64 0), some (V.int IntKind.i64 0),
                            some (V.int IntKind.u64 0), some (V.int IntKind.i64 0)]
                          [] ∧
                        bif usPre { s := s, u := 0, i := 0 } then
                          R
                            (V.tuple
                              [V.int IntKind.i64 (IntKind.i64.wrap (IntKind.u64.wrap (decF (topC s) s))),
                                V.int IntKind.i64 0])
                        else False
                  else False
              else False
          else False
        else
          bif true && Nat.blt 0 s.length then
            bif decide ((↑(s.getD 0 0).toNat : Int) ≥ 128) then
              Fits 0
                  [V.str s, V.int IntKind.i64 0, V.int IntKind.i64 0, V.int IntKind.u64 18446744073709551615,
                    V.int IntKind.i64 0]
                  []
                  [some (V.str s), some (V.int IntKind.i64 0), some (V.int IntKind.i64 0),
                    some (V.int IntKind.u64 18446744073709551615), some (V.int IntKind.i64 0)]
                  [] ∧
                bif usPre { s := s, u := 18446744073709551615, i := 0 } then
                  R
                    (V.tuple
                      [V.int IntKind.i64 (IntKind.i64.wrap (IntKind.u64.wrap (decF (topC s) s))), V.int IntKind.i64 0])
                else False
            else
              Fits 0 [V.str s, V.int IntKind.i64 0, V.int IntKind.i64 0, V.int IntKind.u64 0, V.int IntKind.i64 0] []
                  [some (V.str s), some (V.int IntKind.i64 0), some (V.int IntKind.i64 0), some (V.int IntKind.u64 0),
                    some (V.int IntKind.i64 0)]
                  [] ∧
                bif usPre { s := s, u := 0, i := 0 } then
                  R
                    (V.tuple
                      [V.int IntKind.i64 (IntKind.i64.wrap (IntKind.u64.wrap (decF (topC s) s))), V.int IntKind.i64 0])
                else False
          else False) := by kernel_rfl
theorem dec_top (b : UInt8) (r : List UInt8) : decF (topC (b :: r)) (b :: r) = dec (b :: r) := by
  simp only [decF, dec, topC, List.getD_cons_zero]
  congr 1
  unfold sgnB
  split <;> omega
theorem dec_i64 (b : UInt8) (r : List UInt8) (hr : r.length ≤ 7) : -9223372036854775808 ≤ dec (b :: r) ∧ dec (b :: r) ≤ 9223372036854775807 := by
  have h := dec_bounds b r
  have : ((256 ^ r.length : Nat) : Int) ≤ ((256 ^ 7 : Nat) : Int) := by
    have := Nat.pow_le_pow_right (n := 256) (by omega) hr
    omega
  have e : ((256 ^ 7 : Nat) : Int) = 72057594037927936 := by simp
  omega
theorem wraps {x : Int} (h : -9223372036854775808 ≤ x ∧ x ≤ 9223372036854775807) : IntKind.i64.wrap (IntKind.u64.wrap x) = x := by
  rw [IntKind.wrap_i64, IntKind.wrap_u64]
  omega
theorem readE_one (b : UInt8) : readE [b] = 0 := by
  have h := many_dec b [] (by simp)
  have hm := many_max (dec [b])
  have hb := be_dec [b] (by simp)
  unfold readE
  rw [if_neg (by simp), if_pos ?_]
  unfold intL
  have : (manyI (dec [b])).toNat = 1 := by simp at h; omega
  rw [this]; exact hb
theorem readE_two (b0 b1 : UInt8) (r : List UInt8) (hr : r.length ≤ 6) : (red b0 b1 → readE (b0 :: b1 :: r) = 4) ∧ (¬ red b0 b1 → readE (b0 :: b1 :: r) = 0) := by
  have hi := red_iff b0 b1 r hr
  have hm := many_max (dec (b0 :: b1 :: r))
  have hd := many_dec b0 (b1 :: r) (by simp; omega)
  have hb := be_dec (b0 :: b1 :: r) (by simp)
  have hl : ¬ ((b0 :: b1 :: r).length < 1 ∨ 8 < (b0 :: b1 :: r).length) := by simp; omega
  simp only [List.length_cons] at hd hb
  constructor
  · intro h
    have h2 := hi.1 h
    unfold readE
    rw [if_neg hl, if_neg fun e => ?_]
    have := congrArg List.length e
    rw [intL_len] at this
    simp only [List.length_cons] at this
    omega
  · intro h
    have h2 : ¬ manyI (dec (b0 :: b1 :: r)) ≤ (r.length : Int) + 1 := fun h2 => h (hi.2 h2)
    unfold readE
    rw [if_neg hl, if_pos ?_]
    unfold intL
    have : (manyI (dec (b0 :: b1 :: r))).toNat = r.length + 1 + 1 := by omega
    rw [this]; exact hb
theorem rread_fin (b : UInt8) (r : List UInt8) (hr : r.length ≤ 7) (hE : readE (b :: r) = 0) :
    (bif decide ((b.toNat : Int) ≥ 128) then
      Fits 0 [V.str (b :: r), V.int .i64 0, V.int .i64 0, V.int .u64 18446744073709551615, V.int .i64 0] [] [some (V.str (b :: r)), some (V.int .i64 0), some (V.int .i64 0), some (V.int .u64 18446744073709551615), some (V.int .i64 0)] [] ∧
        bif usPre ⟨b :: r, 18446744073709551615, 0⟩ then V.tuple [V.int .i64 (IntKind.i64.wrap (IntKind.u64.wrap (decF (topC (b :: r)) (b :: r)))), V.int .i64 0] = V.tuple [V.int .i64 (readN (b :: r)), V.int .i64 (readE (b :: r))] else False
    else
      Fits 0 [V.str (b :: r), V.int .i64 0, V.int .i64 0, V.int .u64 0, V.int .i64 0] [] [some (V.str (b :: r)), some (V.int .i64 0), some (V.int .i64 0), some (V.int .u64 0), some (V.int .i64 0)] [] ∧
        bif usPre ⟨b :: r, 0, 0⟩ then V.tuple [V.int .i64 (IntKind.i64.wrap (IntKind.u64.wrap (decF (topC (b :: r)) (b :: r)))), V.int .i64 0] = V.tuple [V.int .i64 (readN (b :: r)), V.int .i64 (readE (b :: r))] else False) := by
  have val : V.tuple [V.int .i64 (IntKind.i64.wrap (IntKind.u64.wrap (decF (topC (b :: r)) (b :: r)))), V.int .i64 0] = V.tuple [V.int .i64 (readN (b :: r)), V.int .i64 (readE (b :: r))] := by
    rw [dec_top, wraps (dec_i64 b r hr), hE]
    unfold readN
    rw [if_pos hE]
  have pre : ∀ u, u = IntKind.u64.wrap (topC (b :: r)) → usPre ⟨b :: r, u, 0⟩ = true := by
    rintro u rfl
    simp only [usPre, Bool.and_eq_true, decide_eq_true_eq, List.length_cons]
    exact ⟨⟨by omega, by omega⟩, rfl⟩
  cases h : decide ((b.toNat : Int) ≥ 128) with
  | true =>
    have h := of_decide_eq_true h
    have ht : topC (b :: r) = -1 := by unfold topC; rw [List.getD_cons_zero, if_pos (by omega)]
    exact ⟨us_fits ⟨b :: r, 18446744073709551615, 0⟩, must_intro (pre _ (by rw [ht, IntKind.wrap_u64]; rfl)) val⟩
  | false =>
    have h := of_decide_eq_false h
    have ht : topC (b :: r) = 0 := by unfold topC; rw [List.getD_cons_zero, if_neg (by omega)]
    exact ⟨us_fits ⟨b :: r, 0, 0⟩, must_intro (pre _ (by rw [ht, IntKind.wrap_u64]; rfl)) val⟩
theorem rread_ok (args : List V) (v : V) (h : readF args = some v) : FnSat Try.prog 13 args [] (Is (v, [])) := by
  unfold readF at h
  split at h
  · rename_i s
    cases h
    refine pureW_of (lim := 9) (n := 10) mixed T15_ok rfl rfl ?_
    rw [rread_tree]
    have none4 : readE s = 4 → V.tuple [V.int IntKind.i64 0, V.int IntKind.i64 4] = V.tuple [V.int IntKind.i64 (readN s), V.int IntKind.i64 (readE s)] := by
      intro h; rw [h]; unfold readN; rw [if_neg (by omega)]
    match s, none4 with
    | [], none4 => exact none4 rfl
    | [b], none4 =>
      have c1 : ([b] == []) = false := rfl
      have c2 : decide (([b].length : Int) > 8) = false := rfl
      have c3 : decide (([b].length : Int) > 1) = false := rfl
      have c4 : (true && Nat.blt 0 [b].length) = true := rfl
      rw [c1, c2, c3, c4]
      simp only [cond_true, cond_false]
      exact rread_fin b [] (by simp) (readE_one b)
    | b0 :: b1 :: r, none4 =>
      have c1 : ((b0 :: b1 :: r) == []) = false := rfl
      rw [c1, cond_false]
      cases hl : decide (((b0 :: b1 :: r).length : Int) > 8) with
      | true =>
        rw [cond_true]
        have := of_decide_eq_true hl
        refine none4 ?_
        unfold readE
        rw [if_pos (.inr (by omega))]
      | false =>
        rw [cond_false]
        have hl := of_decide_eq_false hl
        simp only [List.length_cons] at hl
        have h2 := readE_two b0 b1 r (by omega)
        have d1 : decide (((b0 :: b1 :: r).length : Int) > 1) = true := decide_eq_true (by simp; omega)
        have d2 : (true && Nat.blt 0 (b0 :: b1 :: r).length) = true := by simp [blt_dec]
        have d3 : (true && Nat.blt 1 (b0 :: b1 :: r).length) = true := by simp [blt_dec]
        rw [d1, d2, d3]
        simp only [cond_true, List.getD_cons_zero, List.getD_cons_succ]
        exact red_leaf (fun h => none4 (h2.1 h)) (fun h => rread_fin b0 (b1 :: r) (by simp; omega) (h2.2 h))
  · cases h
/-! ### truths -/
def boolS (b : Bool) : List UInt8 := bif b then [255] else [0]
def boolF : List V → Option V
  | [.bool b] => some (.str (boolS b))
  | _ => none
theorem bool_ok (args : List V) (v : V) (h : boolF args = some v) : FnSat Try.prog 18 args [] (Is (v, [])) := by
  unfold boolF at h
  split at h
  · rename_i b
    cases h
    refine pureW_of (lim := 9) (n := 10) mixed T13_ok rfl rfl ?_
    rw [bool_tree]
    cases b <;> rfl
  · cases h
theorem rbool_ok (args : List V) (v : V) (h : boolF args = some v) : FnSat Try.prog 19 args [] (Is (v, [])) := by
  unfold boolF at h
  split at h
  · rename_i b
    cases h
    refine pureW_of (lim := 9) (n := 10) mixed T13_ok rfl rfl ?_
    rw [rbool_tree]
    cases b <;> rfl
  · cases h
def rbE (s : List UInt8) : Int := if s = [255] ∨ s = [0] then 0 else 4
def rdboolF : List V → Option V
  | [.str s] => some (.tuple [.bool (s == [255]), .int .i64 (rbE s)])
  | _ => none
theorem rdbool_ok (args : List V) (v : V) (h : rdboolF args = some v) : FnSat Try.prog 14 args [] (Is (v, [])) := by
  unfold rdboolF at h
  split at h
  · rename_i s
    cases h
    refine pureW_of (lim := 9) (n := 10) mixed T13_ok rfl rfl ?_
    rw [rdbool_tree]
    by_cases h1 : s = [255]
    · subst h1; rfl
    · have e1 : (s == [255]) = false := by simpa using h1
      by_cases h2 : s = [0]
      · subst h2; rfl
      · have e2 : (s == [0]) = false := by simpa using h2
        have e3 : rbE s = 4 := by unfold rbE; rw [if_neg (by simp [h1, h2])]
        rw [e1, e2, e3]; rfl
  · cases h
theorem rrdbool_ok (args : List V) (v : V) (h : rdboolF args = some v) : FnSat Try.prog 15 args [] (Is (v, [])) := by
  unfold rdboolF at h
  split at h
  · rename_i s
    cases h
    refine pureW_of (lim := 9) (n := 10) mixed T13_ok rfl rfl ?_
    rw [rrdbool_tree]
    match s with
    | [] => rfl
    | [b] =>
      have hb := b.toNat_lt
      have c1 : (([b].length : Int) == 1) = true := rfl
      have c2 : (true && Nat.blt 0 [b].length) = true := rfl
      rw [c1, c2]
      simp only [cond_true, List.getD_cons_zero]
      by_cases h1 : b = 255
      · subst h1; rfl
      · by_cases h2 : b = 0
        · subst h2; rfl
        · have n1 : ¬ b.toNat = 255 := fun e => h1 (UInt8.toNat_inj.1 e)
          have n2 : ¬ b.toNat = 0 := fun e => h2 (UInt8.toNat_inj.1 e)
          have e1 : ((b.toNat : Int) == 255) = false := by simp; omega
          have e2 : ((b.toNat : Int) == 0) = false := by simp; omega
          have e3 : rbE [b] = 4 := by unfold rbE; rw [if_neg (by simp [h1, h2])]
          have e4 : ([b] == [255]) = false := by simp [h1]
          rw [e1, e2, e3, e4]; rfl
    | b0 :: b1 :: r =>
      have c1 : (((b0 :: b1 :: r).length : Int) == 1) = false := by simp; omega
      have e3 : rbE (b0 :: b1 :: r) = 4 := by unfold rbE; rw [if_neg (by simp)]
      have e4 : ((b0 :: b1 :: r) == [255]) = false := by simp
      rw [c1, e3, e4, cond_false]
  · cases h
noncomputable def T16 : Tab := ⟨addP (addP (addP (addP (addP (addP (addT (addP (addP noT 16 intF) 12 readF) 17 rintF) 13 readF) 18 boolF) 19 boolF) 14 rdboolF) 15 rdboolF) 11 awF, noL, noLks 9⟩
theorem T16_ok : TabOk3 Try.prog T16 := ⟨addP_ok (addP_ok (addP_ok (addP_ok (addP_ok (addP_ok (addT_ok (addP_ok (addP_ok noT_ok int_ok) read_ok) rint_ok) rread_ok) bool_ok) rbool_ok) rdbool_ok) rrdbool_ok) awF_ok, noL_ok, noLks_ok 9⟩
theorem nums_tree (n : Int) (s : List UInt8) (R : V → Prop) : runW Try.prog T16 9 10 3 [.int .i64 n, .str s] R =
   (
    bif decide ((↑s.length : Int) > 5000) then R (V.bool true)
    else
      bif okI n then
        bif intL n == intL n then
          bif readN s == readN s then
            bif readE s == readE s then
              bif (s == [255]) == (s == [255]) then
                bif rbE s == rbE s then
                  bif boolS (n.tmod 2 == 0) == boolS (n.tmod 2 == 0) then R (V.bool true) else R (V.bool false)
                else R (V.bool false)
              else R (V.bool false)
            else R (V.bool false)
          else R (V.bool false)
        else R (V.bool false)
      else False) := by kernel_rfl
theorem nums_run (n : Int) (s : List UInt8) (hn : -9223372036854775808 ≤ n ∧ n ≤ 9223372036854775807) : FnSat Try.prog 3 [.int .i64 n, .str s] [] (Is (.bool true, [])) := by
  refine pureW_of (lim := 9) (n := 10) mixed T16_ok rfl rfl ?_
  rw [nums_tree]
  have ho : okI n = true := by simp only [okI, Bool.and_eq_true, decide_eq_true_eq]; exact hn
  rw [ho]
  refine bif_intro (fun _ => rfl) (fun _ => ?_)
  simp only [beq_self_eq_true, cond_true]

end Go.Proofs.Ytpjopdemhkcifaa
