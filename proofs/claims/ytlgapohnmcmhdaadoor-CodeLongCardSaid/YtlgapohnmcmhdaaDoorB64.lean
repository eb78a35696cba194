/- Base64 and hexadecimal as plain laws: the texts of bytes, the bytes of texts, there and back. -/
import Derived.ProofKit
namespace Go.B64
set_option linter.unusedVariables false
/-! ### letters -/
def L64 : List UInt8 := [65, 66, 67, 68, 69, 70, 71, 72, 73, 74, 75, 76, 77, 78, 79, 80, 81, 82, 83, 84, 85, 86, 87, 88, 89, 90, 97, 98, 99, 100, 101, 102, 103, 104, 105, 106, 107, 108, 109, 110, 111, 112, 113, 114, 115, 116, 117, 118, 119, 120, 121, 122, 48, 49, 50, 51, 52, 53, 54, 55, 56, 57, 43, 47]
def L16 : List UInt8 := [48, 49, 50, 51, 52, 53, 54, 55, 56, 57, 97, 98, 99, 100, 101, 102]
def let64 (n : Nat) : UInt8 := L64.getD n 0
def let16 (n : Nat) : UInt8 := L16.getD n 0
def posF : List UInt8 → UInt8 → Nat → Option Nat
  | [], _, _ => none
  | d :: r, c, k => bif d == c then some k else posF r c (k + 1)
def pos64 (c : UInt8) : Option Nat := posF L64 c 0
def pos16 (c : UInt8) : Option Nat := posF L16 c 0
theorem pos64_let {n : Nat} (h : n < 64) : pos64 (let64 n) = some n := by
  have : ∀ n : Fin 64, pos64 (let64 n.val) = some n.val := by decide +kernel
  exact this ⟨n, h⟩
theorem pos16_let {n : Nat} (h : n < 16) : pos16 (let16 n) = some n := by
  have : ∀ n : Fin 16, pos16 (let16 n.val) = some n.val := by decide +kernel
  exact this ⟨n, h⟩
theorem let64_ne {n : Nat} (h : n < 64) : (let64 n == 61) = false := by
  have : ∀ n : Fin 64, (let64 n.val == 61) = false := by decide +kernel
  exact this ⟨n, h⟩
theorem posF_spec {l : List UInt8} {c : UInt8} : ∀ {k n : Nat}, posF l c k = some n → k ≤ n ∧ n < k + l.length ∧ l.getD (n - k) 0 = c := by
  induction l with
  | nil => intro k n h; cases h
  | cons d r ih =>
    intro k n h
    unfold posF at h
    cases hd : d == c with
    | true =>
      rw [hd, cond_true] at h
      cases h
      refine ⟨Nat.le_refl _, by simp, ?_⟩
      rw [Nat.sub_self]
      exact eq_of_beq hd
    | false =>
      rw [hd, cond_false] at h
      obtain ⟨h1, h2, h3⟩ := ih h
      refine ⟨by omega, by simp; omega, ?_⟩
      have : n - k = (n - (k + 1)) + 1 := by omega
      rw [this]; exact h3
theorem pos16_lt {c : UInt8} {n : Nat} (h : pos16 c = some n) : n < 16 ∧ let16 n = c := by
  obtain ⟨_, h2, h3⟩ := posF_spec h
  rw [Nat.sub_zero] at h3
  exact ⟨by simpa [L16] using h2, h3⟩
theorem pos64_lt {c : UInt8} {n : Nat} (h : pos64 c = some n) : n < 64 ∧ let64 n = c := by
  obtain ⟨_, h2, h3⟩ := posF_spec h
  rw [Nat.sub_zero] at h3
  exact ⟨by simpa [L64] using h2, h3⟩
/-! ### hexadecimal -/
def hex : List UInt8 → List UInt8
  | [] => []
  | c :: r => let16 (c.toNat / 16) :: let16 (c.toNat % 16) :: hex r
theorem hex_len : ∀ s, (hex s).length = 2 * s.length
  | [] => rfl
  | c :: r => by rw [hex, List.length_cons, List.length_cons, hex_len r, List.length_cons]; omega
theorem hex_append : ∀ s t, hex (s ++ t) = hex s ++ hex t
  | [], t => rfl
  | c :: r, t => by rw [List.cons_append, hex, hex, hex_append r t]; rfl
/-- Two letters and two letters: all of sixteen, else none. -/
def unhexF : List UInt8 → Option (List UInt8)
  | [] => some []
  | [_] => none
  | a :: b :: r => match pos16 a, pos16 b with
    | some x, some y => (unhexF r).map (UInt8.ofNat (x * 16 + y) :: ·)
    | _, _ => none
theorem unhex_hex : ∀ s, unhexF (hex s) = some s
  | [] => rfl
  | c :: r => by
    have hc := c.toNat_lt
    rw [hex, unhexF, pos16_let (by omega), pos16_let (by omega)]
    simp only [unhex_hex r, Option.map_some]
    have : c.toNat / 16 * 16 + c.toNat % 16 = c.toNat := by omega
    rw [this, UInt8.ofNat_toNat]
theorem hex_unhex : ∀ (t s : List UInt8), unhexF t = some s → hex s = t
  | [], s, h => by cases h; rfl
  | [_], s, h => by cases h
  | a :: b :: r, s, h => by
    rw [unhexF] at h
    cases ha : pos16 a with
    | none => simp [ha] at h
    | some x =>
      cases hb : pos16 b with
      | none => simp [ha, hb] at h
      | some y =>
        simp only [ha, hb] at h
        cases hr : unhexF r with
        | none => simp [hr] at h
        | some q =>
          simp only [hr, Option.map_some, Option.some.injEq] at h
          subst h
          obtain ⟨h1, h2⟩ := pos16_lt ha
          obtain ⟨h3, h4⟩ := pos16_lt hb
          have e : (UInt8.ofNat (x * 16 + y)).toNat = x * 16 + y := by rw [UInt8.toNat_ofNat']; omega
          rw [hex, e, hex_unhex r q hr]
          have e1 : (x * 16 + y) / 16 = x := by omega
          have e2 : (x * 16 + y) % 16 = y := by omega
          rw [e1, e2, h2, h4]
/-! ### base64 -/
def b64 : List UInt8 → List UInt8
  | a :: b :: c :: r => let64 (a.toNat / 4) :: let64 (a.toNat % 4 * 16 + b.toNat / 16) :: let64 (b.toNat % 16 * 4 + c.toNat / 64) :: let64 (c.toNat % 64) :: b64 r
  | [a, b] => [let64 (a.toNat / 4), let64 (a.toNat % 4 * 16 + b.toNat / 16), let64 (b.toNat % 16 * 4), 61]
  | [a] => [let64 (a.toNat / 4), let64 (a.toNat % 4 * 16), 61, 61]
  | [] => []
theorem b64_len : ∀ s : List UInt8, (b64 s).length = (s.length + 2) / 3 * 4
  | a :: b :: c :: r => by simp only [b64, List.length_cons, b64_len r]; omega
  | [a, b] => by simp [b64]
  | [a] => by simp [b64]
  | [] => by simp [b64]
theorem b64_append : ∀ (s t : List UInt8), s.length % 3 = 0 → b64 (s ++ t) = b64 s ++ b64 t
  | a :: b :: c :: r, t, h => by
    simp only [List.length_cons] at h
    simp only [List.cons_append, b64, b64_append r t (by omega)]
  | [a, b], t, h => by simp at h
  | [a], t, h => by simp at h
  | [], t, h => rfl
/-- What it is without the fill. -/
def body : List UInt8 → List Nat
  | a :: b :: c :: r => (a.toNat / 4) :: (a.toNat % 4 * 16 + b.toNat / 16) :: (b.toNat % 16 * 4 + c.toNat / 64) :: (c.toNat % 64) :: body r
  | [a, b] => [a.toNat / 4, a.toNat % 4 * 16 + b.toNat / 16, b.toNat % 16 * 4]
  | [a] => [a.toNat / 4, a.toNat % 4 * 16]
  | [] => []
def fillN (n : Nat) : Nat := (3 - n % 3) % 3
theorem b64_body : ∀ s : List UInt8, b64 s = (body s).map let64 ++ List.replicate (fillN s.length) 61
  | a :: b :: c :: r => by
    have : fillN (a :: b :: c :: r).length = fillN r.length := by unfold fillN; simp only [List.length_cons]; omega
    rw [this]
    simp only [b64, body, b64_body r, List.map_cons, List.cons_append]
  | [a, b] => rfl
  | [a] => rfl
  | [] => rfl
theorem body_lt : ∀ s : List UInt8, ∀ n ∈ body s, n < 64
  | a :: b :: c :: r, n, h => by
    have ha := a.toNat_lt; have hb := b.toNat_lt; have hc := c.toNat_lt
    simp only [body, List.mem_cons] at h
    rcases h with rfl | rfl | rfl | rfl | h
    · omega
    · omega
    · omega
    · omega
    · exact body_lt r n h
  | [a, b], n, h => by
    have ha := a.toNat_lt; have hb := b.toNat_lt
    simp only [body, List.mem_cons, List.not_mem_nil, or_false] at h
    rcases h with rfl | rfl | rfl <;> omega
  | [a], n, h => by
    have ha := a.toNat_lt
    simp only [body, List.mem_cons, List.not_mem_nil, or_false] at h
    rcases h with rfl | rfl <;> omega
  | [], n, h => by cases h
theorem body_len : ∀ s : List UInt8, (body s).length = (s.length * 4 + 2) / 3
  | a :: b :: c :: r => by simp only [body, List.length_cons, body_len r]; omega
  | [a, b] => by simp [body]
  | [a] => by simp [body]
  | [] => by simp [body]
/-- What bits that are handed over so many at once come to: 'have' and what is held. -/
def dec : Nat → Nat → List Nat → List UInt8
  | _, _, [] => []
  | 0, h, n :: r => dec 6 n r
  | 6, h, n :: r => UInt8.ofNat ((h * 64 + n) / 16) :: dec 4 ((h * 64 + n) % 16) r
  | 4, h, n :: r => UInt8.ofNat ((h * 64 + n) / 4) :: dec 2 ((h * 64 + n) % 4) r
  | _, h, n :: r => UInt8.ofNat (h * 64 + n) :: dec 0 0 r
theorem of_eq {x : Nat} {a : UInt8} (h : x = a.toNat) : UInt8.ofNat x = a := by rw [h, UInt8.ofNat_toNat]
theorem dec_body : ∀ s : List UInt8, dec 0 0 (body s) = s
  | a :: b :: c :: r => by
    have ha := a.toNat_lt; have hb := b.toNat_lt; have hc := c.toNat_lt
    simp only [body, dec, dec_body r]
    rw [of_eq (a := a) (by omega), of_eq (a := b) (by omega), of_eq (a := c) (by omega)]
  | [a, b] => by
    have ha := a.toNat_lt; have hb := b.toNat_lt
    simp only [body, dec]
    rw [of_eq (a := a) (by omega), of_eq (a := b) (by omega)]
  | [a] => by
    have ha := a.toNat_lt
    simp only [body, dec]
    rw [of_eq (a := a) (by omega)]
  | [] => rfl
/-- The places of letters, if all are ones. -/
def places : List UInt8 → Option (List Nat)
  | [] => some []
  | c :: r => match pos64 c with
    | some n => (places r).map (n :: ·)
    | none => none
theorem places_map : ∀ l : List Nat, (∀ n ∈ l, n < 64) → places (l.map let64) = some l
  | [], _ => rfl
  | n :: r, h => by
    rw [List.map_cons, places, pos64_let (h n (by simp)), places_map r fun m hm => h m (by simp [hm])]
    rfl
/-- The letters that are ones. -/
def placesR : List UInt8 → List Nat
  | [] => []
  | c :: r => match pos64 c with
    | some n => n :: placesR r
    | none => placesR r
theorem placesR_append : ∀ l t : List UInt8, placesR (l ++ t) = placesR l ++ placesR t
  | [], t => rfl
  | c :: r, t => by
    rw [List.cons_append, placesR, placesR, placesR_append r t]
    cases pos64 c <;> rfl
theorem placesR_fill : ∀ n : Nat, placesR (List.replicate n 61) = []
  | 0 => rfl
  | n + 1 => by
    rw [List.replicate_succ, placesR, placesR_fill n]
    have : pos64 61 = none := by decide +kernel
    rw [this]
theorem placesR_map : ∀ l : List Nat, (∀ n ∈ l, n < 64) → placesR (l.map let64) = l
  | [], _ => rfl
  | n :: r, h => by
    rw [List.map_cons, placesR, pos64_let (h n (by simp)), placesR_map r fun m hm => h m (by simp [hm])]
theorem placesR_b64 (s : List UInt8) : placesR (b64 s) = body s := by
  rw [b64_body, placesR_append, placesR_fill, List.append_nil, placesR_map _ (body_lt s)]
/-- Without the fill at its end. -/
def trimF (s : List UInt8) : List UInt8 := (s.reverse.dropWhile (· == 61)).reverse
theorem dropW_rep (n : Nat) (l : List UInt8) : (List.replicate n 61 ++ l).dropWhile (· == 61) = l.dropWhile (· == 61) := by
  induction n with
  | zero => rfl
  | succ n ih => rw [List.replicate_succ, List.cons_append, List.dropWhile_cons_of_pos (by rfl), ih]
theorem dropW_let : ∀ l : List Nat, (∀ n ∈ l, n < 64) → (l.map let64).dropWhile (· == 61) = l.map let64
  | [], _ => rfl
  | n :: r, h => by
    rw [List.map_cons, List.dropWhile_cons_of_neg]
    rw [let64_ne (h n (by simp))]; decide
theorem trim_b64 (s : List UInt8) : trimF (b64 s) = (body s).map let64 := by
  unfold trimF
  rw [b64_body, List.reverse_append, List.reverse_replicate, dropW_rep, ← List.map_reverse, dropW_let _ (fun n hn => body_lt s n (List.mem_reverse.1 hn)), List.map_reverse, List.reverse_reverse]
/-- The bytes of a text: those whose text it is. -/
def unb (t : List UInt8) : Option (List UInt8) := match places (trimF t) with
  | some l => bif b64 (dec 0 0 l) == t then some (dec 0 0 l) else none
  | none => none
def unbR (t : List UInt8) : Option (List UInt8) := bif b64 (dec 0 0 (placesR t)) == t then some (dec 0 0 (placesR t)) else none
theorem unb_b64 (s : List UInt8) : unb (b64 s) = some s := by
  unfold unb
  rw [trim_b64, places_map _ (body_lt s)]
  simp only [dec_body, beq_self_eq_true, cond_true]
theorem b64_unb {t s : List UInt8} (h : unb t = some s) : b64 s = t := by
  unfold unb at h
  cases hp : places (trimF t) with
  | none => simp [hp] at h
  | some l =>
    simp only [hp] at h
    cases hb : b64 (dec 0 0 l) == t with
    | false => rw [hb] at h; cases h
    | true => rw [hb] at h; cases h; exact eq_of_beq hb
theorem unbR_b64 (s : List UInt8) : unbR (b64 s) = some s := by
  unfold unbR
  rw [placesR_b64, dec_body, beq_self_eq_true, cond_true]
theorem b64_unbR {t s : List UInt8} (h : unbR t = some s) : b64 s = t := by
  unfold unbR at h
  cases hb : b64 (dec 0 0 (placesR t)) == t with
  | false => rw [hb] at h; cases h
  | true => rw [hb] at h; cases h; exact eq_of_beq hb
theorem unb_eq (t : List UInt8) : unb t = unbR t := by
  cases h : unb t with
  | some s => rw [← b64_unb h, unbR_b64]
  | none =>
    cases h2 : unbR t with
    | none => rfl
    | some s => rw [← b64_unbR h2, unb_b64] at h; cases h
/-! ### bit by bit -/
def bits2 (x : Nat) : List Nat := [x / 2 % 2, x % 2]
def bits4 (x : Nat) : List Nat := [x / 8 % 2, x / 4 % 2, x / 2 % 2, x % 2]
def bits6 (x : Nat) : List Nat := [x / 32 % 2, x / 16 % 2, x / 8 % 2, x / 4 % 2, x / 2 % 2, x % 2]
def bits8 (x : Nat) : List Nat := [x / 128 % 2, x / 64 % 2, x / 32 % 2, x / 16 % 2, x / 8 % 2, x / 4 % 2, x / 2 % 2, x % 2]
def val6 (a b c d e f : Nat) : Nat := 2 * (2 * (2 * (2 * (2 * a + b) + c) + d) + e) + f
def val8 (a b c d e f g h : Nat) : Nat := 2 * (2 * (2 * (2 * (2 * (2 * (2 * a + b) + c) + d) + e) + f) + g) + h
def eights : List Nat → List UInt8
  | a :: b :: c :: d :: e :: f :: g :: h :: r => UInt8.ofNat (val8 a b c d e f g h) :: eights r
  | _ => []
def sixes : List Nat → List Nat
  | a :: b :: c :: d :: e :: f :: r => val6 a b c d e f :: sixes r
  | _ => []
def held : Nat → Nat → List Nat
  | 0, _ => []
  | 6, x => bits6 x
  | 4, x => bits4 x
  | _, x => bits2 x
theorem eights_dec : ∀ (l : List Nat) (k h : Nat), (k = 0 ∨ k = 6 ∨ k = 4 ∨ k = 2) → h < 2 ^ k → (∀ n ∈ l, n < 64) → eights (held k h ++ l.flatMap bits6) = dec k h l
  | [], k, h, hk, hh, hl => by
    rcases hk with rfl | rfl | rfl | rfl <;> rfl
  | n :: r, k, h, hk, hh, hl => by
    have hn := hl n (by simp)
    have hr := fun m hm => hl m (List.mem_cons_of_mem n hm)
    rcases hk with rfl | rfl | rfl | rfl
    · rw [dec, List.flatMap_cons]
      exact eights_dec r 6 n (by omega) (by omega) hr
    · have ih := eights_dec r 4 ((h * 64 + n) % 16) (by omega) (by omega) hr
      rw [dec, ← ih, List.flatMap_cons]
      simp only [held, bits6, bits4, List.cons_append, List.nil_append, eights, List.cons.injEq]
      refine ⟨congrArg UInt8.ofNat ?_, congrArg eights ?_⟩
      · unfold val8; omega
      · simp only [List.cons.injEq, and_true]; omega
    · have ih := eights_dec r 2 ((h * 64 + n) % 4) (by omega) (by omega) hr
      rw [dec, ← ih, List.flatMap_cons]
      simp only [held, bits6, bits4, bits2, List.cons_append, List.nil_append, eights, List.cons.injEq]
      refine ⟨congrArg UInt8.ofNat ?_, congrArg eights ?_⟩
      · unfold val8; omega
      · simp only [List.cons.injEq, and_true]; omega
    · have ih := eights_dec r 0 0 (by omega) (by omega) hr
      rw [dec, ← ih, List.flatMap_cons]
      · simp only [held, bits6, bits2, List.cons_append, List.nil_append, eights, List.cons.injEq, and_true]
        refine congrArg UInt8.ofNat ?_
        unfold val8; omega
      · omega
      · omega
      · omega
def bitsOf (s : List UInt8) : List Nat := s.flatMap fun b => bits8 b.toNat
def pad6 (n : Nat) : Nat := (6 - n % 6) % 6
theorem bits8_len : ∀ s : List UInt8, (bitsOf s).length = 8 * s.length
  | [] => rfl
  | c :: r => by
    unfold bitsOf
    rw [List.flatMap_cons, List.length_append]
    have := bits8_len r
    unfold bitsOf at this
    rw [this]; simp only [bits8, List.length_cons, List.length_nil]; omega
theorem sixes_body : ∀ s : List UInt8, sixes (bitsOf s ++ List.replicate (pad6 (bitsOf s).length) 0) = body s
  | a :: b :: c :: r => by
    have ha := a.toNat_lt; have hb := b.toNat_lt; have hc := c.toNat_lt
    have hp : pad6 (bitsOf (a :: b :: c :: r)).length = pad6 (bitsOf r).length := by
      rw [bits8_len, bits8_len]; unfold pad6; simp only [List.length_cons]; omega
    have ih := sixes_body r
    rw [hp, body, ← ih]
    unfold bitsOf
    simp only [List.flatMap_cons, bits8, List.cons_append, List.nil_append, sixes, List.cons.injEq, and_true]
    unfold val6
    omega
  | [a, b] => by
    have ha := a.toNat_lt; have hb := b.toNat_lt
    have hp : pad6 (bitsOf [a, b]).length = 2 := by rw [bits8_len]; simp [pad6]
    rw [hp, body]
    unfold bitsOf
    simp only [List.flatMap_cons, List.flatMap_nil, bits8, List.cons_append, List.nil_append, List.replicate, sixes, List.cons.injEq, and_true]
    unfold val6
    omega
  | [a] => by
    have ha := a.toNat_lt
    have hp : pad6 (bitsOf [a]).length = 4 := by rw [bits8_len]; simp [pad6]
    rw [hp, body]
    unfold bitsOf
    simp only [List.flatMap_cons, List.flatMap_nil, bits8, List.cons_append, List.nil_append, List.replicate, sixes, List.cons.injEq, and_true]
    unfold val6
    omega
  | [] => rfl
theorem fill_body (s : List UInt8) : fillN s.length = (4 - (body s).length % 4) % 4 := by
  rw [body_len]; unfold fillN
  have h3 := Nat.div_add_mod s.length 3
  have hm := Nat.mod_lt s.length (show 0 < 3 by omega)
  generalize s.length / 3 = k at *
  generalize s.length % 3 = r at *
  have e : (s.length * 4 + 2) / 3 % 4 = (r * 4 + 2) / 3 % 4 := by
    have : (s.length * 4 + 2) / 3 = 4 * k + (r * 4 + 2) / 3 := by omega
    rw [this]; omega
  rw [e]
  have : r = 0 ∨ r = 1 ∨ r = 2 := by omega
  rcases this with rfl | rfl | rfl <;> rfl
theorem bit_le : ∀ (l : List Nat), (∀ n ∈ l.flatMap bits6, n ≤ 1)
  | l, n, h => by
    rw [List.mem_flatMap] at h
    obtain ⟨x, _, h⟩ := h
    simp only [bits6, List.mem_cons, List.not_mem_nil, or_false] at h
    omega
theorem bit8_le (s : List UInt8) : ∀ n ∈ bitsOf s, n ≤ 1 := by
  intro n h
  unfold bitsOf at h
  rw [List.mem_flatMap] at h
  obtain ⟨x, _, h⟩ := h
  simp only [bits8, List.mem_cons, List.not_mem_nil, or_false] at h
  omega
end Go.B64
