/- The virtual machine of this work, continued: the evaluator over values that are not known, tables of functions, loops by a law of their own. -/
import Derived.Test.YtleflholgkcmkaaVmb
/- The virtual machine, part 13: the same evaluation over values that are not known: what it asks for, as one statement, with the unknown truths in it as branches. -/
namespace Go.Vm
set_option linter.unusedVariables false
open Go.RowKit

/-- There is such a value, and what is asked of it holds. -/
def Sure {α : Type} (x : Option α) (k : α → Prop) : Prop := ∃ a, x = some a ∧ k a
/-- A truth that must be. -/
def must (b : Bool) (A : Prop) : Prop := bif b then A else False
theorem must_spec {b : Bool} {A : Prop} (h : must b A) : b = true ∧ A := by
  cases b with
  | true => exact ⟨rfl, h⟩
  | false => exact h.elim
theorem must_intro {b : Bool} {A : Prop} (hb : b = true) (h : A) : must b A := by subst hb; exact h
theorem bif_intro {b : Bool} {A B : Prop} (h1 : b = true → A) (h2 : b = false → B) : (bif b then A else B) := by
  cases b with
  | true => exact h1 rfl
  | false => exact h2 rfl
theorem bif_elim {b : Bool} {A B : Prop} (h : bif b then A else B) : (b = true ∧ A) ∨ (b = false ∧ B) := by
  cases b with
  | true => exact .inl ⟨rfl, h⟩
  | false => exact .inr ⟨rfl, h⟩
theorem Sure.mono {α : Type} {x : Option α} {k k' : α → Prop} (h : Sure x k) (hk : ∀ a, k a → k' a) : Sure x k' := let ⟨a, h1, h2⟩ := h; ⟨a, h1, hk a h2⟩

def optK {α : Type} (x : Option α) (k : α → Prop) : Prop := match x with
  | some a => k a
  | none => False
theorem optK_ok {α : Type} {x : Option α} {k : α → Prop} (h : optK x k) : Sure x k := by
  cases x with
  | some a => exact ⟨a, rfl, h⟩
  | none => exact h.elim

/-! ### operations -/
def arithK (op : BinOp) (k : IntKind) (a b : Int) (K : V → Prop) : Prop :=
  match op with
  | .quo => must (!(b == 0)) (K (.int k (k.wrap (a.tdiv b))))
  | .rem => must (!(b == 0)) (K (.int k (a.tmod b)))
  | op => optK (arithV op k a b) K
theorem arithK_ok {op : BinOp} {k : IntKind} {a b : Int} {K : V → Prop} (h : arithK op k a b K) : Sure (arithV op k a b) K := by
  unfold arithK at h
  split at h
  · obtain ⟨h1, h2⟩ := must_spec h
    have hb : ¬ b = 0 := by simpa using h1
    exact ⟨_, by simp [arithV, hb], h2⟩
  · obtain ⟨h1, h2⟩ := must_spec h
    have hb : ¬ b = 0 := by simpa using h1
    exact ⟨_, by simp [arithV, hb], h2⟩
  · exact optK_ok h
def shiftK (op : BinOp) (k : IntKind) (a b : Int) (K : V → Prop) : Prop :=
  match op with
  | .shl => must (decide (0 ≤ b)) (K (.int k (k.wrap (a * 2 ^ (min b.toNat k.bits)))))
  | .shr => must (decide (0 ≤ b)) (K (.int k (a.fdiv (2 ^ (min b.toNat k.bits)))))
  | _ => False
theorem shiftK_ok {op : BinOp} {k : IntKind} {a b : Int} {K : V → Prop} (h : shiftK op k a b K) : Sure (shiftV op k a b) K := by
  unfold shiftK at h
  split at h
  · obtain ⟨h1, h2⟩ := must_spec h
    have hb : ¬ b < 0 := by have := of_decide_eq_true h1; omega
    exact ⟨_, by simp [shiftV, hb], h2⟩
  · obtain ⟨h1, h2⟩ := must_spec h
    have hb : ¬ b < 0 := by have := of_decide_eq_true h1; omega
    exact ⟨_, by simp [shiftV, hb], h2⟩
  · exact h.elim
def strK (op : BinOp) (a b : List UInt8) (K : V → Prop) : Prop :=
  match op with
  | .add => must (Nat.ble (a.length + b.length) 9223372036854775807) (K (.str (a ++ b)))
  | op => optK (strV op a b) K
theorem strK_ok {op : BinOp} {a b : List UInt8} {K : V → Prop} (h : strK op a b K) : Sure (strV op a b) K := by
  unfold strK at h
  split at h
  · obtain ⟨h1, h2⟩ := must_spec h
    have := Nat.le_of_ble_eq_true h1
    exact ⟨_, by simp only [strV]; rw [if_pos this], h2⟩
  · exact optK_ok h
def binK (P : Program) (op : BinOp) (t : TypeId) (u v : V) (K : V → Prop) : Prop :=
  match u, v with
  | .int k a, .int k' b => match op with
    | .shl => shiftK .shl k a b K
    | .shr => shiftK .shr k a b K
    | op => if k = k' then arithK op k a b K else False
  | .str a, .str b => strK op a b K
  | u, v => optK (binV P op t u v) K
theorem binK_ok {P : Program} {op : BinOp} {t : TypeId} {u v : V} {K : V → Prop} (h : binK P op t u v K) : Sure (binV P op t u v) K := by
  unfold binK at h
  split at h
  · rename_i k a k' b
    split at h
    · exact shiftK_ok h
    · exact shiftK_ok h
    · rename_i h1 h2
      split at h
      · rename_i hk
        obtain ⟨r, h3, h4⟩ := arithK_ok h
        refine ⟨r, ?_, h4⟩
        cases op <;> first | (exact absurd rfl h1) | (exact absurd rfl h2) | (simp only [binV]; rw [if_pos hk]; exact h3)
      · exact h.elim
  · exact strK_ok h
  · exact optK_ok h
def indexK (P : Program) (t : TypeId) (v i : V) (K : V → Prop) : Prop :=
  match P.underlying t, v, i with
  | some .string, .str l, .int _ k => must (decide (0 ≤ k) && Nat.blt k.toNat l.length) (K (.int .u8 (l.getD k.toNat 0).toNat))
  | some (.array n e), .agg cs, .int _ k => match sizeV P e, isAggV P e with
    | some 1, some false => must (decide (0 ≤ k) && decide (k < n) && Nat.blt k.toNat cs.length) (K (cs.getD k.toNat (.bool false)))
    | _, _ => optK (indexV P t v i) K
  | _, _, _ => optK (indexV P t v i) K
theorem indexK_ok {P : Program} {t : TypeId} {v i : V} {K : V → Prop} (h : indexK P t v i K) : Sure (indexV P t v i) K := by
  unfold indexK at h
  split at h
  · rename_i l kd k hu
    obtain ⟨h1, h2⟩ := must_spec h
    simp only [Bool.and_eq_true, decide_eq_true_eq] at h1
    have hlt := blt_true h1.2
    refine ⟨_, ?_, h2⟩
    simp only [indexV, hu]
    rw [if_pos h1.1, List.getElem?_eq_getElem hlt, List.getD_eq_getElem?_getD, List.getElem?_eq_getElem hlt]
    rfl
  · rename_i n e cs kd k hu
    split at h
    · rename_i hs ha
      obtain ⟨h1, h2⟩ := must_spec h
      simp only [Bool.and_eq_true, decide_eq_true_eq] at h1
      have hlt := blt_true h1.2
      refine ⟨_, ?_, h2⟩
      simp only [indexV, hu, hs]
      rw [if_pos h1.1, Nat.mul_one]
      simp only [partV, ha]
      rw [List.getElem?_eq_getElem hlt, List.getD_eq_getElem?_getD, List.getElem?_eq_getElem hlt]
      rfl
    · exact optK_ok h
  · exact optK_ok h
def indexAddrK (P : Program) (t : TypeId) (v i : V) (K : V → Prop) : Prop :=
  match P.underlying t, v, i with
  | some (.slice e), .slice b off len ex c z, .int _ k => match sizeV P e with
    | some s => must (decide (0 ≤ k) && decide (k < len)) (K (.ptr b (off + k.toNat * s)))
    | none => False
  | some (.array n e), .ptr b off, .int _ k => match sizeV P e with
    | some s => must (decide (0 ≤ k) && decide (k < n)) (K (.ptr b (off + k.toNat * s)))
    | none => False
  | _, _, _ => False
theorem indexAddrK_ok {P : Program} {t : TypeId} {v i : V} {K : V → Prop} (h : indexAddrK P t v i K) : Sure (indexAddrV P t v i) K := by
  unfold indexAddrK at h
  split at h
  · rename_i e b off len ex c z kd k hu
    split at h
    · rename_i s hs
      obtain ⟨h1, h2⟩ := must_spec h
      simp only [Bool.and_eq_true, decide_eq_true_eq] at h1
      exact ⟨_, by simp only [indexAddrV, hu, hs]; rw [if_pos h1], h2⟩
    · exact h.elim
  · rename_i n e b off kd k hu
    split at h
    · rename_i s hs
      obtain ⟨h1, h2⟩ := must_spec h
      simp only [Bool.and_eq_true, decide_eq_true_eq] at h1
      exact ⟨_, by simp only [indexAddrV, hu, hs]; rw [if_pos h1], h2⟩
    · exact h.elim
  · exact h.elim
def boundK (d : Nat) (o : Option V) (K : Nat → Prop) : Prop :=
  match o with
  | none => K d
  | some (.int _ k) => must (decide (0 ≤ k)) (K k.toNat)
  | _ => False
theorem boundK_ok {d : Nat} {o : Option V} {K : Nat → Prop} (h : boundK d o K) : Sure (boundV d o) K := by
  unfold boundK at h
  split at h
  · exact ⟨_, rfl, h⟩
  · obtain ⟨h1, h2⟩ := must_spec h
    exact ⟨_, by simp only [boundV]; rw [if_pos (of_decide_eq_true h1)], h2⟩
  · exact h.elim
def sliceK (P : Program) (t : TypeId) (v : V) (lo hi : Option V) (K : V → Prop) : Prop :=
  match P.underlying t, v with
  | some .string, .str s => boundK 0 lo fun l => boundK s.length hi fun h => must (Nat.ble l h && Nat.ble h s.length) (K (.str ((s.drop l).take (h - l))))
  | some (.slice e), .slice b off len ex c z => match sizeV P e with
    | some s => boundK 0 lo fun l => boundK len hi fun h => must (Nat.ble l h && Nat.ble h len) (K (.slice b (off + l * s) (h - l) ex (if ex then c - l else c + l) (if l = 0 then z else off)))
    | none => False
  | _, _ => optK (sliceV P t v lo hi) K
theorem sliceK_ok {P : Program} {t : TypeId} {v : V} {lo hi : Option V} {K : V → Prop} (h : sliceK P t v lo hi K) : Sure (sliceV P t v lo hi) K := by
  unfold sliceK at h
  split at h
  · rename_i s hu
    obtain ⟨l, h1, h2⟩ := boundK_ok h
    obtain ⟨g, h3, h4⟩ := boundK_ok h2
    obtain ⟨h5, h6⟩ := must_spec h4
    simp only [Bool.and_eq_true] at h5
    exact ⟨_, by simp only [sliceV, hu, h1, h3]; rw [if_pos ⟨Nat.le_of_ble_eq_true h5.1, Nat.le_of_ble_eq_true h5.2⟩], h6⟩
  · rename_i e b off len ex c z hu
    split at h
    · rename_i s hs
      obtain ⟨l, h1, h2⟩ := boundK_ok h
      obtain ⟨g, h3, h4⟩ := boundK_ok h2
      obtain ⟨h5, h6⟩ := must_spec h4
      simp only [Bool.and_eq_true] at h5
      exact ⟨_, by simp only [sliceV, hu, h1, h3, hs]; rw [if_pos ⟨Nat.le_of_ble_eq_true h5.1, Nat.le_of_ble_eq_true h5.2⟩], h6⟩
    · exact h.elim
  · exact optK_ok h
/-- A part of a memory that is not wholly known. -/
def cellsK (st : St) (b off n : Nat) (K : List V → Prop) : Prop :=
  match st[b]? with
  | some k => must (Nat.ble (off + n) k.cs.length) (K ((k.cs.drop off).take n))
  | none => False
theorem cellsK_ok {st : St} {b off n : Nat} {K : List V → Prop} (h : cellsK st b off n K) : Sure (blkCells st b off n) K := by
  unfold cellsK at h
  split at h
  · rename_i k hk
    obtain ⟨h1, h2⟩ := must_spec h
    exact ⟨_, by simp only [blkCells, hk]; rw [if_pos (Nat.le_of_ble_eq_true h1)], h2⟩
  · exact h.elim
def loadK (P : Program) (st : St) (t : TypeId) (b off : Nat) (K : V → Prop) : Prop :=
  match isAggV P t with
  | some true => match sizeV P t with
    | some n => cellsK st b off n fun l => K (.agg l)
    | none => False
  | some false => match st[b]? with
    | some k => must (Nat.blt off k.cs.length) (K (k.cs.getD off (.bool false)))
    | none => False
  | none => False
theorem loadK_ok {P : Program} {st : St} {t : TypeId} {b off : Nat} {K : V → Prop} (h : loadK P st t b off K) : Sure (loadV P st t b off) K := by
  unfold loadK at h
  split at h
  · rename_i ha
    split at h
    · rename_i n hn
      obtain ⟨l, h1, h2⟩ := cellsK_ok h
      exact ⟨_, by simp only [loadV, ha, hn, h1], h2⟩
    · exact h.elim
  · rename_i ha
    split at h
    · rename_i k hk
      obtain ⟨h1, h2⟩ := must_spec h
      have hlt := blt_true h1
      refine ⟨_, ?_, h2⟩
      simp only [loadV, ha, hk]
      rw [List.getElem?_eq_getElem hlt, List.getD_eq_getElem?_getD, List.getElem?_eq_getElem hlt]
      rfl
    · exact h.elim
  · exact h.elim
def isByte : V → Bool
  | .int .u8 _ => true
  | _ => false
def byteOf : V → UInt8
  | .int .u8 n => UInt8.ofNat n.toNat
  | _ => 0
theorem bytesV_of : ∀ {l : List V}, l.all isByte = true → bytesV l = some (l.map byteOf)
  | [], _ => rfl
  | v :: r, h => by
    simp only [List.all_cons, Bool.and_eq_true] at h
    have := bytesV_of h.2
    cases v with
    | int k n => cases k <;> first | (simp [isByte] at h; done) | simp [bytesV, byteV, this, byteOf]
    | _ => simp [isByte] at h
def convK (P : Program) (st : St) (s d : TypeId) (v : V) (K : V → Prop) : Prop :=
  match P.underlying s, P.underlying d, v with
  | some (.slice e), some .string, .slice b off len ex c z => match P.underlying e with
    | some (.int .u8) => match st[b]? with
      | some k => must (Nat.ble (off + len) k.cs.length) (must (((k.cs.drop off).take len).all isByte) (K (.str (((k.cs.drop off).take len).map byteOf))))
      | none => False
    | _ => False
  | _, _, _ => optK (convV P st s d v) K
theorem convK_ok {P : Program} {st : St} {s d : TypeId} {v : V} {K : V → Prop} (h : convK P st s d v K) : Sure (convV P st s d v) K := by
  unfold convK at h
  split at h
  · rename_i e b off len ex c z hs hd
    split at h
    · rename_i he
      split at h
      · rename_i k hk
        obtain ⟨h1, h2⟩ := must_spec h
        obtain ⟨h3, h4⟩ := must_spec h2
        refine ⟨_, ?_, h4⟩
        simp only [convV, hs, hd, he]
        cases len with
        | zero => simp
        | succ len =>
          simp only [blkCells, hk]
          rw [if_pos (Nat.le_of_ble_eq_true h1)]
          simp only [bytesV_of h3]
      · exact h.elim
    · exact h.elim
  · exact optK_ok h

/-- An operation that only looks. -/
def pureK (P : Program) (st : St) (ρ : Operand → Option V) (op : Op) (K : V → Prop) : Prop :=
  match op with
  | .pick c a b => match ρ c with
    | some (.bool x) => bif x then optK (ρ a) K else optK (ρ b) K
    | _ => False
  | .load t x => match ρ x with
    | some (.ptr b off) => loadK P st t b off K
    | _ => False
  | .binOp op t x y p => match ρ x, ρ y with
    | some u, some v => binK P op t u v K
    | _, _ => False
  | .convert s d x => match ρ x with
    | some v => convK P st s d v K
    | none => False
  | .slice t x lo hi none => match ρ x, optV ρ lo, optV ρ hi with
    | some v, some l, some h => sliceK P t v l h K
    | _, _, _ => False
  | .indexAddr t x i => match ρ x, ρ i with
    | some u, some v => indexAddrK P t u v K
    | _, _ => False
  | .index t x i => match ρ x, ρ i with
    | some u, some v => indexK P t u v K
    | _, _ => False
  | op => optK (pureOp P st ρ op) K
theorem pureK_ok {P : Program} {st : St} {ρ : Operand → Option V} {op : Op} {K : V → Prop} (h : pureK P st ρ op K) : Sure (pureOp P st ρ op) K := by
  unfold pureK at h
  split at h
  · split at h
    · rename_i hc
      rcases bif_elim h with ⟨rfl, h⟩ | ⟨rfl, h⟩
      · obtain ⟨v, h1, h2⟩ := optK_ok h
        exact ⟨v, by simp only [pureOp, hc]; exact h1, h2⟩
      · obtain ⟨v, h1, h2⟩ := optK_ok h
        exact ⟨v, by simp only [pureOp, hc]; exact h1, h2⟩
    · exact h.elim
  · split at h
    · rename_i hc
      obtain ⟨v, h1, h2⟩ := loadK_ok h
      exact ⟨v, by simp only [pureOp, hc]; exact h1, h2⟩
    · exact h.elim
  · split at h
    · rename_i hx hy
      obtain ⟨v, h1, h2⟩ := binK_ok h
      exact ⟨v, by simp only [pureOp, hx, hy]; exact h1, h2⟩
    · exact h.elim
  · split at h
    · rename_i hx
      obtain ⟨v, h1, h2⟩ := convK_ok h
      exact ⟨v, by simp only [pureOp, hx]; exact h1, h2⟩
    · exact h.elim
  · split at h
    · rename_i hx hl hh
      obtain ⟨v, h1, h2⟩ := sliceK_ok h
      exact ⟨v, by simp only [pureOp, hx, hl, hh]; exact h1, h2⟩
    · exact h.elim
  · split at h
    · rename_i hx hy
      obtain ⟨v, h1, h2⟩ := indexAddrK_ok h
      exact ⟨v, by simp only [pureOp, hx, hy]; exact h1, h2⟩
    · exact h.elim
  · split at h
    · rename_i hx hy
      obtain ⟨v, h1, h2⟩ := indexK_ok h
      exact ⟨v, by simp only [pureOp, hx, hy]; exact h1, h2⟩
    · exact h.elim
  · exact optK_ok h
end Go.Vm

/- The virtual machine, part 14: effects, calls, regions and code over values that are not known. -/
namespace Go.Vm
set_option linter.unusedVariables false
open Go.RowKit

/-! ### effects -/
def storeK (P : Program) (st : St) (t : TypeId) (p v : V) (K : St → Prop) : Prop :=
  match p, sizeV P t with
  | .ptr b off, some s => match st[b]? with
    | some (.row cs te sz) => must (Nat.beq v.cells.length s && v.cells.all V.one && Nat.ble (off + v.cells.length) cs.length) (K (st.set b (.row (putAt off v.cells cs) te sz)))
    | _ => False
  | _, _ => False
theorem storeK_ok {P : Program} {st : St} {t : TypeId} {p v : V} {K : St → Prop} (h : storeK P st t p v K) : Sure (storeV P st t p v) K := by
  unfold storeK at h
  split at h
  · rename_i b off s hs
    split at h
    · rename_i cs te sz hb
      obtain ⟨h1, h2⟩ := must_spec h
      simp only [Bool.and_eq_true] at h1
      refine ⟨_, ?_, h2⟩
      simp only [storeV, hs, hb]
      rw [if_pos ⟨Nat.eq_of_beq_eq_true h1.1.1, h1.1.2, Nat.le_of_ble_eq_true h1.2⟩]
    · exact h.elim
  · exact h.elim
def makeK (P : Program) (st : St) (t : TypeId) (l c : V) (K : V → St → Prop) : Prop :=
  match P.underlying t, l, c with
  | some (.slice e), .int _ l, .int _ c => match P.info? e, zeroV P e with
    | some i, some z => must (decide (0 ≤ l) && decide (l ≤ c) && decide (c ≤ 9223372036854775807) && decide (i.bytes * c ≤ 281474976710656) && Nat.beq z.cells.length i.size)
        (K (.slice st.length 0 l.toNat false 0 0) (st ++ [.row (repV z.cells l.toNat) e i.size]))
    | _, _ => False
  | _, _, _ => False
theorem makeK_ok {P : Program} {st : St} {t : TypeId} {l c : V} {K : V → St → Prop} (h : makeK P st t l c K) : Sure (makeV P st t l c) (fun r => K r.1 r.2) := by
  unfold makeK at h
  split at h
  · rename_i e kl l kc c hu
    split at h
    · rename_i i z hi hz
      obtain ⟨h1, h2⟩ := must_spec h
      simp only [Bool.and_eq_true, decide_eq_true_eq] at h1
      refine ⟨(_, _), ?_, h2⟩
      simp only [makeV, hu, hi, hz]
      rw [if_pos ⟨h1.1.1.1.1, h1.1.1.1.2, h1.1.1.2, h1.1.2, Nat.eq_of_beq_eq_true h1.2⟩]
    · exact h.elim
  · exact h.elim
/-- Something that makes. -/
def effK (P : Program) (st : St) (ρ : Operand → Option V) (op : Op) (K : V → St → Prop) : Prop :=
  match op with
  | .store t x y => match ρ x, ρ y with
    | some p, some v => storeK P st t p v (K (.tuple []))
    | _, _ => False
  | .makeSlice t l c => match ρ l, ρ c with
    | some u, some v => makeK P st t u v K
    | _, _ => False
  | op => optK (effOp P st ρ op) (fun r => K r.1 r.2)
theorem effK_ok {P : Program} {st : St} {ρ : Operand → Option V} {op : Op} {K : V → St → Prop} (h : effK P st ρ op K) : Sure (effOp P st ρ op) (fun r => K r.1 r.2) := by
  unfold effK at h
  split at h
  · split at h
    · rename_i hx hy
      obtain ⟨s, h1, h2⟩ := storeK_ok h
      exact ⟨(.tuple [], s), by simp only [effOp, hx, hy, h1], h2⟩
    · exact h.elim
  · split at h
    · rename_i hx hy
      obtain ⟨r, h1, h2⟩ := makeK_ok h
      exact ⟨r, by simp only [effOp, hx, hy]; exact h1, h2⟩
    · exact h.elim
  · exact optK_ok h

/-- Of what kind an operation is. -/
inductive Kind where
  | look | make | call
def kindOf (P : Program) : Op → Kind
  | .call { callee := .value _, .. } => .call
  | .call { callee := .builtin .append, .. } => .make
  | .alloc _ => .make
  | .box _ _ => .make
  | .store _ _ _ => .make
  | .makeSlice _ _ _ => .make
  | .buildSlice _ _ _ => .make
  | .convert s d _ => match P.underlying s, P.underlying d with
    | some .string, some (.slice _) => .make
    | _, _ => .look
  | _ => .look
theorem make_notPure {P : Program} {st : St} {ρ : Operand → Option V} {op : Op} (h : kindOf P op = .make) : pureOp P st ρ op = none := by
  unfold kindOf at h
  split at h
  all_goals try (cases h; done)
  all_goals try rfl
  rename_i s d x
  split at h
  · rename_i hs hd
    simp only [pureOp]
    split
    · simp only [convV, hs, hd]
    · rfl
  · cases h

abbrev CallK := Tgt → List V → St → (V → St → Prop) → Prop
def CallKOk (P : Program) (ck : CallK) : Prop := ∀ tgt args st Q, ck tgt args st Q → TgtSat P tgt args st Q

def goCall (ck : CallK) (g : FuncId) (args : List V) (st : St) (K : V → St → Prop) : Prop :=
  bif flatL args then ck (.fn g) args [] (fun v s2 => bif v.flat then K v st else K (v.shift st.length) (st ++ s2.map (Blk.shift st.length)))
  else ck (.fn g) args st K

section
variable {P : Program} {call : Call} {ck : CallK} {ro : Option Nat} {f : Fr} {st : St} {B : Nat} {W0 w : World} {m : List MB}

theorem FnSat.flatK {g : FuncId} {args : List V} {Q : V → St → Prop} (hf : flatL args = true) (h : FnSat P g args [] (fun v s2 => bif v.flat then Q v st else Q (v.shift st.length) (st ++ s2.map (Blk.shift st.length)))) : FnSat P g args st Q := by
  intro B W0 m w rargs hargs hr
  refine (h w.heap.size w [] w rargs (realL_flat args rargs hf hargs) (Rel.empty w)).mono ?_
  rintro e w' ⟨v, x, m', s2, rfl, _, hv, hrel, hq⟩
  cases hfl : v.flat with
  | true => rw [hfl, cond_true] at hq; exact ⟨v, x, m, st, rfl, Ext.refl m, real_flat v x hfl hv, hr.later hrel.below, hq⟩
  | false =>
    rw [hfl, cond_false] at hq
    refine ⟨v.shift st.length, x, m ++ m', st ++ s2.map (Blk.shift st.length), rfl, fun b e hb => ?_, by rw [← hr.len]; exact real_shift v x hv, hr.join hrel, hq⟩
    rw [List.getElem?_append_left (List.getElem?_eq_some_iff.1 hb).1]; exact hb

theorem goCall_ok (hc : CallKOk P ck) {g : FuncId} {args : List V} {K : V → St → Prop} (h : goCall ck g args st K) : FnSat P g args st K := by
  unfold goCall at h
  cases hf : flatL args with
  | false => rw [hf, cond_false] at h; exact hc (.fn g) args st K h
  | true => rw [hf, cond_true] at h; exact FnSat.flatK hf (hc (.fn g) args [] _ h)

def opK (P : Program) (ck : CallK) (f : Fr) (st : St) (o : Oper) (K : Fr → St → Prop) : Prop :=
  match kindOf P o.op with
  | .look => pureK P st (ev f.T.get) o.op (fun v => K (f.put o.dst v) st)
  | .make => effK P st (ev f.T.get) o.op (fun v s => K (f.put o.dst v) s)
  | .call => match o.op with
    | .call { callee := .value x, args, argTypes } => match ev f.T.get x, evL (ev f.T.get) args.toList with
      | some (.func (.func g) fs cs), some as => bif plainFn P g then goCall ck g (fs ++ as ++ cs) st (fun v s => K (f.put o.dst v) s) else False
      | some (.yield l), some as => ck (.yld l) as st (fun v s => K (f.put o.dst v) s)
      | _, _ => False
    | _ => False

theorem opK_ok (hc : CallKOk P ck) {F : Fence} {a : Act} {Q : Exit → Act → World → Prop} (hF : FOk m ro F) (ha : AOk m f a) (hr : Rel B W0 m st w) {o : Oper} {K : Fr → St → Prop} (h : opK P ck f st o K) {K' : Act → World → Prop}
    (hK : ∀ a w, Then B W0 m K a w → K' a w) : o.wpIn F 0 P a w K' Q := by
  unfold opK at h
  split at h
  · obtain ⟨v, h1, h2⟩ := pureK_ok h
    refine opStep_ok (call := noTable) noTable_ok hF ha hr (f' := f.put o.dst v) (st' := st) (by simp only [opStep, h1]) ?_
    rintro a w ⟨m', f', s', e1, e2, e3, e4⟩
    cases e4
    exact hK a w ⟨m', _, _, e1, e2, e3, h2⟩
  · rename_i hk
    obtain ⟨⟨v, s⟩, h1, h2⟩ := effK_ok h
    refine opStep_ok (call := noTable) noTable_ok hF ha hr (f' := f.put o.dst v) (st' := s) (by simp only [opStep, make_notPure hk, h1]) ?_
    rintro a w ⟨m', f', s', e1, e2, e3, e4⟩
    cases e4
    exact hK a w ⟨m', _, _, e1, e2, e3, h2⟩
  · split at h
    · rename_i x args ats ho
      split at h
      · rename_i g fs cs as hx has
        cases hp : plainFn P g with
        | false => rw [hp] at h; exact h.elim
        | true =>
          rw [hp, cond_true] at h
          refine call_upon hF ha hr ho hx has hp (goCall_ok hc h) ?_
          intro v s m' y w' hq e1 e2 e3
          exact hK _ _ ⟨m', _, _, e1, (ha.mono e1).put e2 _, e3, hq⟩
      · rename_i l as hx has
        refine yield_upon hF ha hr ho hx has (hc (.yld l) as st _ h) ?_
        intro v s m' y w' hq e1 e2 e3
        exact hK _ _ ⟨m', _, _, e1, (ha.mono e1).put e2 _, e3, hq⟩
      · exact h.elim
    · exact h.elim

theorem AOk.known {a : Act} (h : AOk m f a) {t : Nat} {v : V} (ht : f.T.get t = some v) : AOk m (f.put (some t) v) a := by
  unfold Fr.put
  cases hb : Nat.blt t f.sz with
  | false =>
    simp only [hb]
    exact h
  | true =>
    simp only [hb]
    refine ⟨⟨h.tmps.1, fun u x hx => ?_⟩, h.defers⟩
    rcases Tr.get_put hx with ⟨rfl, rfl⟩ | ⟨_, hx⟩
    · exact h.tmps.2 _ _ ht
    · exact h.tmps.2 u x hx

/-- Whether an operation is to be carried out. -/
def guardK (ops : Array Oper) (f : Fr) (o : Oper) (A B : Fr → Prop) : Prop :=
  match o.guard with
  | none => A f
  | some (j, want) => match ops[j]? with
    | some oj => match oj.dst with
      | some d => match f.T.get d with
        | some (.bool b) => match want with
          | true => bif b then A (f.put (some d) (.bool true)) else B (f.put (some d) (.bool false))
          | false => bif b then B (f.put (some d) (.bool true)) else A (f.put (some d) (.bool false))
        | some (.tuple []) => B f
        | _ => False
      | none => False
    | none => False
theorem guardK_ok {ops : Array Oper} {o : Oper} {A C : Fr → Prop} {a : Act} (ha : AOk m f a) (h : guardK ops f o A C) : ∃ f', AOk m f' a ∧ ((Region.wanted o (yielded ops a.tmps) = true ∧ A f') ∨ (Region.wanted o (yielded ops a.tmps) = false ∧ C f')) := by
  have gv := fun b => guardV_ok (ops := ops) (o := o) (b := b) ha
  unfold guardV at gv
  unfold guardK at h
  cases hg : o.guard with
  | none => rw [hg] at h gv; exact ⟨f, ha, .inl ⟨gv true rfl, h⟩⟩
  | some p =>
    obtain ⟨j, want⟩ := p
    rw [hg] at h gv
    simp only at h gv
    cases hj : ops[j]? with
    | none => rw [hj] at h; exact h.elim
    | some oj =>
      rw [hj] at h gv
      simp only at h gv
      cases hd : oj.dst with
      | none => rw [hd] at h; exact h.elim
      | some d =>
        rw [hd] at h gv
        simp only at h gv
        cases ht : f.T.get d with
        | none => rw [ht] at h; exact h.elim
        | some v =>
          rw [ht] at h gv
          cases v with
          | bool b =>
            simp only at h gv
            cases want with
            | true =>
              rcases bif_elim h with ⟨rfl, h⟩ | ⟨rfl, h⟩
              · exact ⟨_, ha.known ht, .inl ⟨gv true rfl, h⟩⟩
              · exact ⟨_, ha.known ht, .inr ⟨gv false rfl, h⟩⟩
            | false =>
              rcases bif_elim h with ⟨rfl, h⟩ | ⟨rfl, h⟩
              · exact ⟨_, ha.known ht, .inr ⟨gv false rfl, h⟩⟩
              · exact ⟨_, ha.known ht, .inl ⟨gv true rfl, h⟩⟩
          | tuple l =>
            cases l with
            | nil => exact ⟨f, ha, .inr ⟨gv false rfl, h⟩⟩
            | cons => exact h.elim
          | _ => exact h.elim

def opsK (P : Program) (ck : CallK) (ops : Array Oper) : List Oper → Fr → St → (Fr → St → Prop) → Prop
  | [], f, st, K => K f st
  | o :: r, f, st, K => guardK ops f o (fun f => opK P ck f st o (fun f s => opsK P ck ops r f s K)) (fun f => opsK P ck ops r (f.put o.dst (.tuple [])) st K)

theorem opsK_ok (hc : CallKOk P ck) {ops : Array Oper} {F : Fence} {Q : Exit → Act → World → Prop} {K : Fr → St → Prop} : ∀ (l : List Oper) (k : Nat), (∀ j, l[j]? = ops[k + j]?) →
    ∀ (f : Fr) (st : St), opsK P ck ops l f st K →
      ∀ (B : Nat) (W0 w : World) (m : List MB) (a : Act), FOk m ro F → AOk m f a → Rel B W0 m st w → (∀ a w, Then B W0 m K a w → Q .normal a w) →
        wpOpsIn F 0 P ops Q (List.range' k l.length) a w
  | [], k, _, f, st, h, B, W0, w, m, a, hF, ha, hr, hQ => hQ a w ⟨m, f, st, Ext.refl m, ha, hr, h⟩
  | o :: l, k, hl, f, st, h, B, W0, w, m, a, hF, ha, hr, hQ => by
    have ho : ops[k]? = some o := by simpa using (hl 0).symm
    have hl' : ∀ j, l[j]? = ops[k + 1 + j]? := fun j => by have := hl (j + 1); simpa [Nat.add_assoc, Nat.add_comm 1 j] using this
    simp only [opsK] at h
    simp only [List.length_cons, List.range'_succ, wpOpsIn, ho]
    obtain ⟨f0, ha0, ⟨hw, h⟩ | ⟨hw, h⟩⟩ := guardK_ok ha h
    · rw [if_pos hw]
      refine opK_ok hc hF ha0 hr h ?_
      rintro a1 w1 ⟨m1, f2, st2, e1, e2, e3, e4⟩
      exact opsK_ok hc l (k + 1) hl' f2 st2 e4 B W0 w1 m1 a1 (hF.mono e1) e2 e3 fun a w ⟨m2, f2, s2, g1, g2, g3, g4⟩ => hQ a w ⟨m2, f2, s2, e1.trans g1, g2, g3, g4⟩
    · rw [if_neg (by rw [hw]; simp)]
      refine ⟨fun g _ => hF.fn g, ?_⟩
      exact opsK_ok hc l (k + 1) hl' _ st h B W0 w m _ hF (ha0.put (x := undef) rfl _) hr hQ

/-! ### regions that draw -/
def guardB (ops : Array Oper) (T : Nat → Option V) (o : Oper) (A B : Prop) : Prop :=
  match o.guard with
  | none => A
  | some (j, want) => match ops[j]? with
    | some oj => match oj.dst with
      | some d => match T d with
        | some (.bool b) => match want with
          | true => bif b then A else B
          | false => bif b then B else A
        | some (.tuple []) => B
        | _ => False
      | none => False
    | none => False
theorem guardB_ok {ops : Array Oper} {T : Nat → Option V} {o : Oper} {A C : Prop} (h : guardB ops T o A C) : (guardT ops T o = some true ∧ A) ∨ (guardT ops T o = some false ∧ C) := by
  unfold guardB at h
  unfold guardT
  cases hg : o.guard with
  | none => rw [hg] at h; exact .inl ⟨rfl, h⟩
  | some p =>
    obtain ⟨j, want⟩ := p
    rw [hg] at h
    simp only at h ⊢
    cases hj : ops[j]? with
    | none => rw [hj] at h; exact h.elim
    | some oj =>
      rw [hj] at h
      simp only at h ⊢
      cases hd : oj.dst with
      | none => rw [hd] at h; exact h.elim
      | some d =>
        rw [hd] at h
        simp only at h ⊢
        cases ht : T d with
        | none => rw [ht] at h; exact h.elim
        | some v =>
          rw [ht] at h
          cases v with
          | bool b =>
            simp only at h ⊢
            cases want with
            | true =>
              rcases bif_elim h with ⟨rfl, h2⟩ | ⟨rfl, h2⟩
              · exact .inl ⟨rfl, h2⟩
              · exact .inr ⟨rfl, h2⟩
            | false =>
              rcases bif_elim h with ⟨rfl, h2⟩ | ⟨rfl, h2⟩
              · exact .inr ⟨rfl, h2⟩
              · exact .inl ⟨rfl, h2⟩
          | tuple l =>
            cases l with
            | nil => exact .inr ⟨rfl, h⟩
            | cons => exact h.elim
          | _ => exact h.elim
theorem guardV_eq (ops : Array Oper) (f : Fr) (o : Oper) : guardV ops f o = guardT ops f.T.get o := rfl

def stillK (P : Program) (call : Call) (ops : Array Oper) (st : St) : List Oper → Fr → (Fr → Prop) → Prop
  | [], f, K => K f
  | o :: r, f, K => guardB ops f.T.get o
      (match kindOf P o.op with
        | .call => optK (stillStep P call f st o) (fun f' => stillK P call ops st r f' K)
        | _ => pureK P st (ev f.T.get) o.op (fun v => stillK P call ops st r (f.put o.dst v) K))
      (stillK P call ops st r (f.put o.dst (.tuple [])) K)
theorem stillK_ok {ops : Array Oper} : ∀ {l : List Oper} {f : Fr} {K : Fr → Prop}, stillK P call ops st l f K → Sure (evalStill P call ops st l f) K
  | [], f, K, h => ⟨f, rfl, h⟩
  | o :: r, f, K, h => by
    simp only [stillK] at h
    simp only [evalStill, guardV_eq]
    rcases guardB_ok h with ⟨hg, h⟩ | ⟨hg, h⟩
    · simp only [hg]
      split at h
      · obtain ⟨f', h1, h2⟩ := optK_ok h
        simp only [h1]
        exact stillK_ok h2
      · obtain ⟨v, h1, h2⟩ := pureK_ok h
        have : stillStep P call f st o = some (f.put o.dst v) := by simp only [stillStep, h1]
        simp only [this]
        exact stillK_ok h2
    · simp only [hg]
      exact stillK_ok h

def valK (P : Program) (call : Call) (T : Nat → Option V) (mem : St) (op : Op) (K : V → St → Prop) : Prop :=
  match kindOf P op with
  | .look => pureK P mem (ev T) op (fun v => K v mem)
  | .make => effK P mem (ev T) op K
  | .call => optK (opVal P call T mem op) (fun r => K r.1 r.2)
theorem valK_ok {T : Nat → Option V} {mem : St} {op : Op} {K : V → St → Prop} (h : valK P call T mem op K) : Sure (opVal P call T mem op) (fun r => K r.1 r.2) := by
  unfold valK at h
  split at h
  · obtain ⟨v, h1, h2⟩ := pureK_ok h
    exact ⟨(v, mem), by unfold opVal; rw [h1], h2⟩
  · rename_i hk
    obtain ⟨r, h1, h2⟩ := effK_ok h
    exact ⟨r, by unfold opVal; rw [make_notPure hk]; simp only [h1], h2⟩
  · exact optK_ok h
def rK (P : Program) (call : Call) (ops : Array Oper) (f : Fr) (st : St) (dsts : List Tmp) : List Oper → List Rec → (List Rec → Prop) → Prop
  | [], recs, K => K recs
  | o :: r, recs, K => bif o.after.toList.all (fun e => !Region.binds .any e || Nat.blt e.on recs.length) then
      guardB ops (frameR f dsts (ancOf recs o.after.toList) recs) o
        (valK P call (frameR f dsts (ancOf recs o.after.toList) recs) (st.map Blk.toRo ++ memR (ancOf recs o.after.toList) 0 recs) o.op
          (fun v s2 => rK P call ops f st dsts r (recs ++ [⟨o.dst, v, ancOf recs o.after.toList, (s2.drop (st.length + lenR recs)).map Blk.keep⟩]) K))
        (rK P call ops f st dsts r (recs ++ [⟨o.dst, .tuple [], ancOf recs o.after.toList, []⟩]) K)
    else False
theorem rK_ok {ops : Array Oper} {dsts : List Tmp} : ∀ {l : List Oper} {recs : List Rec} {K : List Rec → Prop}, rK P call ops f st dsts l recs K → Sure (evalR P call ops f st dsts l recs) K
  | [], recs, K, h => ⟨recs, rfl, h⟩
  | o :: r, recs, K, h => by
    simp only [rK] at h
    rcases bif_elim h with ⟨ha, h⟩ | ⟨_, h⟩
    · rcases guardB_ok h with ⟨hg, h⟩ | ⟨hg, h⟩
      · obtain ⟨⟨v, s2⟩, h1, h2⟩ := valK_ok h
        obtain ⟨R, h3, h4⟩ := rK_ok h2
        refine ⟨R, ?_, h4⟩
        simp only [evalR, stepR, ha, cond_true, hg, h1]
        exact h3
      · obtain ⟨R, h3, h4⟩ := rK_ok h
        refine ⟨R, ?_, h4⟩
        simp only [evalR, stepR, ha, cond_true, hg]
        exact h3
    · exact h.elim
def makesNone (P : Program) (ops : Array Oper) : Bool := ops.toList.all fun o => match kindOf P o.op with | .make => false | _ => true
def drawK (P : Program) (call : Call) (ops : Array Oper) (f : Fr) (st : St) (K : Fr → St → Prop) : Prop :=
  bif Region.lexB .any ops && noDefer ops && makesNone P ops then stillK P call ops st ops.toList f (fun f' => K f' st)
  else bif (distinct (dstsOf ops) && (dstsOf ops).all (fun d => Nat.blt d f.sz)) && noDefer ops then
    rK P call ops f st (dstsOf ops) ops.toList [] (fun recs => K (putsR f recs) (st ++ blksR recs))
  else False
theorem drawK_ok (hm : P.follows .mixedOrders = true) (hc : CallOk P call) {id : Nat} {ops : Array Oper} {Q : Exit → Fr → St → Prop} (h : drawK P call ops f st (Q .normal)) : CodeSat P ro (.region id ops true) f st Q := by
  unfold drawK at h
  rcases bif_elim h with ⟨h1, h⟩ | ⟨_, h⟩
  · simp only [Bool.and_eq_true] at h1
    obtain ⟨f', h2, h3⟩ := stillK_ok h
    exact sat_draw hm hc h1.1.1 h1.1.2 h2 h3
  · rcases bif_elim h with ⟨h1, h⟩ | ⟨_, h⟩
    · obtain ⟨R, h2, h3⟩ := rK_ok h
      exact sat_draw_mem hm hc (f' := putsR f R) (st' := st ++ blksR R) (by unfold evalDraw; rw [h1, cond_true, h2]) h3
    · exact h.elim

/-! ### code -/
abbrev Trans := Fr → St → (Exit → Fr → St → Prop) → Prop
def iterK (body : Trans) : Nat → Trans
  | 0 => fun _ _ _ => False
  | n + 1 => fun f st K => body f st (fun e f s => match e with
    | .normal => iterK body n f s K
    | e => K e f s)
def codeK (P : Program) (call : Call) (ck : CallK) (lk : Nat → Trans → Trans) (ro : Option Nat) : Nat → Code → Trans
  | _, .skip => fun f st K => K .normal f st
  | _, .label _ => fun f st K => K .normal f st
  | _, .ret => fun f st K => K .ret f st
  | _, .exit id => fun f st K => K (.exit id) f st
  | _, .region _ ops false => fun f st K => opsK P ck ops ops.toList f st (K .normal)
  | _, .region _ ops true => fun f st K => drawK P call ops f st (K .normal)
  | p, .seq a b => fun f st K => codeK P call ck lk ro (2 * p) a f st (fun e f s => match e with
    | .normal => codeK P call ck lk ro (2 * p + 1) b f s K
    | e => K e f s)
  | p, .cond c x y => fun f st K => match ev f.T.get c with
    | some (.bool b) => match c with
      | .tmp t => bif b then codeK P call ck lk ro (2 * p) x (f.put (some t) (.bool true)) st K else codeK P call ck lk ro (2 * p + 1) y (f.put (some t) (.bool false)) st K
      | _ => bif b then codeK P call ck lk ro (2 * p) x f st K else codeK P call ck lk ro (2 * p + 1) y f st K
    | _ => False
  | p, .block id c => fun f st K => codeK P call ck lk ro (2 * p) c f st (fun e f s => match e with
    | .exit id' => bif Nat.beq id' id then K .normal f s else K (.exit id') f s
    | e => K e f s)
  | p, .loop c => fun f st K => lk p (fun f st K => codeK P call ck lk ro (2 * p) c f st K) f st K
  | p, .rangeFunc g ps as bd => fun f st K => optK (evalRange P call ro g ps as bd f st) (fun r => K r.1 r.2.1 r.2.2)
  | _, _ => fun _ _ _ => False

/-- The loops of a piece of code are what the table says. -/
def LoopsOk (P : Program) (ro : Option Nat) (lk : Nat → Trans → Trans) : Nat → Code → Prop
  | p, .seq a b => LoopsOk P ro lk (2 * p) a ∧ LoopsOk P ro lk (2 * p + 1) b
  | p, .cond _ a b => LoopsOk P ro lk (2 * p) a ∧ LoopsOk P ro lk (2 * p + 1) b
  | p, .block _ c => LoopsOk P ro lk (2 * p) c
  | p, .loop c => LoopsOk P ro lk (2 * p) c ∧ ∀ body : Trans, (∀ f st Q, body f st Q → CodeSat P ro c f st Q) → ∀ f st Q, lk p body f st Q → CodeSat P ro (.loop c) f st Q
  | _, _ => True

theorem sat_iterK {c : Code} {body : Trans} (hb : ∀ f st Q, body f st Q → CodeSat P ro c f st Q) {Q : Exit → Fr → St → Prop} {n : Nat} (h : iterK body n f st Q) : CodeSat P ro (.loop c) f st Q := by
  refine sat_loop (α := { x : Nat × Fr × St // iterK body x.1 x.2.1 x.2.2 Q }) (fun x => x.1.2.1) (fun x => x.1.2.2) (fun x => x.1.1) ⟨(n, f, st), h⟩ (Less.refl _) rfl ?_
  rintro ⟨⟨k, g, s⟩, hk⟩
  cases k with
  | zero => exact hk.elim
  | succ k =>
    refine (hb g s _ hk).mono ?_
    intro e f' s' hq
    cases e with
    | normal => exact ⟨⟨(k, f', s'), hq⟩, Less.refl _, rfl, Nat.lt_succ_self k⟩
    | _ => exact hq

/-- A loop, with what is asked behind it told of each of its states. -/
theorem sat_loop_fun {α : Type} (I : α → Fr) (J : α → St) (μ : α → Nat) {c : Code} (Q : α → Exit → Fr → St → Prop)
    (round : ∀ x, CodeSat P ro c (I x) (J x) (Nxt (fun f' s' => ∃ x', Less (I x') f' ∧ J x' = s' ∧ μ x' < μ x ∧ ∀ e f s, Q x' e f s → Q x e f s) (Q x))) (x : α) : CodeSat P ro (.loop c) (I x) (J x) (Q x) := by
  refine sat_loop (α := { y : α // ∀ e f s, Q y e f s → Q x e f s }) (fun y => I y.1) (fun y => J y.1) (fun y => μ y.1) ⟨x, fun _ _ _ h => h⟩ (Less.refl _) rfl ?_
  rintro ⟨y, hy⟩
  refine (round y).mono ?_
  intro e f' s' hq
  cases e with
  | normal =>
    obtain ⟨x', h1, h2, h3, h4⟩ := hq
    exact ⟨⟨x', fun e f s h => hy e f s (h4 e f s h)⟩, h1, h2, h3⟩
  | _ => exact hy _ _ _ hq

theorem codeK_ok (hm : P.follows .mixedOrders = true) (hc : CallOk P call) (hk : CallKOk P ck) {lk : Nat → Trans → Trans} : ∀ (c : Code) (p : Nat), LoopsOk P ro lk p c → ∀ (f : Fr) (st : St) (Q : Exit → Fr → St → Prop), codeK P call ck lk ro p c f st Q → CodeSat P ro c f st Q
  | .skip, p, hl, f, st, Q, h => sat_skip h
  | .label _, p, hl, f, st, Q, h => sat_label h
  | .ret, p, hl, f, st, Q, h => sat_ret h
  | .exit id, p, hl, f, st, Q, h => sat_exit h
  | .region id ops false, p, hl, f, st, Q, h => by
    simp only [codeK] at h
    intro B W0 m a w F h1 h2 h3
    refine wpIn_region ?_
    have := opsK_ok hk (ro := ro) (F := F) (Q := Post B W0 m Q) ops.toList 0 (fun j => by simp) f st h B W0 w m a h1 h2 h3 (fun a w ⟨m', f2, s2, e1, e2, e3, e4⟩ => ⟨m', _, _, e1, e2, e3, e4⟩)
    simpa [List.range_eq_range'] using this
  | .region id ops true, p, hl, f, st, Q, h => drawK_ok hm hc h
  | .seq a b, p, hl, f, st, Q, h => by
    simp only [codeK] at h
    refine sat_seq ((codeK_ok hm hc hk a (2 * p) hl.1 f st _ h).mono ?_)
    intro e f' s' hq
    cases e with
    | normal => exact codeK_ok hm hc hk b (2 * p + 1) hl.2 f' s' Q hq
    | _ => exact hq
  | .cond c x y, p, hl, f, st, Q, h => by
    simp only [codeK] at h
    split at h
    · rename_i b hb
      split at h
      · rename_i t
        rcases bif_elim h with ⟨rfl, h⟩ | ⟨rfl, h⟩
        · refine sat_cond hb (CodeSat.less (g := f.put (some t) (.bool true)) (fun m a ha => ha.known hb) ?_)
          exact codeK_ok hm hc hk x (2 * p) hl.1 _ st Q h
        · refine sat_cond hb (CodeSat.less (g := f.put (some t) (.bool false)) (fun m a ha => ha.known hb) ?_)
          exact codeK_ok hm hc hk y (2 * p + 1) hl.2 _ st Q h
      · rcases bif_elim h with ⟨rfl, h⟩ | ⟨rfl, h⟩
        · exact sat_cond hb (codeK_ok hm hc hk x (2 * p) hl.1 _ st Q h)
        · exact sat_cond hb (codeK_ok hm hc hk y (2 * p + 1) hl.2 _ st Q h)
    · exact h.elim
  | .block id c, p, hl, f, st, Q, h => by
    simp only [codeK] at h
    refine sat_block ((codeK_ok hm hc hk c (2 * p) hl f st _ h).mono ?_)
    intro e f' s' hq
    cases e with
    | exit id' =>
      simp only [Blocked]
      rcases bif_elim hq with ⟨h1, hq⟩ | ⟨h1, hq⟩
      · rw [if_pos (Nat.eq_of_beq_eq_true h1)]; exact hq
      · rw [if_neg (fun q => by rw [q, Nat.beq_refl] at h1; cases h1)]; exact hq
    | _ => exact hq
  | .loop c, p, hl, f, st, Q, h => by
    simp only [codeK] at h
    exact hl.2 _ (fun f st Q hq => codeK_ok hm hc hk c (2 * p) hl.1 f st Q hq) f st Q h
  | .rangeFunc g ps as bd, p, hl, f, st, Q, h => by
    simp only [codeK] at h
    obtain ⟨⟨e, f', s'⟩, h1, h2⟩ := optK_ok h
    refine (evalRange_ok hc h1).mono ?_
    intro e2 f2 s2 hq
    cases hq
    exact h2
  | .scope _, p, hl, f, st, Q, h => by simp [codeK] at h
  | .goto _, p, hl, f, st, Q, h => by simp [codeK] at h
  | .refuse _, p, hl, f, st, Q, h => by simp [codeK] at h

/-! ### functions -/
def leaveK (P : Program) (fn : Func) (Q : V → St → Prop) : Exit → Fr → St → Prop
  | .normal, f, st => optK (leaveV P fn f st) (fun r => Q r.1 r.2)
  | .ret, f, st => optK (leaveV P fn f st) (fun r => Q r.1 r.2)
  | _, _, _ => False
def fnK (P : Program) (call : Call) (ck : CallK) (lk : Nat → Trans → Trans) (g : FuncId) (args : List V) (st : St) (Q : V → St → Prop) : Prop :=
  match P.funcs[g]? with
  | some fn => match fn.body with
    | some c => bif Nat.ble args.length fn.ntmps then codeK P call ck lk none 1 c ⟨fn.ntmps, initT 0 .lf args, []⟩ st (leaveK P fn Q) else False
    | none => False
  | none => False
def FnLoops (P : Program) (lk : Nat → Trans → Trans) (g : FuncId) : Prop :=
  match P.funcs[g]? with
  | some fn => match fn.body with
    | some c => LoopsOk P none lk 1 c
    | none => True
  | none => True
theorem fnK_ok (hm : P.follows .mixedOrders = true) (hc : CallOk P call) (hk : CallKOk P ck) {lk : Nat → Trans → Trans} {g : FuncId} (hl : FnLoops P lk g) {args : List V} {Q : V → St → Prop} (h : fnK P call ck lk g args st Q) : FnSat P g args st Q := by
  unfold fnK at h
  unfold FnLoops at hl
  split at h
  · rename_i fn hf
    rw [hf] at hl
    simp only at hl
    split at h
    · rename_i c hb
      rw [hb] at hl
      simp only at hl
      rcases bif_elim h with ⟨h1, h⟩ | ⟨_, h⟩
      · refine fn_sat hf hb (Nat.le_of_ble_eq_true h1) ((codeK_ok hm hc hk c 1 hl _ st _ h).mono ?_)
        intro e f' s' hq
        cases e with
        | normal => obtain ⟨⟨v, s⟩, h2, h3⟩ := optK_ok hq; exact ⟨.inl rfl, v, s, h2, h3⟩
        | ret => obtain ⟨⟨v, s⟩, h2, h3⟩ := optK_ok hq; exact ⟨.inr rfl, v, s, h2, h3⟩
        | _ => exact hq.elim
      · exact h.elim
    · exact h.elim
  · exact h.elim

/-- Each loop is gone through round by round. -/
def rounds (lim : Nat) : Nat → Trans → Trans := fun _ body => iterK body lim
theorem rounds_ok (lim : Nat) : ∀ (c : Code) (p : Nat), LoopsOk P ro (rounds lim) p c
  | .seq a b, p => ⟨rounds_ok lim a _, rounds_ok lim b _⟩
  | .cond _ a b, p => ⟨rounds_ok lim a _, rounds_ok lim b _⟩
  | .block _ c, p => rounds_ok lim c _
  | .loop c, p => ⟨rounds_ok lim c _, fun body hb f st Q h => sat_iterK hb h⟩
  | .skip, _ | .label _, _ | .ret, _ | .exit _, _ | .region .., _ | .rangeFunc .., _ | .scope _, _ | .goto _, _ | .refuse _, _ => trivial
theorem fnRounds (lim : Nat) (g : FuncId) : FnLoops P (rounds lim) g := by
  unfold FnLoops
  split
  · split
    · exact rounds_ok lim _ _
    · trivial
  · trivial

/-- Calls: what the table has, or else the function's own text. -/
def KE (P : Program) (call : Call) (tb : FuncId → Option (List V → St → (V → St → Prop) → Prop)) (lim : Nat) : Nat → CallK
  | 0 => fun _ _ _ _ => False
  | n + 1 => fun tgt args st Q => match tgt with
    | .fn g => match tb g with
      | some t => t args st Q
      | none => fnK P call (KE P call tb lim n) (rounds lim) g args st Q
    | .yld l => optK (call (.yld l) args st) (fun r => Q r.1 r.2)
def TabOk (P : Program) (tb : FuncId → Option (List V → St → (V → St → Prop) → Prop)) : Prop := ∀ g t, tb g = some t → ∀ args st Q, t args st Q → FnSat P g args st Q
theorem KE_ok (hm : P.follows .mixedOrders = true) (hc : CallOk P call) {tb : FuncId → Option (List V → St → (V → St → Prop) → Prop)} (ht : TabOk P tb) (lim : Nat) : ∀ n, CallKOk P (KE P call tb lim n)
  | 0 => fun _ _ _ _ h => h.elim
  | n + 1 => fun tgt args st Q h => by
    cases tgt with
    | fn g =>
      simp only [KE] at h
      split at h
      · rename_i t hg; exact ht g t hg args st Q h
      · exact fnK_ok hm hc (KE_ok hm hc ht lim n) (fnRounds lim g) h
    | yld l =>
      simp only [KE] at h
      obtain ⟨⟨v, s⟩, h1, h2⟩ := optK_ok h
      have := hc (.yld l) args st _ h1
      intro B W0 m w rargs e hargs hr he
      obtain ⟨fn, tmps, as, bd, g1, g2⟩ := this B W0 m w rargs e hargs hr he
      exact ⟨fn, tmps, as, bd, g1, g2.mono fun e w' hp => hp.mono fun v' s' hq => by cases hq; exact h2⟩
end
end Go.Vm

/- The virtual machine, part 15: tables of functions that are known, loops by a law of their own, laws. -/
namespace Go.Vm
set_option linter.unusedVariables false
open Go.RowKit

/-- What functions of plain values come to. -/
abbrev PureF := FuncId → List V → Option V
def PureOk (P : Program) (F : PureF) : Prop := ∀ g args v, F g args = some v → FnSat P g args [] (Is (v, []))
def noF : PureF := fun _ _ => none
def addF (F : PureF) (g0 : FuncId) (f : List V → Option V) : PureF := fun g args => bif Nat.beq g g0 then f args else F g args
theorem noF_ok {P : Program} : PureOk P noF := fun _ _ _ h => by cases h
theorem addF_ok {P : Program} {F : PureF} (hF : PureOk P F) {g0 : FuncId} {f : List V → Option V} (h : ∀ args v, f args = some v → FnSat P g0 args [] (Is (v, []))) : PureOk P (addF F g0 f) := by
  intro g args v hv
  unfold addF at hv
  cases hb : Nat.beq g g0 with
  | true => rw [hb, cond_true] at hv; rw [Nat.eq_of_beq_eq_true hb]; exact h args v hv
  | false => rw [hb, cond_false] at hv; exact hF g args v hv
def tabC (F : PureF) : Call := fun tgt args st => match tgt, st with
  | .fn g, [] => match F g args with
    | some v => some (v, [])
    | none => none
  | _, _ => none
theorem tabC_ok {P : Program} {F : PureF} (hF : PureOk P F) : CallOk P (tabC F) := by
  intro tgt args st r h
  unfold tabC at h
  split at h
  · rename_i g
    split at h
    · rename_i v hv; cases h; exact hF g args v hv
    · cases h
  · cases h
def KF (P : Program) (F : PureF) (lim : Nat) : Nat → CallK
  | 0 => fun _ _ _ _ => False
  | n + 1 => fun tgt args st Q => match tgt with
    | .fn g => match F g args, st with
      | some v, [] => Q v []
      | _, st => fnK P (E P (tabC F) lim n) (KF P F lim n) (rounds lim) g args st Q
    | .yld l => optK (E P (tabC F) lim n (.yld l) args st) (fun r => Q r.1 r.2)

section
variable {P : Program} {F : PureF} {lim n : Nat} {ro : Option Nat} {f : Fr} {st : St}
theorem KF_ok (hm : P.follows .mixedOrders = true) (hF : PureOk P F) : ∀ n, CallKOk P (KF P F lim n)
  | 0 => fun _ _ _ _ h => h.elim
  | n + 1 => fun tgt args st Q h => by
    have hE := E_ok hm (tabC_ok hF) lim n
    cases tgt with
    | fn g =>
      simp only [KF] at h
      split at h
      · rename_i v hv
        exact (hF g args v hv).mono fun u s hq => by cases hq; exact h
      · exact fnK_ok hm hE (KF_ok hm hF n) (fnRounds lim g) h
    | yld l =>
      simp only [KF] at h
      obtain ⟨⟨v, s⟩, h1, h2⟩ := optK_ok h
      have := hE (.yld l) args st _ h1
      intro B W0 m w rargs e hargs hr he
      obtain ⟨fn, tmps, as, bd, g1, g2⟩ := this B W0 m w rargs e hargs hr he
      exact ⟨fn, tmps, as, bd, g1, g2.mono fun e w' hp => hp.mono fun v' s' hq => by cases hq; exact h2⟩

/-- What a function comes to, its loops by 'lk'. -/
def runK (P : Program) (F : PureF) (lim n : Nat) (lk : Nat → Trans → Trans) (g : FuncId) (args : List V) (R : V → Prop) : Prop :=
  fnK P (E P (tabC F) lim n) (KF P F lim n) lk g args [] (fun v _ => R v)
theorem runK_ok (hm : P.follows .mixedOrders = true) (hF : PureOk P F) {lk : Nat → Trans → Trans} {g : FuncId} (hl : FnLoops P lk g) {args : List V} {R : V → Prop} (h : runK P F lim n lk g args R) : FnSat P g args [] (fun v _ => R v) :=
  fnK_ok hm (E_ok hm (tabC_ok hF) lim n) (KF_ok hm hF n) hl h
/-- A function of plain values, to be put into a table. -/
theorem pure_of (hm : P.follows .mixedOrders = true) (hF : PureOk P F) {lk : Nat → Trans → Trans} {g : FuncId} (hl : FnLoops P lk g) {args : List V} {v : V} (ha : flatL args = true) (hv : v.flat = true) (h : runK P F lim n lk g args (fun u => u = v)) : FnSat P g args [] (Is (v, [])) := by
  refine FnSat.flatK ha ((runK_ok hm hF hl h).mono ?_)
  rintro u s rfl
  rw [hv]; rfl
theorem law_of_K (hm : P.follows .mixedOrders = true) (hF : PureOk P F) {lk : Nat → Trans → Trans} {g : FuncId} (hl : FnLoops P lk g) {args : List V} {rargs : List Value} (ha : realL [] args = some rargs) (h : runK P F lim n lk g args (fun u => u = .bool true)) (w : World) :
    Calls P g rargs.toArray w (fun e w' => e = .returned (.bool true) ∧ Below w.heap.size w w') :=
  law_of_sat (runK_ok hm hF hl h) ha w

/-! ### loops by a law of their own -/
def loopsAt (p0 : Nat) : Nat → Code → List Code
  | p, .seq a b => loopsAt p0 (2 * p) a ++ loopsAt p0 (2 * p + 1) b
  | p, .cond _ a b => loopsAt p0 (2 * p) a ++ loopsAt p0 (2 * p + 1) b
  | p, .block _ c => loopsAt p0 (2 * p) c
  | p, .loop c => (bif Nat.beq p p0 then [c] else []) ++ loopsAt p0 (2 * p) c
  | _, _ => []
def bodyOf (P : Program) (g : FuncId) : Code := match P.funcs[g]? with
  | some fn => fn.body.getD .skip
  | none => .skip
def szOf (P : Program) (g : FuncId) : Nat := match P.funcs[g]? with
  | some fn => fn.ntmps
  | none => 0
def loopOf (P : Program) (g : FuncId) (p0 : Nat) : Code := (loopsAt p0 1 (bodyOf P g)).headD .skip
def withLoop (p0 : Nat) (T : Trans) (lk : Nat → Trans → Trans) : Nat → Trans → Trans := fun p body => bif Nat.beq p p0 then T else lk p body
theorem withLoop_ok {p0 : Nat} {T : Trans} {lk : Nat → Trans → Trans} : ∀ (c : Code) (p : Nat), LoopsOk P ro lk p c → (∀ c' ∈ loopsAt p0 p c, ∀ f st Q, T f st Q → CodeSat P ro (.loop c') f st Q) → LoopsOk P ro (withLoop p0 T lk) p c
  | .seq a b, p, h, hT => ⟨withLoop_ok a _ h.1 fun c' hc => hT c' (by simp only [loopsAt, List.mem_append]; exact .inl hc), withLoop_ok b _ h.2 fun c' hc => hT c' (by simp only [loopsAt, List.mem_append]; exact .inr hc)⟩
  | .cond _ a b, p, h, hT => ⟨withLoop_ok a _ h.1 fun c' hc => hT c' (by simp only [loopsAt, List.mem_append]; exact .inl hc), withLoop_ok b _ h.2 fun c' hc => hT c' (by simp only [loopsAt, List.mem_append]; exact .inr hc)⟩
  | .block _ c, p, h, hT => withLoop_ok c _ h fun c' hc => hT c' (by simp only [loopsAt]; exact hc)
  | .loop c, p, h, hT => by
    refine ⟨withLoop_ok c _ h.1 fun c' hc => hT c' (by simp only [loopsAt, List.mem_append]; exact .inr hc), fun body hb f st Q hq => ?_⟩
    unfold withLoop at hq
    cases hp : Nat.beq p p0 with
    | true =>
      rw [hp, cond_true] at hq
      exact hT c (by simp [loopsAt, Nat.eq_of_beq_eq_true hp]) f st Q hq
    | false =>
      rw [hp, cond_false] at hq
      exact h.2 body hb f st Q hq
  | .skip, _, _, _ | .label _, _, _, _ | .ret, _, _, _ | .exit _, _, _, _ | .region .., _, _, _ | .rangeFunc .., _, _, _ | .scope _, _, _, _ | .goto _, _, _, _ | .refuse _, _, _, _ => trivial
theorem fnLoop {g : FuncId} {p0 : Nat} {T : Trans} {lk : Nat → Trans → Trans} (hl : FnLoops P lk g) (hp : loopsAt p0 1 (bodyOf P g) = [loopOf P g p0]) (hT : ∀ f st Q, T f st Q → CodeSat P none (.loop (loopOf P g p0)) f st Q) : FnLoops P (withLoop p0 T lk) g := by
  unfold FnLoops at hl ⊢
  unfold bodyOf at hp
  split at hl
  · rename_i fn hf
    simp only [hf] at hp ⊢
    split at hl
    · rename_i c hb
      simp only [hb, Option.getD_some] at hp ⊢
      refine withLoop_ok c 1 hl fun c' hc => ?_
      rw [hp] at hc
      rw [List.mem_singleton.1 hc]
      exact hT
    · trivial
  · trivial

/-- A frame of which so much is known. -/
def putsT (T : Tr) : List (Nat × V) → Tr
  | [] => T
  | (t, v) :: r => putsT (T.put t v) r
def frOf (sz : Nat) (l : List (Nat × V)) : Fr := ⟨sz, putsT .lf l, []⟩
theorem putsT_get : ∀ {l : List (Nat × V)} {T : Tr} {i : Nat} {u : V}, (putsT T l).get i = some u → (i, u) ∈ l ∨ T.get i = some u
  | [], T, i, u, h => .inr h
  | (t, v) :: r, T, i, u, h => by
    rcases putsT_get (l := r) h with h | h
    · exact .inl (List.mem_cons_of_mem _ h)
    · rcases Tr.get_put h with ⟨rfl, rfl⟩ | ⟨_, h⟩
      · exact .inl List.mem_cons_self
      · exact .inr h
def Has (f : Fr) : List (Nat × V) → Prop
  | [] => True
  | (t, v) :: r => f.T.get t = some v ∧ Has f r
theorem Has.mem {f : Fr} : ∀ {l : List (Nat × V)}, Has f l → ∀ {t v}, (t, v) ∈ l → f.T.get t = some v
  | (t', v') :: r, h, t, v, hm => by
    rcases List.mem_cons.1 hm with h1 | h1
    · cases h1; exact h.1
    · exact Has.mem h.2 h1
theorem Less.of {f : Fr} {sz : Nat} {l : List (Nat × V)} (hs : f.sz = sz) (hd : f.defs = []) (h : Has f l) : Less (frOf sz l) f := by
  intro m a ha
  refine ⟨⟨by have := ha.tmps.1; rw [hs] at this; exact this, fun t v hv => ?_⟩, by have := ha.defers; rw [hd] at this; exact this⟩
  rcases putsT_get hv with h1 | h1
  · exact ha.tmps.2 t v (h.mem h1)
  · simp [Tr.get, Tr.getF] at h1

theorem CodeSat.exitLess {c : Code} {Q : Exit → Fr → St → Prop} (h : CodeSat P ro c f st (fun e f' s => ∃ g, Less g f' ∧ Q e g s)) : CodeSat P ro c f st Q := by
  intro B W0 m a w F h1 h2 h3
  refine wpIn_mono (h B W0 m a w F h1 h2 h3) ?_
  rintro e a' w' ⟨m', f', s', e1, e2, e3, g, e4, e5⟩
  exact ⟨m', g, s', e1, e4 m' a' e2, e3, e5⟩

def okF (sz : Nat) (f : Fr) : Bool := Nat.beq f.sz sz && (match f.defs with | [] => true | _ => false)
theorem okF_spec {sz : Nat} {f : Fr} (h : okF sz f = true) : f.sz = sz ∧ f.defs = [] := by
  unfold okF at h
  rw [Bool.and_eq_true] at h
  refine ⟨Nat.eq_of_beq_eq_true h.1, ?_⟩
  cases hd : f.defs with
  | nil => rfl
  | cons => rw [hd] at h; simp at h
theorem has_of : ∀ {ts : List Nat} {vs : List V}, ts.map f.T.get = vs.map some → Has f (ts.zip vs)
  | [], [], _ => trivial
  | t :: r, v :: s, h => by
    simp only [List.map_cons, List.cons.injEq] at h
    exact ⟨h.1, has_of h.2⟩
  | [], _ :: _, h => by simp at h
  | _ :: _, [], h => by simp at h

/-- The body of a loop: 'R' is told how it is left, what the temporaries 'ts' are then, and the memory. -/
def roundR (P : Program) (F : PureF) (lim n : Nat) (g : FuncId) (p0 : Nat) (ts : List Nat) (vs : List V) (st : St) (R : Exit → List (Option V) → St → Prop) : Prop :=
  codeK P (E P (tabC F) lim n) (KF P F lim n) (rounds lim) none (2 * p0) (loopOf P g p0) (frOf (szOf P g) (ts.zip vs)) st (fun e f s => bif okF (szOf P g) f then R e (ts.map f.T.get) s else False)
abbrev Out := Exit × List V × St
def pickOut : List (Bool × Out) → Option Out
  | [] => none
  | (b, o) :: r => bif b then some o else pickOut r
def pickK (K : Exit → List V → St → Prop) : List (Bool × Out) → Prop
  | [] => False
  | (b, o) :: r => bif b then K o.1 o.2.1 o.2.2 else pickK K r
theorem pickK_ok {K : Exit → List V → St → Prop} : ∀ {l : List (Bool × Out)}, pickK K l → ∃ o, pickOut l = some o ∧ K o.1 o.2.1 o.2.2
  | [], h => h.elim
  | (b, o) :: r, h => by
    rcases bif_elim h with ⟨rfl, h⟩ | ⟨rfl, h⟩
    · exact ⟨o, rfl, h⟩
    · exact pickK_ok (l := r) h
/-- What is asked of a round: another state, nearer the end, that comes to the same; or what the loop comes to. -/
def RoundOk {α : Type} (vs : α → List V) (J : α → St) (μ : α → Nat) (outs : α → List (Bool × Out)) (x : α) : Exit → List (Option V) → St → Prop
  | .normal, l, s => ∃ x', l = (vs x').map some ∧ J x' = s ∧ μ x' < μ x ∧ pickOut (outs x') = pickOut (outs x)
  | e, l, s => ∃ vs', pickOut (outs x) = some (e, vs', s) ∧ l = vs'.map some
theorem loop_law {α : Type} (hm : P.follows .mixedOrders = true) (hF : PureOk P F) {g : FuncId} {p0 : Nat} {ts : List Nat} (vs : α → List V) (J : α → St) (μ : α → Nat) (outs : α → List (Bool × Out))
    (round : ∀ x, roundR P F lim n g p0 ts (vs x) (J x) (RoundOk vs J μ outs x)) (x : α) {Q : Exit → Fr → St → Prop} (hs : okF (szOf P g) f = true) (hh : ts.map f.T.get = (vs x).map some) (hj : J x = st)
    (hq : pickK (fun e l s => Q e (frOf (szOf P g) (ts.zip l)) s) (outs x)) : CodeSat P none (.loop (loopOf P g p0)) f st Q := by
  subst hj
  obtain ⟨h1, h2⟩ := okF_spec hs
  refine CodeSat.less (Less.of h1 h2 (has_of hh)) (CodeSat.exitLess ?_)
  refine (sat_loop_fun (P := P) (ro := none) (c := loopOf P g p0) (fun x => frOf (szOf P g) (ts.zip (vs x))) J μ (fun x e f s => ∃ vs', pickOut (outs x) = some (e, vs', s) ∧ okF (szOf P g) f = true ∧ ts.map f.T.get = vs'.map some) (fun x => ?_) x).mono ?_
  · refine (codeK_ok hm (E_ok hm (tabC_ok hF) lim n) (KF_ok hm hF n) _ _ (rounds_ok lim _ _) _ _ _ (round x)).mono ?_
    intro e f s hq
    rcases bif_elim hq with ⟨ho, hq⟩ | ⟨_, hq⟩
    · obtain ⟨g1, g2⟩ := okF_spec ho
      cases e with
      | normal =>
        obtain ⟨x', k1, k2, k3, k4⟩ := hq
        exact ⟨x', Less.of g1 g2 (has_of k1), k2, k3, fun e f s hh => by rw [k4] at hh; exact hh⟩
      | _ => obtain ⟨vs', k1, k2⟩ := hq; exact ⟨vs', k1, ho, k2⟩
    · exact hq.elim
  · rintro e f s ⟨vs', k1, k2, k3⟩
    obtain ⟨g1, g2⟩ := okF_spec k2
    obtain ⟨o, k4, k5⟩ := pickK_ok hq
    rw [k4] at k1; cases k1
    exact ⟨_, Less.of g1 g2 (has_of k3), k5⟩
/-- A loop for 'withLoop': its state is read off the temporaries. -/
def loopT {α : Type} (sz : Nat) (ts : List Nat) (dec : List (Option V) → St → Option α) (outs : α → List (Bool × Out)) : Trans := fun f st Q =>
  bif okF sz f then optK (dec (ts.map f.T.get) st) (fun x => pickK (fun e l s => Q e (frOf sz (ts.zip l)) s) (outs x)) else False
theorem loopT_ok {α : Type} (hm : P.follows .mixedOrders = true) (hF : PureOk P F) {g : FuncId} {p0 : Nat} {ts : List Nat} {dec : List (Option V) → St → Option α} (vs : α → List V) (J : α → St) (μ : α → Nat) {outs : α → List (Bool × Out)}
    (hdec : ∀ l s x, dec l s = some x → l = (vs x).map some ∧ J x = s)
    (round : ∀ x, roundR P F lim n g p0 ts (vs x) (J x) (RoundOk vs J μ outs x)) {Q : Exit → Fr → St → Prop} (h : loopT (szOf P g) ts dec outs f st Q) : CodeSat P none (.loop (loopOf P g p0)) f st Q := by
  unfold loopT at h
  rcases bif_elim h with ⟨h1, h⟩ | ⟨_, h⟩
  · obtain ⟨x, h2, h3⟩ := optK_ok h
    obtain ⟨h4, h5⟩ := hdec _ _ _ h2
    exact loop_law hm hF vs J μ outs round x h1 h4 h5 h3
  · exact h.elim
end
end Go.Vm

