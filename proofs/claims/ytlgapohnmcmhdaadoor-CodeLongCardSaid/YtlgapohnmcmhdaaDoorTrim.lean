/- Decimal texts: what is cut off of a text at both ends, letter by letter; the document's number of a text, and text of a number. -/
import Derived.Test.YtlgapohnmcmhdaaDoorSum2
import Derived.Test.YtlgapohnmcmhdaaDoorNumMath
import Derived.Test.YtlgapohnmcmhdaaDoorVmc
namespace Go.Proofs.YtlgapohnmcmhdaaDoor
open Go Go.Vm Go.RowKit
set_option linter.unusedVariables false
set_option maxRecDepth 4000
noncomputable def T3 : Tab := ⟨noT, noL, noLks 9⟩
theorem T3_ok : TabOk3 Tryd.prog T3 := ⟨noT_ok, noL_ok, noLks_ok 9⟩
theorem tr_round (s : List UInt8) (la : List V) (R : Exit → List (Option V) → St → Prop) : roundW Tryd.prog T3 9 10 (rounds 9) 43 12 [0,1,4] [.str s, .ptr 0 0, .str []] [.ro false la] R =
   (
 bif decide ((↑s.length : Int) > 0) then
 bif
 decide (0 ≤ IntKind.i64.wrap ((↑s.length : Int) - 1)) &&
 (IntKind.i64.wrap ((↑s.length : Int) - 1)).toNat.blt s.length then
 bif true && decide ((↑(s.getD (IntKind.i64.wrap ((↑s.length : Int) - 1)).toNat 0).toNat : Int) < 256) then
 bif (0 + (↑(s.getD (IntKind.i64.wrap ((↑s.length : Int) - 1)).toNat 0).toNat : Int).toNat * 1).blt la.length then
 bif
 isBoolV
 (la.getD (0 + (↑(s.getD (IntKind.i64.wrap ((↑s.length : Int) - 1)).toNat 0).toNat : Int).toNat * 1)
 (V.bool false)) then
 bif
 !boolOfV
 (la.getD (0 + (↑(s.getD (IntKind.i64.wrap ((↑s.length : Int) - 1)).toNat 0).toNat : Int).toNat * 1)
 (V.bool false)) then
 R (Exit.exit 0) [some (V.str s), some (V.ptr 0 0), some (V.str [])] [Blk.ro false la]
 else
 bif decide (0 ≤ IntKind.i64.wrap ((↑s.length : Int) - 1)) then
 bif true && (IntKind.i64.wrap ((↑s.length : Int) - 1)).toNat.ble s.length then
 R Exit.normal
 [some (V.str (List.take ((IntKind.i64.wrap ((↑s.length : Int) - 1)).toNat - 0) (List.drop 0 s))),
 some (V.ptr 0 0), some (V.str [])]
 [Blk.ro false la]
 else False
 else False
 else False
 else False
 else False
 else False
 else R (Exit.exit 0) [some (V.str s), some (V.ptr 0 0), some (V.str [])] [Blk.ro false la]) := by kernel_rfl
theorem tl_round (s : List UInt8) (la : List V) (R : Exit → List (Option V) → St → Prop) : roundW Tryd.prog T3 9 10 (rounds 9) 47 12 [0,1,4] [.str s, .ptr 0 0, .str []] [.ro false la] R =
   (
 bif decide ((↑s.length : Int) > 0) then
 bif true && Nat.blt 0 s.length then
 bif true && decide ((↑(s.getD 0 0).toNat : Int) < 256) then
 bif (0 + (↑(s.getD 0 0).toNat : Int).toNat * 1).blt la.length then
 bif isBoolV (la.getD (0 + (↑(s.getD 0 0).toNat : Int).toNat * 1) (V.bool false)) then
 bif !boolOfV (la.getD (0 + (↑(s.getD 0 0).toNat : Int).toNat * 1) (V.bool false)) then
 R (Exit.exit 0) [some (V.str s), some (V.ptr 0 0), some (V.str [])] [Blk.ro false la]
 else
 bif Nat.ble 1 s.length && s.length.ble s.length then
 R Exit.normal [some (V.str (List.take (s.length - 1) (List.drop 1 s))), some (V.ptr 0 0), some (V.str [])]
 [Blk.ro false la]
 else False
 else False
 else False
 else False
 else False
 else R (Exit.exit 0) [some (V.str s), some (V.ptr 0 0), some (V.str [])] [Blk.ro false la]) := by kernel_rfl
theorem n1_round (s : List UInt8) (most i : Int) (R : Exit → List (Option V) → St → Prop) : roundW Tryd.prog T3 9 10 (rounds 9) 21 58 [0,1,4,5,6] [.str s, .int .i64 most, .int .i64 0, .int .i64 0, .int .i64 i] [] R =
   (
 bif decide (i < (↑s.length : Int)) then
 bif decide (0 ≤ i) && i.toNat.blt s.length then
 bif decide ((↑(s.getD i.toNat 0).toNat : Int) < 48) then
 R Exit.ret
 [some (V.str s), some (V.int IntKind.i64 most), some (V.int IntKind.i64 0), some (V.int IntKind.i64 4),
 some (V.int IntKind.i64 i)]
 []
 else
 bif decide (0 ≤ i) && i.toNat.blt s.length then
 bif decide ((↑(s.getD i.toNat 0).toNat : Int) > 57) then
 R Exit.ret
 [some (V.str s), some (V.int IntKind.i64 most), some (V.int IntKind.i64 0), some (V.int IntKind.i64 4),
 some (V.int IntKind.i64 i)]
 []
 else
 R Exit.normal
 [some (V.str s), some (V.int IntKind.i64 most), some (V.int IntKind.i64 0), some (V.int IntKind.i64 0),
 some (V.int IntKind.i64 (IntKind.i64.wrap (i + 1)))]
 []
 else False
 else False
 else
 R (Exit.exit 0)
 [some (V.str s), some (V.int IntKind.i64 most), some (V.int IntKind.i64 0), some (V.int IntKind.i64 0),
 some (V.int IntKind.i64 i)]
 []) := by kernel_rfl
theorem n2_round (s : List UInt8) (most n i : Int) (R : Exit → List (Option V) → St → Prop) : roundW Tryd.prog T3 9 10 (rounds 9) 21 250 [0,1,4,5,7,8] [.str s, .int .i64 most, .int .i64 0, .int .i64 0, .int .i64 n, .int .i64 i] [] R =
   (
 bif decide (i < (↑s.length : Int)) then
 bif decide (0 ≤ i) && i.toNat.blt s.length then
 bif decide (most < IntKind.i64.wrap (IntKind.u8.wrap ((↑(s.getD i.toNat 0).toNat : Int) - 48))) then
 R Exit.ret
 [some (V.str s), some (V.int IntKind.i64 most), some (V.int IntKind.i64 0), some (V.int IntKind.i64 40),
 some (V.int IntKind.i64 n), some (V.int IntKind.i64 i)]
 []
 else
 bif
 decide
 (n >
 IntKind.i64.wrap
 ((IntKind.i64.wrap
 (most - IntKind.i64.wrap (IntKind.u8.wrap ((↑(s.getD i.toNat 0).toNat : Int) - 48)))).tdiv
 10)) then
 R Exit.ret
 [some (V.str s), some (V.int IntKind.i64 most), some (V.int IntKind.i64 0), some (V.int IntKind.i64 40),
 some (V.int IntKind.i64 n), some (V.int IntKind.i64 i)]
 []
 else
 R Exit.normal
 [some (V.str s), some (V.int IntKind.i64 most), some (V.int IntKind.i64 0), some (V.int IntKind.i64 0),
 some
 (V.int IntKind.i64
 (IntKind.i64.wrap
 (IntKind.i64.wrap (10 * n) +
 IntKind.i64.wrap (IntKind.u8.wrap ((↑(s.getD i.toNat 0).toNat : Int) - 48))))),
 some (V.int IntKind.i64 (IntKind.i64.wrap (i + 1)))]
 []
 else False
 else
 R (Exit.exit 2)
 [some (V.str s), some (V.int IntKind.i64 most), some (V.int IntKind.i64 0), some (V.int IntKind.i64 0),
 some (V.int IntKind.i64 n), some (V.int IntKind.i64 i)]
 []) := by kernel_rfl
theorem sh_round (n : Int) (s : List UInt8) (u : Int) (R : Exit → List (Option V) → St → Prop) : roundW Tryd.prog T3 9 10 (rounds 9) 22 124 [0,2,3,4] [.int .i64 n, .str [], .int .u64 u, .str s] [] R =
   (
 bif decide (u > 9) then
 bif (1 + s.length).ble 9223372036854775807 then
 R Exit.normal
 [some (V.int IntKind.i64 n), some (V.str []), some (V.int IntKind.u64 (IntKind.u64.wrap (u.tdiv 10))),
 some
 (V.str
 (List.map Vm.byteOf
 [V.int IntKind.u8 (IntKind.u8.wrap (IntKind.u64.wrap (48 + (IntKind.u64.wrap (u.tdiv 10)).tmod 10)))] ++
 s))]
 [Blk.row [V.int IntKind.u8 (IntKind.u8.wrap (IntKind.u64.wrap (48 + (IntKind.u64.wrap (u.tdiv 10)).tmod 10)))] 5
 1]
 else False
 else R (Exit.exit 0) [some (V.int IntKind.i64 n), some (V.str []), some (V.int IntKind.u64 u), some (V.str s)] []) := by kernel_rfl
def okL (s : List UInt8) : Bool := decide ((s.length : Int) ≤ 99999)
theorem okL_le {s : List UInt8} (h : okL s = true) : (s.length : Int) ≤ 99999 := of_decide_eq_true h
/-! ### what is cut off -/
def okT (la : List V) : Bool := flatL la && (Nat.beq la.length 256 && la.all isBoolV)
def pT (la : List V) (b : UInt8) : Bool := boolOfV (la.getD b.toNat (.bool false))
theorem okT_flat {la : List V} (h : okT la = true) : flatL la = true := by unfold okT at h; rw [Bool.and_eq_true] at h; exact h.1
theorem okT_get {la : List V} (h : okT la = true) (b : UInt8) : b.toNat.blt la.length = true ∧ isBoolV (la.getD b.toNat (.bool false)) = true := by
  unfold okT at h
  rw [Bool.and_eq_true, Bool.and_eq_true] at h
  have hl := Nat.eq_of_beq_eq_true h.2.1
  have hb := b.toNat_lt
  have hlt : b.toNat < la.length := by rw [hl]; exact hb
  refine ⟨Nat.ble_eq_true_of_le hlt, ?_⟩
  rw [List.getD_eq_getElem?_getD, List.getElem?_eq_getElem hlt]
  exact List.all_eq_true.1 h.2.2 _ (List.getElem_mem hlt)
structure TR where
  s : List UInt8
  la : List V
def trV (x : TR) : List V := [.str x.s, .ptr 0 0, .str []]
def trJ (x : TR) : St := [.ro false x.la]
def trPre (x : TR) : Bool := okT x.la && okL x.s
def trMu (x : TR) : Nat := x.s.length
def trDec : List (Option V) → St → Option TR
  | [some (.str s), some (.ptr 0 0), some (.str [])], [.ro false la] => some ⟨s, la⟩
  | _, _ => none
def trOut : Asks TR := fun x K => K (.exit 0) [.str (trimR (pT x.la) x.s), .ptr 0 0, .str []] [.ro false x.la]
def tlOut : Asks TR := fun x K => K (.exit 0) [.str (trimL (pT x.la) x.s), .ptr 0 0, .str []] [.ro false x.la]
theorem tr_fits (la : List V) (hf : flatL la = true) (s : List UInt8) : Fits 1 [.str s, .ptr 0 0, .str []] [.ro false la] [some (.str s), some (.ptr 0 0), some (.str [])] [.ro false la] :=
  ⟨[0], [.str s, .ptr 0 0, .str []], rfl, rfl, FitsM.of ⟨.inr ⟨.ro false la, .inl (by simp only [renB, renL_of_flat la hf]), rfl⟩, trivial⟩, by decide, fun i hi => by
    match i, hi with
    | 0, _ => rfl⟩
theorem tr_roundOk (x : TR) (hx : trPre x = true) : roundW Tryd.prog T3 9 10 (rounds 9) 43 12 [0,1,4] (trV x) (trJ x) (RoundOkA 1 trPre trV trJ trMu trOut x) := by
  obtain ⟨s, la⟩ := x
  unfold trPre at hx
  rw [Bool.and_eq_true] at hx
  have p1 : okT la = true := hx.1
  have p2 := okL_le hx.2
  simp only at p2
  show roundW Tryd.prog T3 9 10 (rounds 9) 43 12 [0,1,4] [.str s, .ptr 0 0, .str []] [.ro false la] _
  rw [tr_round]
  have h256 : s = [] ∨ s ≠ [] := Classical.em _
  refine bif_intro (fun hb => ?_) (fun hb => ?_)
  · have hl : 0 < s.length := by have := of_decide_eq_true hb; omega
    have hne : s ≠ [] := List.length_pos_iff.1 hl
    have e0 : IntKind.i64.wrap ((s.length : Int) - 1) = ((s.length - 1 : Nat) : Int) := by rw [IntWalk.i64_in _ ⟨by omega, by omega⟩]; omega
    rw [e0]
    simp only [Int.toNat_natCast, Nat.zero_add, Nat.mul_one]
    have hc := okT_get p1 (s.getD (s.length - 1) 0)
    have hlt := (s.getD (s.length - 1) 0).toNat_lt
    refine must_intro (by rw [Bool.and_eq_true]; exact ⟨decide_eq_true (by omega), Nat.ble_eq_true_of_le (by omega)⟩) ?_
    refine must_intro (by rw [Bool.true_and]; exact decide_eq_true (by omega)) (must_intro hc.1 (must_intro hc.2 ?_))
    refine bif_intro (fun h2 => ?_) (fun h2 => ?_)
    · have h2 : pT la (s.getD (s.length - 1) 0) = false := by simpa [pT] using h2
      refine ⟨[.str s, .ptr 0 0, .str []], [.ro false la], fun K hK => ?_, tr_fits la (okT_flat p1) s⟩
      have hK : K (.exit 0) [.str (trimR (pT la) s), .ptr 0 0, .str []] [.ro false la] := hK
      rw [trimR_snoc hne, h2, cond_false] at hK
      exact hK
    · have h2 : pT la (s.getD (s.length - 1) 0) = true := by simpa [pT] using h2
      refine must_intro (decide_eq_true (by omega)) (must_intro (by rw [Bool.true_and]; exact Nat.ble_eq_true_of_le (by omega)) ?_)
      rw [List.drop_zero, Nat.sub_zero]
      have hk : (s.take (s.length - 1)).length = s.length - 1 := by rw [List.length_take]; omega
      refine ⟨⟨s.take (s.length - 1), la⟩, ?_, tr_fits la (okT_flat p1) _, ?_, fun K hK => ?_⟩
      · unfold trPre
        rw [Bool.and_eq_true]
        exact ⟨p1, decide_eq_true (by simp only [hk]; omega)⟩
      · simp only [trMu, hk]; omega
      · have hK : K (.exit 0) [.str (trimR (pT la) s), .ptr 0 0, .str []] [.ro false la] := hK
        rw [trimR_snoc hne, h2, cond_true] at hK
        exact hK
  · have hl : s.length = 0 := by have := of_decide_eq_false hb; omega
    have hs : s = [] := List.length_eq_zero_iff.1 hl
    subst hs
    exact ⟨[.str [], .ptr 0 0, .str []], [.ro false la], fun K hK => hK, tr_fits la (okT_flat p1) _⟩
theorem tl_roundOk (x : TR) (hx : trPre x = true) : roundW Tryd.prog T3 9 10 (rounds 9) 47 12 [0,1,4] (trV x) (trJ x) (RoundOkA 1 trPre trV trJ trMu tlOut x) := by
  obtain ⟨s, la⟩ := x
  unfold trPre at hx
  rw [Bool.and_eq_true] at hx
  have p1 : okT la = true := hx.1
  have p2 := okL_le hx.2
  simp only at p2
  show roundW Tryd.prog T3 9 10 (rounds 9) 47 12 [0,1,4] [.str s, .ptr 0 0, .str []] [.ro false la] _
  rw [tl_round]
  cases s with
  | nil => exact ⟨[.str [], .ptr 0 0, .str []], [.ro false la], fun K hK => hK, tr_fits la (okT_flat p1) _⟩
  | cons c r =>
    have e1 : (c :: r).getD 0 0 = c := rfl
    rw [e1]
    simp only [Int.toNat_natCast, Nat.zero_add, Nat.mul_one, List.length_cons, List.drop_succ_cons, List.drop_zero, Nat.add_sub_cancel, List.take_length]
    have hc := okT_get p1 c
    have hlt := c.toNat_lt
    simp only [List.length_cons] at p2
    refine bif_intro (fun hb => ?_) (fun hb => absurd (of_decide_eq_false hb) (by omega))
    refine must_intro (by rw [Bool.true_and]; exact Nat.ble_eq_true_of_le (by omega)) (must_intro (by rw [Bool.true_and]; exact decide_eq_true (by omega)) (must_intro hc.1 (must_intro hc.2 ?_)))
    refine bif_intro (fun h2 => ?_) (fun h2 => ?_)
    · have h2 : pT la c = false := by simpa [pT] using h2
      refine ⟨[.str (c :: r), .ptr 0 0, .str []], [.ro false la], fun K hK => ?_, tr_fits la (okT_flat p1) _⟩
      have hK : K (.exit 0) [.str (trimL (pT la) (c :: r)), .ptr 0 0, .str []] [.ro false la] := hK
      rw [trimL, h2, cond_false] at hK
      exact hK
    · have h2 : pT la c = true := by simpa [pT] using h2
      refine must_intro (by rw [Bool.and_eq_true]; exact ⟨Nat.ble_eq_true_of_le (by omega), Nat.ble_eq_true_of_le (by omega)⟩) ?_
      refine ⟨⟨r, la⟩, ?_, tr_fits la (okT_flat p1) _, ?_, fun K hK => ?_⟩
      · unfold trPre
        rw [Bool.and_eq_true]
        exact ⟨p1, decide_eq_true (by simp only; omega)⟩
      · simp only [trMu, List.length_cons]; omega
      · have hK : K (.exit 0) [.str (trimL (pT la) (c :: r)), .ptr 0 0, .str []] [.ro false la] := hK
        rw [trimL, h2, cond_true] at hK
        exact hK
noncomputable def lkTR : Nat → Trans → Trans := withLoop 12 (loopA 1 (szOf Tryd.prog 43) [0,1,4] trDec trPre trV trJ trOut) (rounds 9)
noncomputable def lkTL : Nat → Trans → Trans := withLoop 12 (loopA 1 (szOf Tryd.prog 47) [0,1,4] trDec trPre trV trJ tlOut) (rounds 9)
theorem lkTR_ok : FnLoopsW Tryd.prog 1 lkTR 43 := by
  unfold lkTR
  exact fnLoopW (fnRoundsW 9 1 43) (by kernel_rfl) fun f st Q h => loopA_ok (P := Tryd.prog) (T := T3) (k := 1) (lim := 9) (n := 10) (g := 43) (p0 := 12) (lk := rounds 9) mixed T3_ok (roundsW 9 _ _) trMu tr_roundOk h
theorem lkTL_ok : FnLoopsW Tryd.prog 1 lkTL 47 := by
  unfold lkTL
  exact fnLoopW (fnRoundsW 9 1 47) (by kernel_rfl) fun f st Q h => loopA_ok (P := Tryd.prog) (T := T3) (k := 1) (lim := 9) (n := 10) (g := 47) (p0 := 12) (lk := rounds 9) mixed T3_ok (roundsW 9 _ _) trMu tl_roundOk h
noncomputable def lookT (g : Nat) (lk : Nat → Trans → Trans) (args : List V) (st : St) (R : V → St → Prop) : Prop := fnK Tryd.prog (cqT Tryd.prog T3 9 10) (KG Tryd.prog T3 9 10) lk g args st R
theorem lookT_ok {g : Nat} {lk : Nat → Trans → Trans} {args : List V} {st : St} {R : V → St → Prop} (hl : FnLoopsW Tryd.prog st.length lk g) (h : lookT g lk args st R) : FnSat Tryd.prog g args st R :=
  fnKW_ok mixed (cqT_ok mixed T3_ok 9 10) (KG_ok mixed T3_ok 10) hl h
theorem trf_tree (s : List UInt8) (la : List V) (R : V → St → Prop) : lookT 43 lkTR [.str s, .ptr 0 0] [.ro false la] R =
   (
    Fits 1 [V.str s, V.ptr 0 0, V.str []] [Blk.ro false la] [some (V.str s), some (V.ptr 0 0), some (V.str [])]
        [Blk.ro false la] ∧
      bif trPre { s := s, la := la } then R (V.str (trimR (pT la) s)) [Blk.ro false la] else False) := by kernel_rfl
theorem tlf_tree (s : List UInt8) (la : List V) (R : V → St → Prop) : lookT 47 lkTL [.str s, .ptr 0 0] [.ro false la] R =
   (
    Fits 1 [V.str s, V.ptr 0 0, V.str []] [Blk.ro false la] [some (V.str s), some (V.ptr 0 0), some (V.str [])]
        [Blk.ro false la] ∧
      bif trPre { s := s, la := la } then R (V.str (trimL (pT la) s)) [Blk.ro false la] else False) := by kernel_rfl
/-- The set of the ten letters. -/
def digC : List V := List.replicate 48 (.bool false) ++ (List.replicate 10 (.bool true) ++ List.replicate 198 (.bool false))
theorem digC_ok : okT digC = true := by decide +kernel
theorem pT_digC : pT digC = isD := by
  funext b
  have h : ∀ i : Fin 256, pT digC (UInt8.ofNat i.val) = isD (UInt8.ofNat i.val) := by decide +kernel
  have := h ⟨b.toNat, b.toNat_lt⟩
  simpa using this
noncomputable def trG : List V → St → Option (List (Bool × (V × St)))
  | [.str s, .ptr 0 0], [.ro false la] => bif eqLL la digC then some [(okL s, (.str (trimR isD s), []))] else none
  | _, _ => none
noncomputable def tlG : List V → St → Option (List (Bool × (V × St)))
  | [.str s, .ptr 0 0], [.ro false la] => bif eqLL la digC then some [(okL s, (.str (trimL isD s), []))] else none
  | _, _ => none
theorem trG_ok (args : List V) (s : St) (l : List (Bool × (V × St))) (v : V) (n : St) (h : trG args s = some l) (ho : pickO l = some (v, n)) : (∀ b ∈ s, flatL b.cs = true) ∧ FnSat Tryd.prog 43 args s (fun u st => Fits 0 [v] n [some u] st) := by
  unfold trG at h
  split at h
  · rename_i s la
    cases he : eqLL la digC with
    | false => rw [he] at h; cases h
    | true =>
      rw [he] at h
      cases eqLL_ok _ _ he
      cases h
      cases hk : okL s with
      | false => rw [hk] at ho; cases ho
      | true =>
        rw [hk] at ho
        cases ho
        have hf : flatL digC = true := okT_flat digC_ok
        refine ⟨by simp [Blk.cs, hf], lookT_ok (lk := lkTR) lkTR_ok ?_⟩
        rw [trf_tree, pT_digC]
        refine ⟨tr_fits digC hf s, must_intro ?_ ⟨[], [.str (trimR isD s)], rfl, rfl, FitsM.of trivial, by simp, fun i hi => by omega⟩⟩
        unfold trPre
        rw [digC_ok, hk]; rfl
  · cases h
theorem tlG_ok (args : List V) (s : St) (l : List (Bool × (V × St))) (v : V) (n : St) (h : tlG args s = some l) (ho : pickO l = some (v, n)) : (∀ b ∈ s, flatL b.cs = true) ∧ FnSat Tryd.prog 47 args s (fun u st => Fits 0 [v] n [some u] st) := by
  unfold tlG at h
  split at h
  · rename_i s la
    cases he : eqLL la digC with
    | false => rw [he] at h; cases h
    | true =>
      rw [he] at h
      cases eqLL_ok _ _ he
      cases h
      cases hk : okL s with
      | false => rw [hk] at ho; cases ho
      | true =>
        rw [hk] at ho
        cases ho
        have hf : flatL digC = true := okT_flat digC_ok
        refine ⟨by simp [Blk.cs, hf], lookT_ok (lk := lkTL) lkTL_ok ?_⟩
        rw [tlf_tree, pT_digC]
        refine ⟨tr_fits digC hf s, must_intro ?_ ⟨[], [.str (trimL isD s)], rfl, rfl, FitsM.of trivial, by simp, fun i hi => by omega⟩⟩
        unfold trPre
        rw [digC_ok, hk]; rfl
  · cases h
noncomputable def T4 : Tab := ⟨noT, addM (addM noL 43 trG) 47 tlG, noLks 20⟩
theorem T4_ok : TabOk3 Tryd.prog T4 := ⟨noT_ok, addM_ok (addM_ok noL_ok trG_ok) tlG_ok, noLks_ok 20⟩
theorem trim_tree (s : List UInt8) (R : V → Prop) : runW Tryd.prog T4 99 10 32 [.str s, .str [48, 49, 50, 51, 52, 53, 54, 55, 56, 57]] R =
   (
 bif s == [] then R (V.str s)
 else bif okL s then bif okL (trimR isD s) then R (V.str (trimL isD (trimR isD s))) else False else False) := by kernel_rfl
