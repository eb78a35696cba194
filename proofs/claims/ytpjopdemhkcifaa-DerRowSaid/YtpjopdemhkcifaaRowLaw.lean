/- DerRow: what it comes to. -/
import Derived.Test.YtpjopdemhkcifaaRowsA
namespace Go.Proofs.Ytpjopdemhkcifaa
open Go Go.Vm Go.RowKit
set_option linter.unusedVariables false
noncomputable def TR : Tab := ⟨addT noT 20 putF, noL, noLks 9⟩
theorem TR_ok : TabOk3 Try.prog TR := ⟨addT_ok noT_ok put_ok, noL_ok, noLks_ok 9⟩
theorem rw_round0 (la : List V) (n : Nat) (at_ : Int) (s : List UInt8) (i : Int) (R : Exit → List (Option V) → St → Prop) : roundW Try.prog TR 9 10 (rounds 9) 8 250 [0,1,4,5,6,7] [.slice 0 0 n false 0 0, .int .i64 at_, .bool false, .str s, .nilSlice, .int .i64 i] [.ro false la] R =
   (
    bif decide (i < (↑n : Int)) then
      bif decide (0 ≤ i) && decide (i < (↑n : Int)) then
        bif (0 + i.toNat * 2 + 2).ble la.length then
          bif isIntV IntKind.u8 (la.getD (0 + i.toNat * 2 + 0) (V.bool false)) then
            bif isStrV (la.getD (0 + i.toNat * 2 + 1) (V.bool false)) then
              bif okTag (intOfV (la.getD (0 + i.toNat * 2 + 0) (V.bool false))) then
                bif
                    putE (intOfV (la.getD (0 + i.toNat * 2 + 0) (V.bool false)))
                        (strOfV (la.getD (0 + i.toNat * 2 + 1) (V.bool false))) !=
                      0 then
                  R Exit.ret
                    [some (V.slice 0 0 n false 0 0), some (V.int IntKind.i64 at_), some (V.bool true), some (V.str s),
                      some V.nilSlice, some (V.int IntKind.i64 i)]
                    [Blk.ro false la]
                else
                  bif decide (0 ≤ i) && decide (i < (↑n : Int)) then
                    bif (0 + i.toNat * 2 + 1).blt la.length then
                      bif isStrV (la.getD (0 + i.toNat * 2 + 1) (V.bool false)) then
                        bif decide ((↑(strOfV (la.getD (0 + i.toNat * 2 + 1) (V.bool false))).length : Int) > 2000) then
                          R Exit.ret
                            [some (V.slice 0 0 n false 0 0), some (V.int IntKind.i64 at_), some (V.bool true),
                              some (V.str s), some V.nilSlice, some (V.int IntKind.i64 i)]
                            [Blk.ro false la]
                        else
                          bif
                              (s.length +
                                    (putB (intOfV (la.getD (0 + i.toNat * 2 + 0) (V.bool false)))
                                        (strOfV (la.getD (0 + i.toNat * 2 + 1) (V.bool false)))).length).ble
                                9223372036854775807 then
                            R Exit.normal
                              [some (V.slice 0 0 n false 0 0), some (V.int IntKind.i64 at_), some (V.bool false),
                                some
                                  (V.str
                                    (s ++
                                      putB (intOfV (la.getD (0 + i.toNat * 2 + 0) (V.bool false)))
                                        (strOfV (la.getD (0 + i.toNat * 2 + 1) (V.bool false))))),
                                some (V.slice 2 0 1 false 0 0), some (V.int IntKind.i64 (IntKind.i64.wrap (i + 1)))]
                              [Blk.ro false la,
                                Blk.row
                                  [V.int IntKind.i64
                                      (↑(s ++
                                              putB (intOfV (la.getD (0 + i.toNat * 2 + 0) (V.bool false)))
                                                (strOfV (la.getD (0 + i.toNat * 2 + 1) (V.bool false)))).length :
                                        Int)]
                                  3 1,
                                Blk.row
                                  [V.int IntKind.i64
                                      (↑(s ++
                                              putB (intOfV (la.getD (0 + i.toNat * 2 + 0) (V.bool false)))
                                                (strOfV (la.getD (0 + i.toNat * 2 + 1) (V.bool false)))).length :
                                        Int)]
                                  3 1]
                          else False
                      else False
                    else False
                  else False
              else False
            else False
          else False
        else False
      else False
    else
      R (Exit.exit 0)
        [some (V.slice 0 0 n false 0 0), some (V.int IntKind.i64 at_), some (V.bool false), some (V.str s), some V.nilSlice,
          some (V.int IntKind.i64 i)]
        [Blk.ro false la]) := by kernel_rfl
theorem rw_round1 (la : List V) (n : Nat) (at_ : Int) (s : List UInt8) (o : List V) (i : Int) (R : Exit → List (Option V) → St → Prop) : roundW Try.prog TR 9 10 (rounds 9) 8 250 [0,1,4,5,6,7] [.slice 0 0 n false 0 0, .int .i64 at_, .bool false, .str s, .slice 1 0 o.length false 0 0, .int .i64 i] [.ro false la, .row o 3 1] R =
   (
    bif decide (i < (↑n : Int)) then
      bif decide (0 ≤ i) && decide (i < (↑n : Int)) then
        bif (0 + i.toNat * 2 + 2).ble la.length then
          bif isIntV IntKind.u8 (la.getD (0 + i.toNat * 2 + 0) (V.bool false)) then
            bif isStrV (la.getD (0 + i.toNat * 2 + 1) (V.bool false)) then
              bif okTag (intOfV (la.getD (0 + i.toNat * 2 + 0) (V.bool false))) then
                bif
                    putE (intOfV (la.getD (0 + i.toNat * 2 + 0) (V.bool false)))
                        (strOfV (la.getD (0 + i.toNat * 2 + 1) (V.bool false))) !=
                      0 then
                  R Exit.ret
                    [some (V.slice 0 0 n false 0 0), some (V.int IntKind.i64 at_), some (V.bool true), some (V.str s),
                      some (V.slice 1 0 o.length false 0 0), some (V.int IntKind.i64 i)]
                    [Blk.ro false la, Blk.row o 3 1]
                else
                  bif decide (0 ≤ i) && decide (i < (↑n : Int)) then
                    bif (0 + i.toNat * 2 + 1).blt la.length then
                      bif isStrV (la.getD (0 + i.toNat * 2 + 1) (V.bool false)) then
                        bif decide ((↑(strOfV (la.getD (0 + i.toNat * 2 + 1) (V.bool false))).length : Int) > 2000) then
                          R Exit.ret
                            [some (V.slice 0 0 n false 0 0), some (V.int IntKind.i64 at_), some (V.bool true),
                              some (V.str s), some (V.slice 1 0 o.length false 0 0), some (V.int IntKind.i64 i)]
                            [Blk.ro false la, Blk.row o 3 1]
                        else
                          bif
                              (s.length +
                                    (putB (intOfV (la.getD (0 + i.toNat * 2 + 0) (V.bool false)))
                                        (strOfV (la.getD (0 + i.toNat * 2 + 1) (V.bool false)))).length).ble
                                9223372036854775807 then
                            bif o.length.beq (o.length * 1) then
                              bif (o.length + 1).ble 9223372036854775807 && ((o.length + 1) * 8).ble 140737488355328 then
                                R Exit.normal
                                  [some (V.slice 0 0 n false 0 0), some (V.int IntKind.i64 at_), some (V.bool false),
                                    some
                                      (V.str
                                        (s ++
                                          putB (intOfV (la.getD (0 + i.toNat * 2 + 0) (V.bool false)))
                                            (strOfV (la.getD (0 + i.toNat * 2 + 1) (V.bool false))))),
                                    some (V.slice 3 0 (o.length + 1) false 0 0),
                                    some (V.int IntKind.i64 (IntKind.i64.wrap (i + 1)))]
                                  [Blk.ro false la, Blk.dead,
                                    Blk.row
                                      [V.int IntKind.i64
                                          (↑(s ++
                                                  putB (intOfV (la.getD (0 + i.toNat * 2 + 0) (V.bool false)))
                                                    (strOfV (la.getD (0 + i.toNat * 2 + 1) (V.bool false)))).length :
                                            Int)]
                                      3 1,
                                    Blk.row
                                      (o ++
                                        [V.int IntKind.i64
                                            (↑(s ++
                                                    putB (intOfV (la.getD (0 + i.toNat * 2 + 0) (V.bool false)))
                                                      (strOfV (la.getD (0 + i.toNat * 2 + 1) (V.bool false)))).length :
                                              Int)])
                                      3 1]
                              else False
                            else False
                          else False
                      else False
                    else False
                  else False
              else False
            else False
          else False
        else False
      else False
    else
      R (Exit.exit 0)
        [some (V.slice 0 0 n false 0 0), some (V.int IntKind.i64 at_), some (V.bool false), some (V.str s),
          some (V.slice 1 0 o.length false 0 0), some (V.int IntKind.i64 i)]
        [Blk.ro false la, Blk.row o 3 1]) := by kernel_rfl
theorem en_round (la : List V) (n : Nat) (at_ : Int) (s : List UInt8) (o : List V) (w : Bool) (i : Int) (R : Exit → List (Option V) → St → Prop) : roundW Try.prog TR 9 10 (rounds 9) 8 16378 [1,4,5,6,12,13] [.int .i64 at_, .bool false, .str s, .slice 1 0 o.length false 0 0, .bool w, .int .i64 i] [.ro false la, .row o 3 1] R =
   (
    bif decide (i < (↑o.length : Int)) then
      bif w then
        R Exit.normal
          [some (V.int IntKind.i64 at_), some (V.bool false), some (V.str s), some (V.slice 1 0 o.length false 0 0),
            some (V.bool true), some (V.int IntKind.i64 (IntKind.i64.wrap (i + 1)))]
          [Blk.ro false la, Blk.row o 3 1]
      else
        bif decide (0 ≤ i) && decide (i < (↑o.length : Int)) then
          bif (0 + i.toNat * 1).blt o.length then
            bif isIntV IntKind.i64 (o.getD (0 + i.toNat * 1) (V.bool false)) then
              R Exit.normal
                [some (V.int IntKind.i64 at_), some (V.bool false), some (V.str s), some (V.slice 1 0 o.length false 0 0),
                  some (V.bool (intOfV (o.getD (0 + i.toNat * 1) (V.bool false)) == at_)),
                  some (V.int IntKind.i64 (IntKind.i64.wrap (i + 1)))]
                [Blk.ro false la, Blk.row o 3 1]
            else False
          else False
        else False
    else
      R (Exit.exit 2)
        [some (V.int IntKind.i64 at_), some (V.bool false), some (V.str s), some (V.slice 1 0 o.length false 0 0),
          some (V.bool w), some (V.int IntKind.i64 i)]
        [Blk.ro false la, Blk.row o 3 1]) := by kernel_rfl
def catP : List IT → List UInt8
  | [] => []
  | x :: r => putB x.1 x.2 ++ catP r
theorem catP_app : ∀ (a b : List IT), catP (a ++ b) = catP a ++ catP b
  | [], b => rfl
  | x :: r, b => by simp only [List.cons_append, catP, catP_app r b, List.append_assoc]
def endsI (L : List IT) (k : Nat) : List V := (List.range k).map fun j => V.int .i64 ((catP (L.take (j + 1))).length : Int)
theorem endsI_len (L : List IT) (k : Nat) : (endsI L k).length = k := by simp [endsI]
theorem endsI_succ (L : List IT) (k : Nat) : endsI L (k + 1) = endsI L k ++ [V.int .i64 ((catP (L.take (k + 1))).length : Int)] := by
  simp [endsI, List.range_succ]
theorem renL_map (σ : List Nat) (f : Nat → Int) : ∀ l : List Nat, renL σ (l.map fun j => V.int .i64 (f j)) = some (l.map fun j => V.int .i64 (f j))
  | [] => rfl
  | a :: r => by simp only [List.map_cons, renL, renV, renL_map σ f r]
theorem endsI_ren (σ : List Nat) (L : List IT) (k : Nat) : renL σ (endsI L k) = some (endsI L k) := renL_map σ _ _
def goodX (x : IT) : Prop := putE x.1 x.2 = 0 ∧ ¬ x.2.length > 2000
theorem catP_len : ∀ (L : List IT), (∀ x ∈ L, goodX x) → (catP L).length ≤ L.length * 2004
  | [], _ => by simp [catP]
  | x :: r, h => by
    have ih := catP_len r fun y hy => h y (List.mem_cons_of_mem _ hy)
    have hx := (h x List.mem_cons_self).2
    have hp := putB_len x.1 x.2
    simp only [catP, List.length_append, List.length_cons]
    omega
theorem take_snoc {L : List IT} {i : Nat} (h : i < L.length) : L.take (i + 1) = L.take i ++ [L.getD i (0, [])] := by
  rw [List.take_add_one, List.getElem?_eq_getElem h, Option.toList_some, List.getD_eq_getElem?_getD, List.getElem?_eq_getElem h, Option.getD_some]
structure RW where
  la : List V
  n : Nat
  at_ : Int
  s : List UInt8
  o : List V
  i : Nat
structure RowOk (L : List IT) (x : RW) : Prop where
  la : x.la = cellsI L
  n : x.n = L.length
  i : x.i ≤ L.length
  s : x.s = catP (L.take x.i)
  o : x.o = endsI L x.i
  good : ∀ y ∈ L.take x.i, goodX y
  tags : ∀ y ∈ L, okTag y.1 = true
  few : L.length ≤ 80
noncomputable def rwPre (x : RW) : Bool := @decide (∃ L, RowOk L x) (Classical.propDecidable _)
theorem rwPre_spec {x : RW} : rwPre x = true ↔ ∃ L, RowOk L x := by unfold rwPre; simp
def rwSl (o : List V) : V := match o with
  | [] => .nilSlice
  | h :: t => .slice 1 0 (h :: t).length false 0 0
def rwRw (o : List V) : St := match o with
  | [] => []
  | h :: t => [.row (h :: t) 3 1]
def rwV (x : RW) : List V := [.slice 0 0 x.n false 0 0, .int .i64 x.at_, .bool false, .str x.s, rwSl x.o, .int .i64 x.i]
def rwJ (x : RW) : St := .ro false x.la :: rwRw x.o
def rwMu (x : RW) : Nat := x.n - x.i
def rwEnd (x : RW) (s : List UInt8) (o : List V) : Prop := ∃ L, x.la = cellsI L ∧ x.n = L.length ∧ s = catP L ∧ o = endsI L L.length ∧ (∀ y ∈ L, goodX y) ∧ (∀ y ∈ L, okTag y.1 = true)
def rwOut : Asks RW := fun x K =>
  (∀ (s : List UInt8) (i : Int), K .ret [.slice 0 0 x.n false 0 0, .int .i64 x.at_, .bool true, .str s, .nilSlice, .int .i64 i] [.ro false x.la]) ∧
  (∀ (s : List UInt8) (o : List V) (i : Int), K .ret [.slice 0 0 x.n false 0 0, .int .i64 x.at_, .bool true, .str s, .slice 1 0 o.length false 0 0, .int .i64 i] [.ro false x.la, .row o 3 1]) ∧
  (∀ s : List UInt8, rwEnd x s [] → K (.exit 0) [.slice 0 0 x.n false 0 0, .int .i64 x.at_, .bool false, .str s, .nilSlice, .int .i64 x.n] [.ro false x.la]) ∧
  (∀ (s : List UInt8) (o : List V), rwEnd x s o → o ≠ [] → K (.exit 0) [.slice 0 0 x.n false 0 0, .int .i64 x.at_, .bool false, .str s, .slice 1 0 o.length false 0 0, .int .i64 x.n] [.ro false x.la, .row o 3 1])
theorem rw_fits0 (L : List IT) (n : Nat) (at_ : Int) (b : Bool) (s : List UInt8) (i : Int) :
    Fits 1 [.slice 0 0 n false 0 0, .int .i64 at_, .bool b, .str s, .nilSlice, .int .i64 i] [.ro false (cellsI L)] [some (.slice 0 0 n false 0 0), some (.int .i64 at_), some (.bool b), some (.str s), some .nilSlice, some (.int .i64 i)] [.ro false (cellsI L)] :=
  ⟨[0], [.slice 0 0 n false 0 0, .int .i64 at_, .bool b, .str s, .nilSlice, .int .i64 i], rfl, rfl, FitsM.of ⟨.inr ⟨.ro false (cellsI L), .inl (by simp only [renB, cellsI_ren]), rfl⟩, trivial⟩, by simp, fun i hi => by
    match i, hi with
    | 0, _ => rfl⟩
theorem rw_fits1 (L : List IT) (n : Nat) (at_ : Int) (b : Bool) (s : List UInt8) (k m : Nat) (i : Int) (c : Nat) (hc : 1 ≤ c) (st : St) (h0 : st[0]? = some (.ro false (cellsI L))) (h1 : st[c]? = some (.row (endsI L k) 3 1)) :
    Fits 1 [.slice 0 0 n false 0 0, .int .i64 at_, .bool b, .str s, .slice 1 0 m false 0 0, .int .i64 i] [.ro false (cellsI L), .row (endsI L k) 3 1] [some (.slice 0 0 n false 0 0), some (.int .i64 at_), some (.bool b), some (.str s), some (.slice c 0 m false 0 0), some (.int .i64 i)] st :=
  ⟨[0, c], [.slice 0 0 n false 0 0, .int .i64 at_, .bool b, .str s, .slice c 0 m false 0 0, .int .i64 i], rfl, rfl, FitsM.of ⟨.inr ⟨.ro false (cellsI L), .inl (by simp only [renB, cellsI_ren]), h0⟩, .inr ⟨.row (endsI L k) 3 1, .inl (by simp only [renB, endsI_ren]), h1⟩, trivial⟩, by simp; omega, fun i hi => by
    match i, hi with
    | 0, _ => rfl⟩
theorem rwSl_succ (L : List IT) (k : Nat) : rwSl (endsI L (k + 1)) = .slice 1 0 (k + 1) false 0 0 := by
  have h := endsI_len L (k + 1)
  cases he : endsI L (k + 1) with
  | nil => rw [he] at h; simp at h
  | cons a t => rw [he] at h; show V.slice 1 0 (a :: t).length false 0 0 = _; rw [h]
theorem rwRw_succ (L : List IT) (k : Nat) : rwRw (endsI L (k + 1)) = [.row (endsI L (k + 1)) 3 1] := by
  have h := endsI_len L (k + 1)
  cases he : endsI L (k + 1) with
  | nil => rw [he] at h; simp at h
  | cons a t => rfl
theorem rw_roundOk (x : RW) (hx : rwPre x = true) : roundW Try.prog TR 9 10 (rounds 9) 8 250 [0,1,4,5,6,7] (rwV x) (rwJ x) (RoundOkA 1 rwPre rwV rwJ rwMu rwOut x) := by
  have hE := rwPre_spec.1 hx
  have hL := Classical.choose_spec hE
  generalize Classical.choose hE = L at hL
  clear hE hx
  obtain ⟨la, n, at_, s, o, i⟩ := x
  have q1 : la = cellsI L := hL.la
  have q2 : n = L.length := hL.n
  have q3 : i ≤ L.length := hL.i
  have q4 : s = catP (L.take i) := hL.s
  have q5 : o = endsI L i := hL.o
  have q6 : ∀ y ∈ L.take i, goodX y := hL.good
  have q7 := hL.tags
  have q8 := hL.few
  clear hL
  subst q1 q2 q4 q5
  have hlen := cellsI_len L
  have hcat := catP_len (L.take i) q6
  have htl : (L.take i).length ≤ 80 := by rw [List.length_take]; omega
  -- what a round comes to, if there is one more
  have more : i < L.length → goodX (L.getD i (0, [])) → rwPre ⟨cellsI L, L.length, at_, catP (L.take (i + 1)), endsI L (i + 1), i + 1⟩ = true := by
    intro h hg
    refine rwPre_spec.2 ⟨L, ⟨rfl, rfl, h, rfl, rfl, ?_, q7, q8⟩⟩
    show ∀ y ∈ L.take (i + 1), goodX y
    rw [take_snoc h]
    intro y hy
    rcases List.mem_append.1 hy with hy | hy
    · exact q6 y hy
    · rw [List.mem_singleton.1 hy]; exact hg
  have hsn : i < L.length → catP (L.take i) ++ putB (L.getD i (0, [])).1 (L.getD i (0, [])).2 = catP (L.take (i + 1)) := by
    intro h
    rw [take_snoc h, catP_app]
    simp [catP]
  have tag : i < L.length → okTag (L.getD i (0, [])).1 = true := by
    intro h
    rw [List.getD_eq_getElem?_getD, List.getElem?_eq_getElem h, Option.getD_some]
    exact q7 _ (List.getElem_mem h)
  have fin : i = L.length → rwEnd ⟨cellsI L, L.length, at_, catP (L.take i), endsI L i, i⟩ (catP L) (endsI L L.length) := by
    intro h
    refine ⟨L, rfl, rfl, rfl, rfl, ?_, q7⟩
    intro y hy
    exact q6 y (by rw [h, List.take_length]; exact hy)
  cases i with
  | zero =>
    show roundW Try.prog TR 9 10 (rounds 9) 8 250 [0,1,4,5,6,7] [.slice 0 0 L.length false 0 0, .int .i64 at_, .bool false, .str (catP (L.take 0)), .nilSlice, .int .i64 ((0 : Nat) : Int)] [.ro false (cellsI L)] _
    rw [rw_round0]
    cases hb : decide (((0 : Nat) : Int) < L.length) with
    | true =>
      have h := of_decide_eq_true hb
      have hi : 0 < L.length := by omega
      have g := cellsI_get L 0 hi
      have c1 : decide ((0 : Int) ≤ ((0 : Nat) : Int)) = true := rfl
      have c2 : (0 + 0 * 2 + 2).ble (cellsI L).length = true := Nat.ble_eq_true_of_le (by omega)
      have c3 : (0 + 0 * 2 + 1).blt (cellsI L).length = true := Nat.ble_eq_true_of_le (by omega)
      have e1 : IntKind.i64.wrap (((0 : Nat) : Int) + 1) = ((0 + 1 : Nat) : Int) := by rw [IntWalk.i64_in _ ⟨by omega, by omega⟩]; omega
      rw [Int.toNat_natCast, g.1, g.2, c1, c2, c3, e1]
      simp only [isIntV, isStrV, intOfV, strOfV, decide_true, Bool.true_and, cond_true, tag hi, hsn hi]
      refine bif_intro (fun h1 => ?_) (fun h1 => bif_intro (fun h2 => ?_) (fun h2 => must_intro ?_ ?_))
      · exact ⟨_, _, fun K hK => hK.1 _ _, rw_fits0 L L.length at_ true _ _⟩
      · exact ⟨_, _, fun K hK => hK.1 _ _, rw_fits0 L L.length at_ true _ _⟩
      · have hp := putB_len (L.getD 0 (0, [])).1 (L.getD 0 (0, [])).2
        have h2 := of_decide_eq_false h2
        exact Nat.ble_eq_true_of_le (by omega)
      · have hg : goodX (L.getD 0 (0, [])) := ⟨by simpa using h1, by have := of_decide_eq_false h2; omega⟩
        refine ⟨⟨cellsI L, L.length, at_, catP (L.take (0 + 1)), endsI L (0 + 1), 0 + 1⟩, more hi hg, ?_, by simp only [rwMu]; omega, fun K hK => hK⟩
        show Fits 1 [.slice 0 0 L.length false 0 0, .int .i64 at_, .bool false, .str (catP (L.take (0 + 1))), .slice 1 0 1 false 0 0, .int .i64 ((0 + 1 : Nat) : Int)] [.ro false (cellsI L), .row (endsI L 1) 3 1] _ _
        exact rw_fits1 L L.length at_ false _ 1 1 _ 2 (by omega) _ rfl rfl
    | false =>
      have h := of_decide_eq_false hb
      have hl : 0 = L.length := by omega
      rw [cond_false]
      have e : catP (L.take 0) = catP L := by rw [List.eq_nil_of_length_eq_zero hl.symm]; rfl
      have e2 : endsI L L.length = [] := by rw [← hl]; rfl
      have e3 : (((0 : Nat) : Int)) = (L.length : Int) := by omega
      have hf := fin hl
      rw [e2] at hf
      rw [e, e3]
      exact ⟨_, _, fun K hK => hK.2.2.1 _ hf, rw_fits0 L L.length at_ false _ _⟩
  | succ i =>
    show roundW Try.prog TR 9 10 (rounds 9) 8 250 [0,1,4,5,6,7] [.slice 0 0 L.length false 0 0, .int .i64 at_, .bool false, .str (catP (L.take (i + 1))), rwSl (endsI L (i + 1)), .int .i64 ((i + 1 : Nat) : Int)] (.ro false (cellsI L) :: rwRw (endsI L (i + 1))) _
    have el := endsI_len L (i + 1)
    have es : rwSl (endsI L (i + 1)) = .slice 1 0 (endsI L (i + 1)).length false 0 0 := by rw [rwSl_succ, el]
    rw [es, rwRw_succ, rw_round1]
    cases hb : decide (((i + 1 : Nat) : Int) < L.length) with
    | true =>
      have h := of_decide_eq_true hb
      have hi : i + 1 < L.length := by omega
      have g := cellsI_get L (i + 1) hi
      have c1 : decide ((0 : Int) ≤ ((i + 1 : Nat) : Int)) = true := decide_eq_true (by omega)
      have c2 : (0 + (i + 1) * 2 + 2).ble (cellsI L).length = true := Nat.ble_eq_true_of_le (by omega)
      have c3 : (0 + (i + 1) * 2 + 1).blt (cellsI L).length = true := Nat.ble_eq_true_of_le (by omega)
      have e1 : IntKind.i64.wrap (((i + 1 : Nat) : Int) + 1) = ((i + 1 + 1 : Nat) : Int) := by rw [IntWalk.i64_in _ ⟨by omega, by omega⟩]; omega
      rw [Int.toNat_natCast, g.1, g.2, c1, c2, c3, e1]
      simp only [isIntV, isStrV, intOfV, strOfV, decide_true, Bool.true_and, cond_true, tag hi, hsn hi]
      refine bif_intro (fun h1 => ?_) (fun h1 => bif_intro (fun h2 => ?_) (fun h2 => must_intro ?_ (must_intro ?_ (must_intro ?_ ?_))))
      · exact ⟨_, _, fun K hK => hK.2.1 _ _ _, rw_fits1 L L.length at_ true _ (i + 1) _ _ 1 (by omega) _ rfl rfl⟩
      · exact ⟨_, _, fun K hK => hK.2.1 _ _ _, rw_fits1 L L.length at_ true _ (i + 1) _ _ 1 (by omega) _ rfl rfl⟩
      · have hp := putB_len (L.getD (i + 1) (0, [])).1 (L.getD (i + 1) (0, [])).2
        have h2 := of_decide_eq_false h2
        exact Nat.ble_eq_true_of_le (by omega)
      · rw [Nat.mul_one]; exact Nat.beq_refl _
      · rw [Bool.and_eq_true, el]
        exact ⟨Nat.ble_eq_true_of_le (by omega), Nat.ble_eq_true_of_le (by omega)⟩
      · have hg : goodX (L.getD (i + 1) (0, [])) := ⟨by simpa using h1, by have := of_decide_eq_false h2; omega⟩
        have e2 := endsI_succ L (i + 1)
        rw [← e2, el]
        refine ⟨⟨cellsI L, L.length, at_, catP (L.take (i + 1 + 1)), endsI L (i + 1 + 1), i + 1 + 1⟩, more hi hg, ?_, by simp only [rwMu]; omega, fun K hK => hK⟩
        show Fits 1 [.slice 0 0 L.length false 0 0, .int .i64 at_, .bool false, .str (catP (L.take (i + 1 + 1))), rwSl (endsI L (i + 1 + 1)), .int .i64 ((i + 1 + 1 : Nat) : Int)] (.ro false (cellsI L) :: rwRw (endsI L (i + 1 + 1))) _ _
        rw [rwSl_succ, rwRw_succ]
        exact rw_fits1 L L.length at_ false _ (i + 1 + 1) (i + 1 + 1) _ 3 (by omega) _ rfl rfl
    | false =>
      have h := of_decide_eq_false hb
      have hl : i + 1 = L.length := by omega
      rw [cond_false]
      have hf := fin hl
      rw [hl, List.take_length]
      refine ⟨_, _, fun K hK => hK.2.2.2 _ _ hf (fun e => ?_), rw_fits1 L L.length at_ false _ L.length _ _ 1 (by omega) _ rfl rfl⟩
      have := endsI_len L L.length
      rw [e] at this
      simp at this
      omega
/-! ### whether it is cut at an end -/
structure EN where
  la : List V
  at_ : Int
  s : List UInt8
  o : List V
  w : Bool
  i : Nat
def anyE (at_ : Int) (o : List V) (w : Bool) (i : Nat) : Bool := w || (o.drop i).any fun v => intOfV v == at_
structure EnOk (L : List IT) (k : Nat) (x : EN) : Prop where
  la : x.la = cellsI L
  o : x.o = endsI L k
  few : k ≤ 80
  i : x.i ≤ k
noncomputable def enPre (x : EN) : Bool := @decide (∃ L k, EnOk L k x) (Classical.propDecidable _)
theorem enPre_spec {x : EN} : enPre x = true ↔ ∃ L k, EnOk L k x := by unfold enPre; simp
def enV (x : EN) : List V := [.int .i64 x.at_, .bool false, .str x.s, .slice 1 0 x.o.length false 0 0, .bool x.w, .int .i64 x.i]
def enJ (x : EN) : St := [.ro false x.la, .row x.o 3 1]
def enMu (x : EN) : Nat := x.o.length - x.i
def enOut : Asks EN := fun x K => K (.exit 2) [.int .i64 x.at_, .bool false, .str x.s, .slice 1 0 x.o.length false 0 0, .bool (anyE x.at_ x.o x.w x.i), .int .i64 x.o.length] [.ro false x.la, .row x.o 3 1]
theorem en_fits (L : List IT) (k : Nat) (at_ : Int) (s : List UInt8) (w : Bool) (m : Nat) (i : Int) (H : St) :
    Fits 1 [.int .i64 at_, .bool false, .str s, .slice 1 0 m false 0 0, .bool w, .int .i64 i] [.ro false (cellsI L), .row (endsI L k) 3 1] [some (.int .i64 at_), some (.bool false), some (.str s), some (.slice 1 0 m false 0 0), some (.bool w), some (.int .i64 i)] (.ro false (cellsI L) :: .row (endsI L k) 3 1 :: H) :=
  ⟨[0, 1], [.int .i64 at_, .bool false, .str s, .slice 1 0 m false 0 0, .bool w, .int .i64 i], rfl, rfl, FitsM.of ⟨.inr ⟨.ro false (cellsI L), .inl (by simp only [renB, cellsI_ren]), rfl⟩, .inr ⟨.row (endsI L k) 3 1, .inl (by simp only [renB, endsI_ren]), rfl⟩, trivial⟩, by simp, fun i hi => by
    match i, hi with
    | 0, _ => rfl⟩
theorem endsI_get (L : List IT) {k i : Nat} (h : i < k) : (endsI L k).getD (0 + i * 1) (.bool false) = .int .i64 ((catP (L.take (i + 1))).length : Int) := by
  rw [Nat.zero_add, Nat.mul_one, List.getD_eq_getElem?_getD]
  simp [endsI, h]
theorem any_step {at_ : Int} {o : List V} {w : Bool} {i : Nat} (h : i < o.length) : anyE at_ o w i = anyE at_ o (w || intOfV (o.getD i (.bool false)) == at_) (i + 1) := by
  unfold anyE
  rw [List.drop_eq_getElem_cons h, List.any_cons, List.getD_eq_getElem?_getD, List.getElem?_eq_getElem h, Option.getD_some, Bool.or_assoc]
theorem en_roundOk (x : EN) (hx : enPre x = true) : roundW Try.prog TR 9 10 (rounds 9) 8 16378 [1,4,5,6,12,13] (enV x) (enJ x) (RoundOkA 1 enPre enV enJ enMu enOut x) := by
  have hE := enPre_spec.1 hx
  have hL := Classical.choose_spec hE
  generalize Classical.choose hE = L at hL
  have hK := Classical.choose_spec hL
  generalize Classical.choose hL = k at hK
  clear hE hx hL
  obtain ⟨la, at_, s, o, w, i⟩ := x
  have q1 : la = cellsI L := hK.la
  have q2 : o = endsI L k := hK.o
  have q3 := hK.few
  have q4 : i ≤ k := hK.i
  clear hK
  subst q1 q2
  have el := endsI_len L k
  have pre2 : ∀ w', i + 1 ≤ k → enPre ⟨cellsI L, at_, s, endsI L k, w', i + 1⟩ = true := fun w' h => enPre_spec.2 ⟨L, k, ⟨rfl, rfl, q3, h⟩⟩
  show roundW Try.prog TR 9 10 (rounds 9) 8 16378 [1,4,5,6,12,13] [.int .i64 at_, .bool false, .str s, .slice 1 0 (endsI L k).length false 0 0, .bool w, .int .i64 i] [.ro false (cellsI L), .row (endsI L k) 3 1] _
  rw [en_round (n := 0)]
  cases hb : decide ((i : Int) < (endsI L k).length) with
  | true =>
    have h := of_decide_eq_true hb
    have hi : i < k := by omega
    have e1 : IntKind.i64.wrap ((i : Int) + 1) = ((i + 1 : Nat) : Int) := by rw [IntWalk.i64_in _ ⟨by omega, by omega⟩]; omega
    have hs := any_step (at_ := at_) (o := endsI L k) (w := w) (i := i) (by omega)
    have g := endsI_get L hi
    have g2 : (endsI L k).getD i (.bool false) = .int .i64 ((catP (L.take (i + 1))).length : Int) := by
      have := g; rwa [Nat.zero_add, Nat.mul_one] at this
    rw [cond_true, e1]
    cases w with
    | true =>
      rw [cond_true]
      refine ⟨⟨cellsI L, at_, s, endsI L k, true, i + 1⟩, pre2 _ hi, en_fits L k at_ s true _ _ [], by simp only [enMu]; omega, fun K hK => ?_⟩
      rw [Bool.true_or] at hs
      have hK : K _ _ _ := hK
      rw [hs] at hK
      exact hK
    | false =>
      have c1 : decide ((0 : Int) ≤ (i : Int)) = true := decide_eq_true (by omega)
      have c2 : (0 + i * 1).blt (endsI L k).length = true := Nat.ble_eq_true_of_le (by omega)
      rw [cond_false, Int.toNat_natCast, c1, c2, g]
      simp only [isIntV, intOfV, decide_true, Bool.and_self, cond_true]
      refine ⟨⟨cellsI L, at_, s, endsI L k, ((catP (L.take (i + 1))).length : Int) == at_, i + 1⟩, pre2 _ hi, en_fits L k at_ s _ _ _ [], by simp only [enMu]; omega, fun K hK => ?_⟩
      rw [Bool.false_or, g2] at hs
      have hK : K _ _ _ := hK
      rw [hs] at hK
      exact hK
  | false =>
    have h := of_decide_eq_false hb
    have hi : i = k := by omega
    rw [cond_false]
    refine ⟨_, _, fun K hK => hK, ?_⟩
    have e : anyE at_ (endsI L k) w i = w := by
      unfold anyE
      rw [List.drop_eq_nil_of_le (by omega)]
      simp
    rw [e, show ((i : Nat) : Int) = ((endsI L k).length : Int) by omega]
    exact en_fits L k at_ s w _ _ []
end Go.Proofs.Ytpjopdemhkcifaa
