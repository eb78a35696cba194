/- tlsa.Any: what it comes to. -/
import Derived.Test.YthcoeoibejgaiaaGreatDoorAnyC
namespace Go.Proofs.YthcoeoibejgaiaaGreatDoor
open Go Go.Vm Go.RowKit
set_option linter.unusedVariables false
set_option maxRecDepth 100000
set_option linter.unusedSectionVars false
theorem func3 {Φ Ψ : Frz} {m m' : List MB} {fn : Fn} {v1 v2 v3 : V} {x : Value} (h : @real _ Φ m (.func fn [] [v1, v2, v3]) = some x) : ∃ y1 y2 y3, @real _ Φ m v1 = some y1 ∧ @real _ Φ m v2 = some y2 ∧ @real _ Φ m v3 = some y3 ∧
  ∀ u1 u2 u3, @real _ Ψ m' u1 = some y1 → @real _ Ψ m' u2 = some y2 → @real _ Ψ m' u3 = some y3 → @real _ Ψ m' (.func fn [] [u1, u2, u3]) = some x := by
 cases h1 : @real _ Φ m v1 with
 | none => simp [real, realL, h1] at h
 | some y1 =>
 cases h2 : @real _ Φ m v2 with
 | none => simp [real, realL, h1, h2] at h
 | some y2 =>
 cases h3 : @real _ Φ m v3 with
 | none => simp [real, realL, h1, h2, h3] at h
 | some y3 =>
 refine ⟨y1, y2, y3, rfl, rfl, rfl, fun u1 u2 u3 k1 k2 k3 => ?_⟩
 simp only [real, realL, h1, h2, h3] at h
 simp only [real, realL, k1, k2, k3]
 exact h
variable [Φ : Frz]
def anyOK (p : V) (k : Nat) (ds : List V) (st : St) : Bool := match viewT st p with
 | some (c, l) => c && (okS k ds && (l.all inU && Nat.ble l.length 9223372036854775807))
 | none => false
def anyW (p : V) (ds : List V) (h : List UInt8) (now : Int) (st : St) : Bool := match viewT st p with
 | some (_, l) => anyC l (ds.map strOfV) h now
 | none => false
def anyFV (OK : V → Nat → List V → St → Bool) (AV : V → List V → List UInt8 → Int → St → Bool) : List V → St → Option (List (Bool × (V × St)))
 | [p, .func (.func 39) [] [.ptr b1 0, .ptr b2 0, .ptr b3 0]], st => match st[b1]?, st[b2]?, st[b3]? with
  | some (.row [.lst _ k ds] _ _), some (.row [.str h] _ _), some (.row [.int .i64 now] _ _) => some [(OK p k ds st, (.bool (AV p ds h now st), st))]
  | _, _, _ => none
 | _, _ => none
theorem anyFV_ok (args : List V) (s : St) (L : List (Bool × (V × St))) (o : V × St) (h : anyFV anyOK anyW args s = some L) (ho : pickO L = some o) : FnSat Tryz.prog 38 args s (Is o) := by
 unfold anyFV at h
 split at h
 ·rename_i p b1 b2 b3
  split at h
  ·rename_i q k ds t1 s1 hh t2 s2 now t3 s3 hb1 hb2 hb3
   cases h
   obtain ⟨hk, rfl⟩ := pickO_one ho
   unfold anyOK at hk
   unfold anyW
   cases hv : viewT s p with
   | none => rw [hv] at hk; cases hk
   | some a =>
   obtain ⟨c, l⟩ := a
   rw [hv] at hk
   simp only [Bool.and_eq_true] at hk
   obtain ⟨rfl, h1, h2, h3⟩ := hk
   refine frz_sat rfl fun B W0 w m rargs hr ha => ?_
   obtain ⟨a, r, q1, q2, rfl⟩ := realL_cons ha
   obtain ⟨a2, r2, q3, q4, rfl⟩ := realL_cons q2
   simp only [realL, Option.some.injEq] at q4
   subst q4
   have e2 := viewT_ok hr hv q1
   obtain ⟨x1, x2, x3, f1, f2, f3, hf⟩ := func3 (Ψ := Frz.of w) (m' := []) q3
   obtain ⟨y1, g1⟩ := ptr_frz hr hb1 rfl f1
   obtain ⟨y2, g2⟩ := ptr_frz hr hb2 rfl f2
   obtain ⟨y3, g3⟩ := ptr_frz hr hb3 rfl f3
   have hl : l.length ≤ 9223372036854775807 := Nat.le_of_ble_eq_true h3
   have := @ay_sat (Frz.of w) a l.length (tls l) y1 q k ds y2 hh y3 now (okT_mk hl) h1 (by rw [tlD_tls]; exact h2)
   rw [tlD_tls] at this
   exact ⟨[lstT a l, .func (.func 39) [] [.lptr y1 1 [.lst q k ds] 0, .lptr y2 1 [.str hh] 0, .lptr y3 1 [.int .i64 now] 0]], @realL_mk _ (Frz.of w) [] _ _ _ _ e2 (@realL_mk _ (Frz.of w) [] _ _ _ _ (hf _ _ _ g1 g2 g3) rfl), this⟩
  ·cases h
 ·cases h
noncomputable def AG (OK : V → Nat → List V → St → Bool) (AV : V → List V → List UInt8 → Int → St → Bool) : Tab := ⟨addT noT 13 usaT, addS noL 38 (anyFV OK AV), noLks 9⟩
theorem AG_ok : TabOk3 Tryz.prog (AG anyOK anyW) := ⟨addT_ok noT_ok usa_ok, addS_ok noL_ok anyFV_ok, noLks_ok 9⟩
theorem any_tree (OK : V → Nat → List V → St → Bool) (AV : V → List V → List UInt8 → Int → St → Bool) (x : Value) (n : Nat) (cs : List V) (p : Value) (k : Nat) (ds : List V) (h : List UInt8) (now : Int) (R : V → Prop) : runW Tryz.prog (AG OK AV) 9 10 11 [.lst x n cs, .lst p k ds, .str h, .int .i64 now] R =
  (
 bif okT n cs && nilX (sliceX x 0 (k4 n) 4) then bif OK V.nilSlice k ds [Blk.row [V.lst p k ds] 25 1, Blk.row [V.str h] 9 1, Blk.row [V.int IntKind.i64 now] 3 1] then R
 (V.bool (AV V.nilSlice ds h now [Blk.row [V.lst p k ds] 25 1, Blk.row [V.str h] 9 1, Blk.row [V.int IntKind.i64 now] 3 1])) else False else bif okT n cs then bif OK
 (V.slice 3 0 (goodQ (usaL cs)).length false 0 0) k ds [Blk.row [V.lst p k ds] 25 1, Blk.row [V.str h] 9 1, Blk.row [V.int IntKind.i64 now] 3 1, Blk.row (shiftL 3 (tls
 (goodQ (usaL cs)) ++ zerosQ (usaL cs))) 24 4] then R (V.bool (AV (V.slice 3 0 (goodQ (usaL cs)).length false 0 0) ds h now [Blk.row [V.lst p k ds] 25 1, Blk.row [V.str h]
 9 1, Blk.row [V.int IntKind.i64 now] 3 1, Blk.row (shiftL 3 (tls (goodQ (usaL cs)) ++ zerosQ (usaL cs))) 24 4])) else False else False) := by kernel_rfl
theorem shA (k : Nat) : ∀ a b : List V, shiftL k (a ++ b) = shiftL k a ++ shiftL k b
 | [], b => rfl
 | v :: r, b => by simp only [List.cons_append, shiftL, shA k r b]
theorem shT (k : Nat) : ∀ l : List TL, shiftL k (tls l) = tls l
 | [] => rfl
 | r :: l => by simp only [tls, shiftL, V.shift, shT k l]
theorem shZ (k : Nat) : ∀ q : List TL, shiftL k (zerosQ q) = zerosQ q
 | [] => rfl
 | r :: l => by
  rw [zerosQ]
  cases usB r.u r.s r.m r.d with
  | true => exact shZ k l
  | false => simp only [cond_false, shiftL, V.shift, shZ k l]
theorem view_tls {st : St} {b : Nat} {l : List TL} {z : List V} (hb : (∃ t sz, st[b]? = some (.row (tls l ++ z) t sz)) ∨ ∃ o, st[b]? = some (.ro o (tls l ++ z))) (ex : Bool) (c zz : Nat) : viewT st (.slice b 0 l.length ex c zz) = some (true, l) := by
 have ht : List.take (l.length * 4) (tls l ++ z) = tls l := by
  rw [List.take_append_of_le_length (by rw [tls_len]; omega)]; exact List.take_of_length_le (by rw [tls_len]; omega)
 have hle : (0 + l.length * 4).ble (tls l ++ z).length = true := Nat.ble_eq_true_of_le (by rw [List.length_append, tls_len]; omega)
 have hv : viewC st 4 (.slice b 0 l.length ex c zz) = some (true, (l.length, tls l)) := by
  rcases hb with ⟨t, sz, hb⟩ | ⟨o, hb⟩ <;> simp only [viewC, hb, hle, List.drop_zero, ht]
 unfold viewT
 rw [hv]
 simp only [isTl_tls, tlD_tls, Nat.beq_refl, Bool.and_self]
theorem good_sub {p : TL → Bool} : ∀ q : List TL, q.all p = true → (goodQ q).all p = true
 | [], _ => rfl
 | r :: l, h => by
  rw [List.all_cons, Bool.and_eq_true] at h
  rw [goodQ]
  cases usB r.u r.s r.m r.d with
  | true => rw [cond_true, List.all_cons, h.1, good_sub l h.2]; rfl
  | false => exact good_sub l h.2
theorem good_len : ∀ q : List TL, (goodQ q).length ≤ q.length
 | [] => Nat.le_refl _
 | r :: l => by
  have := good_len l
  rw [goodQ]
  cases usB r.u r.s r.m r.d with
  | true => simpa using this
  | false => rw [cond_false, List.length_cons]; omega
theorem take_all {α : Type} {p : α → Bool} {l : List α} (n : Nat) (h : l.all p = true) : (l.take n).all p = true := by
 rw [List.all_eq_true] at h ⊢
 exact fun x hx => h x (List.mem_of_mem_take hx)
theorem nil_zero {m : List MB} {x y : Value} {n : Nat} {cs : List V} (h : real m (.lst x n cs) = some y) (hn : nilX (sliceX x 0 (k4 n) 4) = true) : n = 0 := by
 obtain ⟨xs, _, _, hk⟩ := real_lst h
 rcases hk with ⟨a, cap, rfl, rfl, _⟩ | ⟨b, off, cap, arr, t, fz, rfl, h1, h2, _⟩
 ·rfl
 ·exfalso
  unfold sliceX nilX at hn
  simp only at hn
  rw [if_neg (by omega)] at hn
  cases hn
def anyT : List V → Option (List (Bool × (V × St)))
 | [.lst _ n cs, .lst _ k ds, .str h, .int .i64 now] => some [(okT n cs && (okS k ds && (tlD cs).all inU), (.bool (anyC (goodQ (usaL cs)) (ds.map strOfV) h now), []))]
 | _ => none
theorem anyT_ok (args : List V) (L : List (Bool × (V × St))) (o : V × St) (h : anyT args = some L) (ho : pickO L = some o) : FnSat Tryz.prog 11 args [] (Is o) := by
 unfold anyT at h
 split at h
 ·rename_i x n cs p k ds hh now
  cases h
  obtain ⟨hk, rfl⟩ := pickO_one ho
  simp only [Bool.and_eq_true] at hk
  obtain ⟨h1, h2, h3⟩ := hk
  intro B W0 m w rargs hargs hr
  obtain ⟨a, r, q1, q2, e⟩ := realL_cons hargs
  refine (show FnSat Tryz.prog 11 [.lst x n cs, .lst p k ds, .str hh, .int .i64 now] [] (Is (.bool (anyC (goodQ (usaL cs)) (ds.map strOfV) hh now), [])) from ?_) B W0 m w rargs hargs hr
  refine pureW_of (lim := 9) (n := 10) mixed AG_ok rfl rfl ?_
  rw [any_tree, h1, Bool.true_and]
  refine bif_intro (fun hn => ?_) (fun _ => ?_)
  ·have n0 := nil_zero q1 hn
   subst n0
   obtain ⟨l, rfl, e0, _⟩ := okT_spec h1
   have : l = [] := List.eq_nil_of_length_eq_zero e0.symm
   subst this
   refine must_intro ?_ rfl
   show (true && (okS k ds && (([] : List TL).all inU && Nat.ble 0 9223372036854775807))) = true
   rw [h2]; rfl
  ·rw [cond_true]
   have hlen : (goodQ (usaL cs)).length ≤ 4 := by
    have := good_len (usaL cs)
    have h4 : (usaL cs).length ≤ 4 := by unfold usaL; rw [List.length_take]; omega
    omega
   have hv : viewT [Blk.row [V.lst p k ds] 25 1, Blk.row [V.str hh] 9 1, Blk.row [V.int IntKind.i64 now] 3 1, Blk.row (shiftL 3 (tls (goodQ (usaL cs)) ++ zerosQ (usaL cs))) 24 4] (V.slice 3 0 (goodQ (usaL cs)).length false 0 0) = some (true, goodQ (usaL cs)) := by
    refine view_tls (z := zerosQ (usaL cs)) (.inl ⟨24, 4, ?_⟩) false 0 0
    rw [shA, shT, shZ]; rfl
   unfold anyOK anyW
   rw [hv]
   refine must_intro ?_ rfl
   show (true && (okS k ds && ((goodQ (usaL cs)).all inU && Nat.ble (goodQ (usaL cs)).length 9223372036854775807))) = true
   have hg : (goodQ (usaL cs)).all inU = true := good_sub _ (take_all 4 h3)
   rw [h2, hg, Nat.ble_eq_true_of_le (by omega)]; rfl
 ·cases h
def anyG : List V → St → Option (List (Bool × (V × St)))
 | [p, q, .str h, .int .i64 now], st => match viewT st p, viewS st q with
  | some (b, l), some (c, r) => some [(b && (c && (l.all inU && (Nat.ble l.length 9223372036854775807 && Nat.ble r.length 9223372036854775807))), (.bool (anyC (goodQ (l.take 4)) r h now), st))]
  | _, _ => none
 | _, _ => none
theorem anyG_ok (args : List V) (s : St) (L : List (Bool × (V × St))) (o : V × St) (h : anyG args s = some L) (ho : pickO L = some o) : FnSat Tryz.prog 11 args s (Is o) := by
 unfold anyG at h
 split at h
 ·rename_i p q hh now
  split at h
  ·rename_i b l c r hv hw
   cases h
   obtain ⟨hk, rfl⟩ := pickO_one ho
   simp only [Bool.and_eq_true] at hk
   obtain ⟨rfl, rfl, h1, h2, h3⟩ := hk
   refine frz_sat rfl fun B W0 w m rargs hr ha => ?_
   obtain ⟨a, r1, q1, q2, rfl⟩ := realL_cons ha
   obtain ⟨a2, r2, q3, q4, rfl⟩ := realL_cons q2
   have e1 := viewT_ok hr hv q1
   have e2 := viewS_ok hr hw q3
   have h2 := Nat.le_of_ble_eq_true h2
   have h3 := Nat.le_of_ble_eq_true h3
   have := @anyT_ok (Frz.of w) [lstT a l, lstS a2 r, .str hh, .int .i64 now] _ (.bool (anyC (goodQ (l.take 4)) r hh now), []) (by unfold lstT lstS anyT; rfl) (by
    rw [okT_mk h2, okS_mk h3, tlD_tls, h1, strs_strOf]
    unfold usaL
    rw [tlD_tls]; rfl)
   exact ⟨[lstT a l, lstS a2 r, .str hh, .int .i64 now], @realL_mk _ (Frz.of w) [] _ _ _ _ e1 (@realL_mk _ (Frz.of w) [] _ _ _ _ e2 q4), this⟩
  ·cases h
 ·cases h
end Go.Proofs.YthcoeoibejgaiaaGreatDoor
