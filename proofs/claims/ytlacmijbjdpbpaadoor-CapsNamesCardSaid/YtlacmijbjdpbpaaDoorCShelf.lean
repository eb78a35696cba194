/- strconv.Atoi at numbers that are too great and strings.Map, by their contracts: the known calls' forms, and the contracts laid at this program. -/
import Derived.Test.YtlacmijbjdpbpaaDoorCBase
import Derived.Test.YtlacmijbjdpbpaaDoorVmc
import Derived.ProofKit
import Derived.WalkKit
import Derived.Shelf.Strconv.AtoiAll
import Derived.Shelf.Strings.MapAny
import Derived.Test.YtlacmijbjdpbpaaDoorProg
namespace Go.Vm
variable [G : Glob]
set_option linter.unusedSectionVars false
set_option linter.unusedVariables false
open Go.RowKit
/-- What strconv.Atoi is said to come to at numbers that are too great; gv: where ErrRange lies. -/
def AtoiRangeOk (P : Program) (g : FuncId) (gv : Nat) (T : TypeId) : Prop := ∀ (s : ByteArray) (ev : Value) (w : World), s.size ≤ 281474976710656 → Lib.atoiAll s.data.toList = .range → w.cell? ⟨gv, 0, none⟩ = some ev → (ev = .nilIface ∨ ∃ te pe, ev = .iface te pe) →
  Calls P g #[.string s] w fun e w' => ∃ N, e = .returned (.tuple #[.int .i64 (Lib.atoiSat s.data.toList), .iface T (.pointer (some ⟨N, 0, none⟩))]) ∧ w.heap.size ≤ N ∧ Below w.heap.size w w'
def isRange : Lib.NumEnd Int → Bool
  | .range => true
  | _ => false
theorem atoi_ent {P : Program} {g : FuncId} {gv : Nat} {T tp : TypeId} {k : Nat} (hj : AtoiRangeOk P g gv T) (hgv : gblk gv = gv ∧ goff gv = 0) (hG : G.cells gv = some [.iface tp (.gp k 0)]) {s : List UInt8} {n : Int} (h : (isRange (Lib.atoiAll s) && (Nat.ble s.length 281474976710656 && eqI (Lib.atoiSat s) n)) = true) :
    EntFOk P ⟨g, [.str s], [], .tuple [.int .i64 n, .iface T (.ptr 0 0)], [.dead]⟩ := by
  simp only [Bool.and_eq_true] at h
  obtain ⟨h1, h2, h3⟩ := h
  have h1 : Lib.atoiAll s = .range := by
    unfold isRange at h1
    split at h1
    · assumption
    · cases h1
  have h2 := Nat.le_of_ble_eq_true h2
  have h3 := eqI_ok h3
  intro B W0 m w rargs hargs hr
  have hm : m = [] := List.eq_nil_of_length_eq_zero hr.len
  subst hm
  obtain ⟨a1, r1, g1, g2, rfl⟩ := realL_cons hargs
  simp only [realL, Option.some.injEq] at g2; subst g2
  cases real_str g1
  obtain ⟨x, hx, hc⟩ := hr.gcell (i := 0) hG rfl
  rw [hgv.1, hgv.2] at hc
  have hxe : x = .iface tp (.pointer (some ⟨gblk k, goff k + 0, none⟩)) := by simpa [real] using hx.symm
  have hsz : (ByteArray.mk s.toArray).size = s.length := by show s.toArray.size = _; simp
  refine (hj ⟨s.toArray⟩ x w (by rw [hsz]; exact h2) (by simpa using h1) hc (.inr ⟨_, _, hxe⟩)).mono ?_
  rintro e w' ⟨N, rfl, hN, hb⟩
  have hl := hr.later hb
  refine ⟨.tuple [.int .i64 n, .iface T (.ptr 0 0)], _, [⟨N, 0, 0, false⟩], [.dead], rfl, fun b e hb => by simp at hb, ?_, ⟨rfl, hl.base, hl.below, fun i b e hb he => ?_, fun i j b c d e hij hb hrw hc hlv hd he => ?_, hl.glob⟩, rfl⟩
  · have h3' : Lib.atoiSat (ByteArray.mk s.toArray).data.toList = n := by simpa using h3
    rw [h3']
    simp [real, realL, at?]
  · cases i with
    | zero => simp only [List.getElem?_cons_zero, Option.some.injEq] at hb; subst hb; trivial
    | succ i => simp at hb
  · cases i with
    | zero => simp only [List.getElem?_cons_zero, Option.some.injEq] at hb; subst hb; cases hrw
    | succ i => simp at hb
end Go.Vm
namespace Go.Proofs
open Go.Shelf
def Tryd.laysC172_ren : Go.Shelf.Ren := ⟨fun | 172 => 67 | 244 => 93 | 245 => 94 | 247 => 112 | 279 => 113 | 280 => 114 | 281 => 115 | 282 => 116 | 287 => 123 | 316 => 124 | 171 => 68 | 205 => 125 | 321 => 136 | 322 => 137 | 243 => 95 | 246 => 117 | 283 => 126 | 284 => 127 | 285 => 128 | 286 => 129 | 129 => 139 | 317 => 138 | 318 => 140 | 319 => 141 | 320 => 142 | 337 => 145 | 338 => 146 | n => n, fun | 9 => 9 | 3 => 3 | 75 => 111 | 76 => 112 | 4 => 4 | 5 => 5 | 167 => 159 | 37 => 74 | 0 => 0 | 85 => 160 | 2 => 2 | 168 => 162 | 53 => 75 | 175 => 170 | 46 => 79 | 210 => 173 | 127 => 135 | 145 => 185 | 143 => 183 | 21 => 21 | 171 => 175 | 173 => 178 | 212 => 187 | 51 => 72 | 20 => 20 | 213 => 188 | 232 => 193 | 233 => 194 | 80 => 117 | n => n, fun | 15 => 4 | 16 => 5 | 17 => 6 | 18 => 7 | 19 => 8 | n => n⟩
theorem Tryd.laysC172 : Go.Proofs.LaysC.n172 Tryd.prog Tryd.laysC172_ren := {
  mixed := by kernel_rfl
  f129 := Tryd.func139.trans (congrArg some (by kernel_rfl))
  f171 := Tryd.func68.trans (congrArg some (by kernel_rfl))
  f172 := Tryd.func67.trans (congrArg some (by kernel_rfl))
  f205 := Tryd.func125.trans (congrArg some (by kernel_rfl))
  f243 := Tryd.func95.trans (congrArg some (by kernel_rfl))
  f244 := Tryd.func93.trans (congrArg some (by kernel_rfl))
  f245 := Tryd.func94.trans (congrArg some (by kernel_rfl))
  f246 := Tryd.func117.trans (congrArg some (by kernel_rfl))
  f247 := Tryd.func112.trans (congrArg some (by kernel_rfl))
  f279 := Tryd.func113.trans (congrArg some (by kernel_rfl))
  f280 := Tryd.func114.trans (congrArg some (by kernel_rfl))
  f281 := Tryd.func115.trans (congrArg some (by kernel_rfl))
  f282 := Tryd.func116.trans (congrArg some (by kernel_rfl))
  f283 := Tryd.func126.trans (congrArg some (by kernel_rfl))
  f284 := Tryd.func127.trans (congrArg some (by kernel_rfl))
  f285 := Tryd.func128.trans (congrArg some (by kernel_rfl))
  f286 := Tryd.func129.trans (congrArg some (by kernel_rfl))
  f287 := Tryd.func123.trans (congrArg some (by kernel_rfl))
  f316 := Tryd.func124.trans (congrArg some (by kernel_rfl))
  f317 := Tryd.func138.trans (congrArg some (by kernel_rfl))
  f318 := Tryd.func140.trans (congrArg some (by kernel_rfl))
  f319 := Tryd.func141.trans (congrArg some (by kernel_rfl))
  f320 := Tryd.func142.trans (congrArg some (by kernel_rfl))
  f321 := Tryd.func136.trans (congrArg some (by kernel_rfl))
  f322 := Tryd.func137.trans (congrArg some (by kernel_rfl))
  f337 := Tryd.func145.trans (congrArg some (by kernel_rfl))
  f338 := Tryd.func146.trans (congrArg some (by kernel_rfl))
  t0 := Tryd.underlying0
  a0 := Tryd.isAgg0
  z0 := Tryd.sizeOf0
  v0 := Tryd.zeroValue0
  t2 := Tryd.underlying2
  a2 := Tryd.isAgg2
  z2 := Tryd.sizeOf2
  v2 := Tryd.zeroValue2
  t3 := Tryd.underlying3
  a3 := Tryd.isAgg3
  z3 := Tryd.sizeOf3
  v3 := Tryd.zeroValue3
  t4 := Tryd.underlying4
  a4 := Tryd.isAgg4
  z4 := Tryd.sizeOf4
  v4 := Tryd.zeroValue4
  t5 := Tryd.underlying5
  a5 := Tryd.isAgg5
  z5 := Tryd.sizeOf5
  v5 := Tryd.zeroValue5
  t9 := Tryd.underlying9
  a9 := Tryd.isAgg9
  z9 := Tryd.sizeOf9
  v9 := Tryd.zeroValue9
  t20 := Tryd.underlying20
  a20 := Tryd.isAgg20
  z20 := Tryd.sizeOf20
  v20 := Tryd.zeroValue20
  t21 := Tryd.underlying21
  a21 := Tryd.isAgg21
  z21 := Tryd.sizeOf21
  v21 := Tryd.zeroValue21
  t37 := Tryd.underlying74
  a37 := Tryd.isAgg74
  z37 := Tryd.sizeOf74
  v37 := Tryd.zeroValue74
  t46 := Tryd.underlying79
  a46 := Tryd.isAgg79
  z46 := Tryd.sizeOf79
  v46 := Tryd.zeroValue79
  t51 := Tryd.underlying72
  a51 := Tryd.isAgg72
  z51 := Tryd.sizeOf72
  v51 := Tryd.zeroValue72
  t53 := Tryd.underlying75
  a53 := Tryd.isAgg75
  z53 := Tryd.sizeOf75
  v53 := Tryd.zeroValue75
  t75 := Tryd.underlying111
  a75 := Tryd.isAgg111
  z75 := Tryd.sizeOf111
  v75 := Tryd.zeroValue111
  t76 := Tryd.underlying112
  a76 := Tryd.isAgg112
  z76 := Tryd.sizeOf112
  v76 := Tryd.zeroValue112
  t85 := Tryd.underlying160
  a85 := Tryd.isAgg160
  z85 := Tryd.sizeOf160
  v85 := Tryd.zeroValue160
  t127 := Tryd.underlying135
  a127 := Tryd.isAgg135
  z127 := Tryd.sizeOf135
  v127 := Tryd.zeroValue135
  t143 := Tryd.underlying183
  a143 := Tryd.isAgg183
  z143 := Tryd.sizeOf183
  v143 := Tryd.zeroValue183
  t145 := Tryd.underlying185
  a145 := Tryd.isAgg185
  z145 := Tryd.sizeOf185
  v145 := Tryd.zeroValue185
  t167 := Tryd.underlying159
  a167 := Tryd.isAgg159
  z167 := Tryd.sizeOf159
  v167 := Tryd.zeroValue159
  t168 := Tryd.underlying162
  a168 := Tryd.isAgg162
  z168 := Tryd.sizeOf162
  v168 := Tryd.zeroValue162
  t171 := Tryd.underlying175
  a171 := Tryd.isAgg175
  z171 := Tryd.sizeOf175
  v171 := Tryd.zeroValue175
  t173 := Tryd.underlying178
  a173 := Tryd.isAgg178
  z173 := Tryd.sizeOf178
  v173 := Tryd.zeroValue178
  t175 := Tryd.underlying170
  a175 := Tryd.isAgg170
  z175 := Tryd.sizeOf170
  v175 := Tryd.zeroValue170
  t210 := Tryd.underlying173
  a210 := Tryd.isAgg173
  z210 := Tryd.sizeOf173
  v210 := Tryd.zeroValue173
  t212 := Tryd.underlying187
  a212 := Tryd.isAgg187
  z212 := Tryd.sizeOf187
  v212 := Tryd.zeroValue187
  t213 := Tryd.underlying188
  a213 := Tryd.isAgg188
  z213 := Tryd.sizeOf188
  t232 := Tryd.underlying193
  a232 := Tryd.isAgg193
  z232 := Tryd.sizeOf193
  v232 := Tryd.zeroValue193
  t233 := Tryd.underlying194
  a233 := Tryd.isAgg194
  z233 := Tryd.sizeOf194
  v233 := Tryd.zeroValue194
  g15 := by kernel_rfl
  g16 := by kernel_rfl
  g17 := by kernel_rfl
  g18 := by kernel_rfl
  g19 := by kernel_rfl
  t80 := Tryd.underlying117
  a80 := Tryd.isAgg117
  z80 := Tryd.sizeOf117
  v80 := Tryd.zeroValue117
  i0 := by kernel_rfl
  i2 := by kernel_rfl
  i3 := by kernel_rfl
  i4 := by kernel_rfl
  i5 := by kernel_rfl
  i9 := by kernel_rfl
  i20 := by kernel_rfl
  i21 := by kernel_rfl
  i37 := by kernel_rfl
  i46 := by kernel_rfl
  i51 := by kernel_rfl
  i53 := by kernel_rfl
  i75 := by kernel_rfl
  i76 := by kernel_rfl
  i80 := by kernel_rfl
  i85 := by kernel_rfl
  i127 := by kernel_rfl
  i143 := by kernel_rfl
  i145 := by kernel_rfl
  i167 := by kernel_rfl
  i168 := by kernel_rfl
  i171 := by kernel_rfl
  i173 := by kernel_rfl
  i175 := by kernel_rfl
  i210 := by kernel_rfl
  i212 := by kernel_rfl
  i232 := by kernel_rfl
  i233 := by kernel_rfl
  m15 := by kernel_rfl
  m16 := by kernel_rfl
  m17 := by kernel_rfl
  m18 := by kernel_rfl
  m19 := by kernel_rfl
  c0 := by kernel_rfl
  c2 := by kernel_rfl
  c3 := by kernel_rfl
  c4 := by kernel_rfl
  c5 := by kernel_rfl
  c9 := by kernel_rfl
  c20 := by kernel_rfl
  c21 := by kernel_rfl
  c37 := by kernel_rfl
  c46 := by kernel_rfl
  c51 := by kernel_rfl
  c53 := by kernel_rfl
  c75 := by kernel_rfl
  c76 := by kernel_rfl
  c80 := by kernel_rfl
  c85 := by kernel_rfl
  c127 := by kernel_rfl
  c143 := by kernel_rfl
  c145 := by kernel_rfl
  c167 := by kernel_rfl
  c168 := by kernel_rfl
  c171 := by kernel_rfl
  c173 := by kernel_rfl
  c175 := by kernel_rfl
  c210 := by kernel_rfl
  c212 := by kernel_rfl
  c213 := by kernel_rfl
  c232 := by kernel_rfl
  c233 := by kernel_rfl }
open Go.RowKit in
theorem Tryd.strconv_Atoi_range (s : ByteArray) (hlim : s.size ≤ 281474976710656) (h : Lib.atoiAll s.data.toList = .range) (ev : Value) (w : World) (hv : w.cell? ⟨5, 0, none⟩ = some ev) (hev : ev = .nilIface ∨ ∃ te pe, ev = .iface te pe) :
    Calls Tryd.prog 67 #[.string s] w fun e w' => ∃ N, e = .returned (.tuple #[.int .i64 (Lib.atoiSat s.data.toList), .iface 162 (.pointer (some ⟨N, 0, none⟩))]) ∧ w.heap.size ≤ N ∧ w'.heap[N]? = some (.cells #[.string ⟨#[65, 116, 111, 105]⟩, .string s, ev] 173 (0, 0)) ∧ Below w.heap.size w w' := Any.strconv_Atoi_range Tryd.laysC172 s hlim h ev w hv hev
def Tryd.lays230_ren : Go.Shelf.Ren := ⟨fun | 230 => 32 | 197 => 58 | 118 => 59 | 165 => 60 | 166 => 61 | 168 => 62 | 270 => 63 | 167 => 64 | 169 => 65 | 260 => 82 | 240 => 83 | 241 => 84 | 242 => 85 | 276 => 106 | 277 => 107 | 278 => 108 | n => n, fun | 107 => 64 | 9 => 9 | 72 => 105 | 0 => 0 | 4 => 4 | 3 => 3 | 21 => 21 | 105 => 106 | 76 => 112 | 5 => 5 | 75 => 111 | 70 => 103 | 20 => 20 | 37 => 74 | 127 => 135 | 119 => 151 | 46 => 79 | 139 => 154 | 138 => 153 | 164 => 155 | 51 => 72 | 80 => 117 | n => n, fun | 3 => 1 | 4 => 2 | n => n⟩
theorem Tryd.lays230 : Go.Proofs.Lays.n230 Tryd.prog Tryd.lays230_ren := {
  mixed := by kernel_rfl
  f118 := Tryd.func59.trans (congrArg some (by kernel_rfl))
  f165 := Tryd.func60.trans (congrArg some (by kernel_rfl))
  f166 := Tryd.func61.trans (congrArg some (by kernel_rfl))
  f167 := Tryd.func64.trans (congrArg some (by kernel_rfl))
  f168 := Tryd.func62.trans (congrArg some (by kernel_rfl))
  f169 := Tryd.func65.trans (congrArg some (by kernel_rfl))
  f197 := Tryd.func58.trans (congrArg some (by kernel_rfl))
  f230 := Tryd.func32.trans (congrArg some (by kernel_rfl))
  f240 := Tryd.func83.trans (congrArg some (by kernel_rfl))
  f241 := Tryd.func84.trans (congrArg some (by kernel_rfl))
  f242 := Tryd.func85.trans (congrArg some (by kernel_rfl))
  f260 := Tryd.func82.trans (congrArg some (by kernel_rfl))
  f270 := Tryd.func63.trans (congrArg some (by kernel_rfl))
  f276 := Tryd.func106.trans (congrArg some (by kernel_rfl))
  f277 := Tryd.func107.trans (congrArg some (by kernel_rfl))
  f278 := Tryd.func108.trans (congrArg some (by kernel_rfl))
  t0 := Tryd.underlying0
  a0 := Tryd.isAgg0
  z0 := Tryd.sizeOf0
  v0 := Tryd.zeroValue0
  t3 := Tryd.underlying3
  a3 := Tryd.isAgg3
  z3 := Tryd.sizeOf3
  v3 := Tryd.zeroValue3
  t4 := Tryd.underlying4
  a4 := Tryd.isAgg4
  z4 := Tryd.sizeOf4
  v4 := Tryd.zeroValue4
  t5 := Tryd.underlying5
  a5 := Tryd.isAgg5
  z5 := Tryd.sizeOf5
  v5 := Tryd.zeroValue5
  t9 := Tryd.underlying9
  a9 := Tryd.isAgg9
  z9 := Tryd.sizeOf9
  v9 := Tryd.zeroValue9
  t20 := Tryd.underlying20
  a20 := Tryd.isAgg20
  z20 := Tryd.sizeOf20
  v20 := Tryd.zeroValue20
  t21 := Tryd.underlying21
  a21 := Tryd.isAgg21
  z21 := Tryd.sizeOf21
  v21 := Tryd.zeroValue21
  t37 := Tryd.underlying74
  a37 := Tryd.isAgg74
  z37 := Tryd.sizeOf74
  v37 := Tryd.zeroValue74
  t46 := Tryd.underlying79
  a46 := Tryd.isAgg79
  z46 := Tryd.sizeOf79
  v46 := Tryd.zeroValue79
  t51 := Tryd.underlying72
  a51 := Tryd.isAgg72
  z51 := Tryd.sizeOf72
  v51 := Tryd.zeroValue72
  t70 := Tryd.underlying103
  a70 := Tryd.isAgg103
  z70 := Tryd.sizeOf103
  v70 := Tryd.zeroValue103
  t72 := Tryd.underlying105
  a72 := Tryd.isAgg105
  z72 := Tryd.sizeOf105
  v72 := Tryd.zeroValue105
  t75 := Tryd.underlying111
  a75 := Tryd.isAgg111
  z75 := Tryd.sizeOf111
  v75 := Tryd.zeroValue111
  t76 := Tryd.underlying112
  a76 := Tryd.isAgg112
  z76 := Tryd.sizeOf112
  v76 := Tryd.zeroValue112
  t105 := Tryd.underlying106
  a105 := Tryd.isAgg106
  z105 := Tryd.sizeOf106
  v105 := Tryd.zeroValue106
  t107 := Tryd.underlying64
  a107 := Tryd.isAgg64
  z107 := Tryd.sizeOf64
  v107 := Tryd.zeroValue64
  t119 := Tryd.underlying151
  a119 := Tryd.isAgg151
  z119 := Tryd.sizeOf151
  t127 := Tryd.underlying135
  a127 := Tryd.isAgg135
  z127 := Tryd.sizeOf135
  v127 := Tryd.zeroValue135
  t138 := Tryd.underlying153
  a138 := Tryd.isAgg153
  z138 := Tryd.sizeOf153
  v138 := Tryd.zeroValue153
  t139 := Tryd.underlying154
  a139 := Tryd.isAgg154
  z139 := Tryd.sizeOf154
  v139 := Tryd.zeroValue154
  t164 := Tryd.underlying155
  a164 := Tryd.isAgg155
  z164 := Tryd.sizeOf155
  v164 := Tryd.zeroValue155
  g3 := by kernel_rfl
  g4 := by kernel_rfl }
theorem Tryd.Builder_Extra_230 : Builder.Extra Tryd.prog Tryd.lays230_ren := {
  sizeBuilder := by kernel_rfl
  liesBuilder := by kernel_rfl
  t5 := Tryd.underlying5
  a5 := Tryd.isAgg5
  z5 := Tryd.sizeOf5
  v5 := Tryd.zeroValue5
  infoByte := by kernel_rfl
  cellsByte := by kernel_rfl
  sizeByte := by kernel_rfl
  neB5 := by decide }
open Go.RowKit Go.Lib in
theorem Tryd.strings_Map_runes (g : Nat) (lb : Array Value) (eg : ∀ args w, (callFunc g args).run Tryd.prog w = .ok (.enter g args) w) (f : Int → Int) (s : ByteArray) (w : World) (hs : s.size < 35184372088832) (hf : MapAtRunes Tryd.prog g lb f w) (hnn : ∀ x : Nat, x ≤ 1114111 → 0 ≤ f x ∧ f x ≤ 2147483647) (hT : Lib.Utf8Tabs 1 2 w) :
    Calls Tryd.prog 32 #[.func (.func g) #[] lb, .string s] w fun e w' => e = .returned (.string ⟨(Lib.mapD f s.data.toList).toArray⟩) ∧ Below w.heap.size w w' := Any.strings_Map_runes Tryd.lays230 Tryd.Builder_Extra_230 g lb eg f s w hs hf hnn hT
end Go.Proofs

namespace Go.Proofs.YtlacmijbjdpbpaaDoor
open Go Go.Vm Go.RowKit
theorem atoiOk : AtoiRangeOk Tryd.prog 67 5 162 := fun s ev w h1 h2 h3 h4 => (Tryd.strconv_Atoi_range s h1 h2 ev w h3 h4).mono fun _ _ ⟨N, q1, q2, _, q4⟩ => ⟨N, q1, q2, q4⟩
def greatF (x : Int) : Int := bif decide (97 ≤ x) && decide (x ≤ 122) then x - 32 else x
theorem great_enter : ∀ args w, (callFunc 33 args).run Tryd.prog w = .ok (.enter 33 args) w := enters_of Tryd.func33 (by kernel_rfl) rfl
theorem great_gives (w : World) : Go.Proofs.MapAtRunes Tryd.prog 33 #[] greatF w := by
  intro W x hx _
  show Calls Tryd.prog 33 #[.int .i32 (x : Int)] W _
  by_cases h1 : (97 : Int) ≤ (x : Int)
  · by_cases h2 : (x : Int) ≤ 122
    · have e : greatF x = (x : Int) - 97 + 65 := by
        unfold greatF
        rw [decide_eq_true h1, decide_eq_true h2]
        simp only [Bool.and_self, cond_true]
        omega
      rw [e]
      go_enter Tryd.func33, Tryd.ntmps33
      go_wp2
      all_goals (go_ret; exact ⟨rfl, 0, rfl⟩)
    · have e : greatF x = x := by
        unfold greatF
        rw [decide_eq_true h1, decide_eq_false h2]
        rfl
      rw [e]
      go_enter Tryd.func33, Tryd.ntmps33
      go_wp2
      all_goals (go_ret; exact ⟨rfl, 0, rfl⟩)
  · have e : greatF x = x := by
      unfold greatF
      rw [decide_eq_false h1]
      rfl
    rw [e]
    go_enter Tryd.func33, Tryd.ntmps33
    go_wp2
    all_goals (go_ret; exact ⟨rfl, 0, rfl⟩)
theorem mapOk : MapRunesOk Tryd.prog 32 33 greatF 1 2 := fun s w h1 h2 =>
  Tryd.strings_Map_runes 33 #[] great_enter greatF s w h1 (great_gives w) (fun x hx => by unfold greatF; cases h : (decide (97 ≤ (x : Int)) && decide ((x : Int) ≤ 122)) <;> simp at h ⊢ <;> omega) h2
variable [EA : ErrAt]
theorem atoi_known {s : List UInt8} {n : Int} (h : (isRange (Lib.atoiAll s) && (Nat.ble s.length 281474976710656 && eqI (Lib.atoiSat s) n)) = true) : EntFOk Tryd.prog ⟨67, [.str s], [], .tuple [.int .i64 n, .iface 162 (.ptr 0 0)], [.dead]⟩ :=
  atoi_ent (tp := EA.tp) (k := 9) atoiOk ⟨rfl, rfl⟩ rfl h
theorem map_known {s r : List UInt8} (h : (Nat.ble s.length 281474976710 && eqS (Lib.mapD greatF s) r) = true) : EntFOk Tryd.prog ⟨32, [.func (.func 33) [] [], .str s], [], .str r, []⟩ :=
  map_ent mapOk ⟨rfl, rfl⟩ ⟨rfl, rfl⟩ rfl rfl h
end Go.Proofs.YtlacmijbjdpbpaaDoor
