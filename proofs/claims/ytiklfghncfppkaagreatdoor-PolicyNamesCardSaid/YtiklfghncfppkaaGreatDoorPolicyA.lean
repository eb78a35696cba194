/- PolicyNames: what it comes to. -/
import Derived.Test.YtiklfghncfppkaaGreatDoorBase
import Derived.Test.YtiklfghncfppkaaGreatDoorVmc
namespace Go.Proofs.YtiklfghncfppkaaGreatDoor
open Go Go.Vm Go.RowKit
set_option maxRecDepth 100000
noncomputable def TS : Tab := ⟨noT, noL, noLks 9⟩
theorem TS_ok : TabOk3 Tryz.prog TS := ⟨noT_ok, noL_ok, noLks_ok 9⟩
def pokGs (g : Nat) : Bool := !([81,38,21,16,19].any (Nat.beq g))
def poks0 : List EntF := []
theorem poks0_ok : ∀ e ∈ poks0, EntFOk Tryz.prog e := entf_nil
def pok0 : EntF := ⟨9, [.str [118, 101, 114, 115, 105, 111, 110, 58, 32, 83, 84, 83, 118, 49, 10, 109, 111, 100, 101, 58, 32, 101, 110, 102, 111, 114, 99, 101, 10, 109, 120, 58, 32, 42, 46, 69, 120, 97, 109, 112, 108, 101, 46, 99, 111, 109, 10, 109, 97, 120, 95, 97, 103, 101, 58, 32, 56, 54, 52, 48, 48, 10]], [], .tuple [.agg [.int .u8 3, .slice 0 0 1 false 0 0, .int .i64 86400], .int .i64 0], [.row [.str [42, 46, 101, 120, 97, 109, 112, 108, 101, 46, 99, 111, 109]] 9 1]⟩
theorem pok0_ok : EntFOk Tryz.prog pok0 := entf_ok mixed (gs := pokGs) poks0_ok (tabL_ok TS_ok) (lim := 3000) (n := 40) (by kernel_rfl)
def poks1 : List EntF := pok0 :: poks0
theorem poks1_ok : ∀ e ∈ poks1, EntFOk Tryz.prog e := entf_cons pok0_ok poks0_ok
def pok1 : EntF := ⟨32, [.str [118, 61, 83, 84, 83, 118, 49, 59, 32, 105, 100, 61, 50, 48, 50, 54, 48, 49, 48, 49, 84, 48, 59]], [], .str [50, 48, 50, 54, 48, 49, 48, 49, 84, 48], []⟩
theorem pok1_ok : EntFOk Tryz.prog pok1 := entf_ok mixed (gs := pokGs) poks1_ok (tabL_ok TS_ok) (lim := 3000) (n := 40) (by kernel_rfl)
def poks2 : List EntF := pok1 :: poks1
theorem poks2_ok : ∀ e ∈ poks2, EntFOk Tryz.prog e := entf_cons pok1_ok poks1_ok
def pok2 : EntF := ⟨9, [.str [118, 101, 114, 115, 105, 111, 110, 58, 32, 83, 84, 83, 118, 49, 10, 109, 111, 100, 101, 58, 32, 101, 110, 102, 111, 114, 99, 101, 10, 109, 97, 120, 95, 97, 103, 101, 58, 32, 56, 54, 52, 48, 48, 10]], [], .tuple [.agg [.int .u8 0, .nilSlice, .int .i64 0], .int .i64 4], []⟩
theorem pok2_ok : EntFOk Tryz.prog pok2 := entf_ok mixed (gs := pokGs) poks2_ok (tabL_ok TS_ok) (lim := 3000) (n := 40) (by kernel_rfl)
def poks3 : List EntF := pok2 :: poks2
theorem poks3_ok : ∀ e ∈ poks3, EntFOk Tryz.prog e := entf_cons pok2_ok poks2_ok
def pok3 : EntF := ⟨9, [.str [118, 101, 114, 115, 105, 111, 110, 58, 32, 83, 84, 83, 118, 49, 10, 109, 111, 100, 101, 58, 32, 110, 111, 110, 101, 10, 109, 97, 120, 95, 97, 103, 101, 58, 32, 56, 54, 52, 48, 48, 10]], [], .tuple [.agg [.int .u8 1, .nilSlice, .int .i64 86400], .int .i64 0], []⟩
theorem pok3_ok : EntFOk Tryz.prog pok3 := entf_ok mixed (gs := pokGs) poks3_ok (tabL_ok TS_ok) (lim := 3000) (n := 40) (by kernel_rfl)
def poks4 : List EntF := pok3 :: poks3
theorem poks4_ok : ∀ e ∈ poks4, EntFOk Tryz.prog e := entf_cons pok3_ok poks3_ok
def pok4 : EntF := ⟨30, [.str [42, 46, 101, 120, 97, 109, 112, 108, 101, 46, 99, 111, 109], .str [109, 120, 49, 46, 101, 120, 97, 109, 112, 108, 101, 46, 99, 111, 109]], [], .bool true, []⟩
theorem pok4_ok : EntFOk Tryz.prog pok4 := entf_ok mixed (gs := pokGs) poks4_ok (tabL_ok TS_ok) (lim := 3000) (n := 40) (by kernel_rfl)
def poks5 : List EntF := pok4 :: poks4
theorem poks5_ok : ∀ e ∈ poks5, EntFOk Tryz.prog e := entf_cons pok4_ok poks4_ok
def pok5 : EntF := ⟨4, [], [], .bool true, []⟩
theorem pok5_ok : EntFOk Tryz.prog pok5 := entf_ok mixed (gs := pokGs) poks5_ok (tabL_ok TS_ok) (lim := 3000) (n := 40) (by kernel_rfl)
def poks6 : List EntF := pok5 :: poks5
theorem poks6_ok : ∀ e ∈ poks6, EntFOk Tryz.prog e := entf_cons pok5_ok poks5_ok
def pok6 : EntF := ⟨13, [.slice 0 0 1 false 0 0], [.ro false [.str [118, 61, 83, 84, 83, 118, 49, 32, 9, 59, 9, 105, 100, 61, 97, 32, 59, 32, 9]]], .tuple [.str [97], .bool true], []⟩
theorem pok6_ok : EntFOk Tryz.prog pok6 := entf_ok mixed (gs := pokGs) poks6_ok (tabL_ok TS_ok) (lim := 3000) (n := 40) (by kernel_rfl)
def poks7 : List EntF := pok6 :: poks6
theorem poks7_ok : ∀ e ∈ poks7, EntFOk Tryz.prog e := entf_cons pok6_ok poks6_ok
def pok7 : EntF := ⟨32, [.str [118, 61, 83, 84, 83, 118, 49, 59, 32, 120, 46, 49, 45, 95, 61, 34, 33, 34, 59, 32, 105, 100, 61, 97, 59]], [], .str [97], []⟩
theorem pok7_ok : EntFOk Tryz.prog pok7 := entf_ok mixed (gs := pokGs) poks7_ok (tabL_ok TS_ok) (lim := 3000) (n := 40) (by kernel_rfl)
def poks8 : List EntF := pok7 :: poks7
theorem poks8_ok : ∀ e ∈ poks8, EntFOk Tryz.prog e := entf_cons pok7_ok poks7_ok
def pok8 : EntF := ⟨32, [.str [118, 61, 83, 84, 83, 118, 49, 59, 32, 118, 61, 83, 84, 83, 118, 50, 59, 32, 105, 100, 61, 97]], [], .str [97], []⟩
theorem pok8_ok : EntFOk Tryz.prog pok8 := entf_ok mixed (gs := pokGs) poks8_ok (tabL_ok TS_ok) (lim := 3000) (n := 40) (by kernel_rfl)
def poks9 : List EntF := pok8 :: poks8
theorem poks9_ok : ∀ e ∈ poks9, EntFOk Tryz.prog e := entf_cons pok8_ok poks8_ok
def pok9 : EntF := ⟨32, [.str [118, 61, 83, 84, 83, 118, 49, 59, 32, 73, 68, 61, 98, 59, 32, 105, 100, 61, 97]], [], .str [97], []⟩
theorem pok9_ok : EntFOk Tryz.prog pok9 := entf_ok mixed (gs := pokGs) poks9_ok (tabL_ok TS_ok) (lim := 3000) (n := 40) (by kernel_rfl)
def poks10 : List EntF := pok9 :: poks9
theorem poks10_ok : ∀ e ∈ poks10, EntFOk Tryz.prog e := entf_cons pok9_ok poks9_ok
def pok10 : EntF := ⟨32, [.str [118, 61, 83, 84, 83, 118, 49, 59, 32, 105, 100, 61, 97, 59, 32, 105, 100, 61, 97]], [], .str [], []⟩
theorem pok10_ok : EntFOk Tryz.prog pok10 := entf_ok mixed (gs := pokGs) poks10_ok (tabL_ok TS_ok) (lim := 3000) (n := 40) (by kernel_rfl)
def poks11 : List EntF := pok10 :: poks10
theorem poks11_ok : ∀ e ∈ poks11, EntFOk Tryz.prog e := entf_cons pok10_ok poks10_ok
def pok11 : EntF := ⟨13, [.slice 0 0 1 false 0 0], [.ro false [.str [118, 61, 83, 84, 83, 118, 49, 59, 32, 105, 100, 61, 97, 45, 98]]], .tuple [.str [], .bool false], []⟩
theorem pok11_ok : EntFOk Tryz.prog pok11 := entf_ok mixed (gs := pokGs) poks11_ok (tabL_ok TS_ok) (lim := 3000) (n := 40) (by kernel_rfl)
def poks12 : List EntF := pok11 :: poks11
theorem poks12_ok : ∀ e ∈ poks12, EntFOk Tryz.prog e := entf_cons pok11_ok poks11_ok
def pok12 : EntF := ⟨32, [.str [118, 61, 83, 84, 83, 118, 49, 59, 32, 105, 100, 61, 97, 59, 32, 120]], [], .str [], []⟩
theorem pok12_ok : EntFOk Tryz.prog pok12 := entf_ok mixed (gs := pokGs) poks12_ok (tabL_ok TS_ok) (lim := 3000) (n := 40) (by kernel_rfl)
def poks13 : List EntF := pok12 :: poks12
theorem poks13_ok : ∀ e ∈ poks13, EntFOk Tryz.prog e := entf_cons pok12_ok poks12_ok
def pok13 : EntF := ⟨32, [.str [118, 61, 83, 84, 83, 118, 49, 59, 32, 105, 100, 61, 97, 59, 32, 120, 61]], [], .str [], []⟩
theorem pok13_ok : EntFOk Tryz.prog pok13 := entf_ok mixed (gs := pokGs) poks13_ok (tabL_ok TS_ok) (lim := 3000) (n := 40) (by kernel_rfl)
def poks14 : List EntF := pok13 :: poks13
theorem poks14_ok : ∀ e ∈ poks14, EntFOk Tryz.prog e := entf_cons pok13_ok poks13_ok
def pok14 : EntF := ⟨32, [.str [118, 61, 83, 84, 83, 118, 49, 59, 32, 105, 100, 61, 97, 59, 32, 120, 61, 98, 32, 99]], [], .str [], []⟩
theorem pok14_ok : EntFOk Tryz.prog pok14 := entf_ok mixed (gs := pokGs) poks14_ok (tabL_ok TS_ok) (lim := 3000) (n := 40) (by kernel_rfl)
def poks15 : List EntF := pok14 :: poks14
theorem poks15_ok : ∀ e ∈ poks15, EntFOk Tryz.prog e := entf_cons pok14_ok poks14_ok
def pok15 : EntF := ⟨32, [.str [118, 61, 83, 84, 83, 118, 49, 59, 32, 105, 100, 61, 97, 59, 32, 120, 61, 98, 61, 99]], [], .str [], []⟩
theorem pok15_ok : EntFOk Tryz.prog pok15 := entf_ok mixed (gs := pokGs) poks15_ok (tabL_ok TS_ok) (lim := 3000) (n := 40) (by kernel_rfl)
def poks16 : List EntF := pok15 :: poks15
theorem poks16_ok : ∀ e ∈ poks16, EntFOk Tryz.prog e := entf_cons pok15_ok poks15_ok
def pok16 : EntF := ⟨13, [.slice 0 0 1 false 0 0], [.ro false [.str [118, 61, 83, 84, 83, 118, 49, 59, 32, 105, 100, 61, 97, 59, 32, 45, 120, 61, 98]]], .tuple [.str [], .bool false], []⟩
theorem pok16_ok : EntFOk Tryz.prog pok16 := entf_ok mixed (gs := pokGs) poks16_ok (tabL_ok TS_ok) (lim := 3000) (n := 40) (by kernel_rfl)
def poks17 : List EntF := pok16 :: poks16
theorem poks17_ok : ∀ e ∈ poks17, EntFOk Tryz.prog e := entf_cons pok16_ok poks16_ok
def pok17 : EntF := ⟨32, [.str [118, 61, 83, 84, 83, 118, 49, 59, 32, 105, 100, 61, 97, 97, 97, 97, 97, 97, 97, 97, 97, 97, 97, 97, 97, 97, 97, 97, 97, 97, 97, 97, 97, 97, 97, 97, 97, 97, 97, 97, 97, 97, 97, 97, 97]], [], .str [], []⟩
theorem pok17_ok : EntFOk Tryz.prog pok17 := entf_ok mixed (gs := pokGs) poks17_ok (tabL_ok TS_ok) (lim := 3000) (n := 40) (by kernel_rfl)
def poks18 : List EntF := pok17 :: poks17
theorem poks18_ok : ∀ e ∈ poks18, EntFOk Tryz.prog e := entf_cons pok17_ok poks17_ok
def pok18 : EntF := ⟨32, [.str [118, 61, 83, 84, 83, 118, 49, 59, 32, 105, 100, 61, 97, 59, 32, 120, 120, 120, 120, 120, 120, 120, 120, 120, 120, 120, 120, 120, 120, 120, 120, 120, 120, 120, 120, 120, 120, 120, 120, 120, 120, 120, 120, 120, 120, 120, 120, 120, 61, 98]], [], .str [], []⟩
theorem pok18_ok : EntFOk Tryz.prog pok18 := entf_ok mixed (gs := pokGs) poks18_ok (tabL_ok TS_ok) (lim := 3000) (n := 40) (by kernel_rfl)
def poks19 : List EntF := pok18 :: poks18
theorem poks19_ok : ∀ e ∈ poks19, EntFOk Tryz.prog e := entf_cons pok18_ok poks18_ok
def pok19 : EntF := ⟨32, [.str [118, 61, 83, 84, 83, 118, 49, 59, 32, 105, 100, 61, 97, 59, 32, 120, 61, 128]], [], .str [], []⟩
theorem pok19_ok : EntFOk Tryz.prog pok19 := entf_ok mixed (gs := pokGs) poks19_ok (tabL_ok TS_ok) (lim := 3000) (n := 40) (by kernel_rfl)
def poks20 : List EntF := pok19 :: poks19
theorem poks20_ok : ∀ e ∈ poks20, EntFOk Tryz.prog e := entf_cons pok19_ok poks19_ok
def pok20 : EntF := ⟨32, [.str [118, 61, 83, 84, 83, 118, 49, 59, 32, 105, 100, 61, 122, 122, 122, 122, 122, 122, 122, 122, 122, 122, 122, 122, 122, 122, 122, 122, 122, 122, 122, 122, 122, 122, 122, 122, 122, 122, 122, 122, 122, 122, 122, 122]], [], .str [122, 122, 122, 122, 122, 122, 122, 122, 122, 122, 122, 122, 122, 122, 122, 122, 122, 122, 122, 122, 122, 122, 122, 122, 122, 122, 122, 122, 122, 122, 122, 122], []⟩
theorem pok20_ok : EntFOk Tryz.prog pok20 := entf_ok mixed (gs := pokGs) poks20_ok (tabL_ok TS_ok) (lim := 3000) (n := 40) (by kernel_rfl)
def poks21 : List EntF := pok20 :: poks20
theorem poks21_ok : ∀ e ∈ poks21, EntFOk Tryz.prog e := entf_cons pok20_ok poks20_ok
def pok21 : EntF := ⟨32, [.str [118, 61, 83, 84, 83, 118, 49, 59, 32, 105, 100, 61, 97, 59, 32, 120, 120, 120, 120, 120, 120, 120, 120, 120, 120, 120, 120, 120, 120, 120, 120, 120, 120, 120, 120, 120, 120, 120, 120, 120, 120, 120, 120, 120, 120, 120, 120, 61, 98]], [], .str [97], []⟩
theorem pok21_ok : EntFOk Tryz.prog pok21 := entf_ok mixed (gs := pokGs) poks21_ok (tabL_ok TS_ok) (lim := 3000) (n := 40) (by kernel_rfl)
def poks22 : List EntF := pok21 :: poks21
theorem poks22_ok : ∀ e ∈ poks22, EntFOk Tryz.prog e := entf_cons pok21_ok poks21_ok
def pok22 : EntF := ⟨9, [.str [118, 101, 114, 115, 105, 111, 110, 58, 32, 83, 84, 83, 118, 49, 13, 10, 109, 111, 100, 101, 58, 32, 116, 101, 115, 116, 105, 110, 103, 13, 10, 109, 120, 58, 32, 97, 46, 98, 13, 10, 109, 97, 120, 95, 97, 103, 101, 58, 32, 48]], [], .tuple [.agg [.int .u8 2, .slice 0 0 1 false 0 0, .int .i64 0], .int .i64 0], [.row [.str [97, 46, 98]] 9 1]⟩
theorem pok22_ok : EntFOk Tryz.prog pok22 := entf_ok mixed (gs := pokGs) poks22_ok (tabL_ok TS_ok) (lim := 3000) (n := 40) (by kernel_rfl)
def poks23 : List EntF := pok22 :: poks22
theorem poks23_ok : ∀ e ∈ poks23, EntFOk Tryz.prog e := entf_cons pok22_ok poks22_ok
def pok23 : EntF := ⟨9, [.str [118, 101, 114, 115, 105, 111, 110, 58, 83, 84, 83, 118, 49, 10, 109, 111, 100, 101, 58, 116, 101, 115, 116, 105, 110, 103, 10, 109, 97, 120, 95, 97, 103, 101, 58, 48, 10, 109, 120, 58, 97, 46, 98]], [], .tuple [.agg [.int .u8 2, .slice 0 0 1 false 0 0, .int .i64 0], .int .i64 0], [.row [.str [97, 46, 98]] 9 1]⟩
theorem pok23_ok : EntFOk Tryz.prog pok23 := entf_ok mixed (gs := pokGs) poks23_ok (tabL_ok TS_ok) (lim := 3000) (n := 40) (by kernel_rfl)
def poks24 : List EntF := pok23 :: poks23
theorem poks24_ok : ∀ e ∈ poks24, EntFOk Tryz.prog e := entf_cons pok23_ok poks23_ok
def pok24 : EntF := ⟨9, [.str [118, 101, 114, 115, 105, 111, 110, 58, 32, 83, 84, 83, 118, 49, 10, 118, 101, 114, 115, 105, 111, 110, 58, 32, 120, 10, 109, 120, 58, 32, 65, 46, 66, 46, 10, 109, 111, 100, 101, 58, 32, 9, 32, 116, 101, 115, 116, 105, 110, 103, 32, 10, 120, 58, 32, 126, 10, 109, 111, 100, 101, 58, 32, 111, 100, 100, 10, 109, 97, 120, 95, 97, 103, 101, 58, 32, 48, 10, 109, 97, 120, 95, 97, 103, 101, 58, 32, 111, 100, 100, 10]], [], .tuple [.agg [.int .u8 2, .slice 0 0 1 false 0 0, .int .i64 0], .int .i64 0], [.row [.str [97, 46, 98]] 9 1]⟩
theorem pok24_ok : EntFOk Tryz.prog pok24 := entf_ok mixed (gs := pokGs) poks24_ok (tabL_ok TS_ok) (lim := 3000) (n := 40) (by kernel_rfl)
def poks25 : List EntF := pok24 :: poks24
theorem poks25_ok : ∀ e ∈ poks25, EntFOk Tryz.prog e := entf_cons pok24_ok poks24_ok
def pok25 : EntF := ⟨9, [.str [118, 101, 114, 115, 105, 111, 110, 58, 32, 83, 84, 83, 118, 49, 13, 10, 109, 111, 100, 101, 58, 32, 116, 101, 115, 116, 105, 110, 103, 13, 10, 120, 45, 49, 95, 46, 121, 58, 13, 10, 109, 120, 58, 32, 97, 46, 98, 13, 10, 109, 97, 120, 95, 97, 103, 101, 58, 32, 48, 13, 10]], [], .tuple [.agg [.int .u8 2, .slice 0 0 1 false 0 0, .int .i64 0], .int .i64 0], [.row [.str [97, 46, 98]] 9 1]⟩
theorem pok25_ok : EntFOk Tryz.prog pok25 := entf_ok mixed (gs := pokGs) poks25_ok (tabL_ok TS_ok) (lim := 3000) (n := 40) (by kernel_rfl)
def poks26 : List EntF := pok25 :: poks25
theorem poks26_ok : ∀ e ∈ poks26, EntFOk Tryz.prog e := entf_cons pok25_ok poks25_ok
def pok26 : EntF := ⟨9, [.str [118, 101, 114, 115, 105, 111, 110, 58, 32, 83, 84, 83, 118, 49, 13, 10, 109, 111, 100, 101, 58, 32, 116, 101, 115, 116, 105, 110, 103, 13, 10]], [], .tuple [.agg [.int .u8 0, .nilSlice, .int .i64 0], .int .i64 4], []⟩
theorem pok26_ok : EntFOk Tryz.prog pok26 := entf_ok mixed (gs := pokGs) poks26_ok (tabL_ok TS_ok) (lim := 3000) (n := 40) (by kernel_rfl)
def poks27 : List EntF := pok26 :: poks26
theorem poks27_ok : ∀ e ∈ poks27, EntFOk Tryz.prog e := entf_cons pok26_ok poks26_ok
def pok27 : EntF := ⟨9, [.str [118, 101, 114, 115, 105, 111, 110, 58, 32, 83, 84, 83, 118, 49, 13, 10, 109, 111, 100, 101, 58, 32, 116, 101, 115, 116, 105, 110, 103, 13, 10, 109, 97, 120, 95, 97, 103, 101, 58, 32, 48, 13, 10]], [], .tuple [.agg [.int .u8 0, .nilSlice, .int .i64 0], .int .i64 4], []⟩
theorem pok27_ok : EntFOk Tryz.prog pok27 := entf_ok mixed (gs := pokGs) poks27_ok (tabL_ok TS_ok) (lim := 3000) (n := 40) (by kernel_rfl)
def poks28 : List EntF := pok27 :: poks27
theorem poks28_ok : ∀ e ∈ poks28, EntFOk Tryz.prog e := entf_cons pok27_ok poks27_ok
def pok28 : EntF := ⟨9, [.str [118, 101, 114, 115, 105, 111, 110, 58, 32, 83, 84, 83, 118, 49, 13, 10, 109, 111, 100, 101, 58, 32, 116, 101, 115, 116, 105, 110, 103, 13, 10, 109, 120, 58, 32, 97, 46, 98, 13, 10]], [], .tuple [.agg [.int .u8 0, .nilSlice, .int .i64 0], .int .i64 4], []⟩
theorem pok28_ok : EntFOk Tryz.prog pok28 := entf_ok mixed (gs := pokGs) poks28_ok (tabL_ok TS_ok) (lim := 3000) (n := 40) (by kernel_rfl)
def poks29 : List EntF := pok28 :: poks28
theorem poks29_ok : ∀ e ∈ poks29, EntFOk Tryz.prog e := entf_cons pok28_ok poks28_ok
def pok29 : EntF := ⟨9, [.str [118, 101, 114, 115, 105, 111, 110, 58, 32, 83, 84, 83, 118, 49, 13, 10, 109, 111, 100, 101, 58, 32, 116, 101, 115, 116, 105, 110, 103, 13, 10, 109, 120, 58, 32, 97, 46, 98, 13, 10, 109, 97, 120, 95, 97, 103, 101, 58, 32, 45, 49, 13, 10]], [], .tuple [.agg [.int .u8 0, .nilSlice, .int .i64 0], .int .i64 4], []⟩
theorem pok29_ok : EntFOk Tryz.prog pok29 := entf_ok mixed (gs := pokGs) poks29_ok (tabL_ok TS_ok) (lim := 3000) (n := 40) (by kernel_rfl)
def poks30 : List EntF := pok29 :: poks29
theorem poks30_ok : ∀ e ∈ poks30, EntFOk Tryz.prog e := entf_cons pok29_ok poks29_ok
def pok30 : EntF := ⟨9, [.str [118, 101, 114, 115, 105, 111, 110, 58, 32, 83, 84, 83, 118, 49, 13, 10, 109, 111, 100, 101, 58, 32, 116, 101, 115, 116, 105, 110, 103, 13, 10, 109, 120, 58, 32, 97, 46, 98, 13, 10, 109, 97, 120, 95, 97, 103, 101, 58, 32, 48, 49, 13, 10]], [], .tuple [.agg [.int .u8 0, .nilSlice, .int .i64 0], .int .i64 4], []⟩
theorem pok30_ok : EntFOk Tryz.prog pok30 := entf_ok mixed (gs := pokGs) poks30_ok (tabL_ok TS_ok) (lim := 3000) (n := 40) (by kernel_rfl)
def poks31 : List EntF := pok30 :: poks30
theorem poks31_ok : ∀ e ∈ poks31, EntFOk Tryz.prog e := entf_cons pok30_ok poks30_ok
def pok31 : EntF := ⟨9, [.str [118, 101, 114, 115, 105, 111, 110, 58, 32, 83, 84, 83, 118, 49, 13, 10, 109, 111, 100, 101, 58, 32, 116, 101, 115, 116, 105, 110, 103, 13, 10, 109, 120, 58, 32, 97, 46, 98, 13, 10, 109, 97, 120, 95, 97, 103, 101, 58, 32, 51, 49, 53, 53, 55, 54, 48, 49, 13, 10]], [], .tuple [.agg [.int .u8 0, .nilSlice, .int .i64 0], .int .i64 4], []⟩
theorem pok31_ok : EntFOk Tryz.prog pok31 := entf_ok mixed (gs := pokGs) poks31_ok (tabL_ok TS_ok) (lim := 3000) (n := 40) (by kernel_rfl)
def poks32 : List EntF := pok31 :: poks31
theorem poks32_ok : ∀ e ∈ poks32, EntFOk Tryz.prog e := entf_cons pok31_ok poks31_ok
def pok32 : EntF := ⟨9, [.str [118, 101, 114, 115, 105, 111, 110, 58, 32, 83, 84, 83, 118, 49, 13, 10, 109, 111, 100, 101, 58, 32, 116, 101, 115, 116, 105, 110, 103, 13, 10, 109, 120, 58, 32, 97, 32, 98, 13, 10, 109, 97, 120, 95, 97, 103, 101, 58, 32, 48, 13, 10]], [], .tuple [.agg [.int .u8 0, .nilSlice, .int .i64 0], .int .i64 4], []⟩
theorem pok32_ok : EntFOk Tryz.prog pok32 := entf_ok mixed (gs := pokGs) poks32_ok (tabL_ok TS_ok) (lim := 3000) (n := 40) (by kernel_rfl)
def poks33 : List EntF := pok32 :: poks32
theorem poks33_ok : ∀ e ∈ poks33, EntFOk Tryz.prog e := entf_cons pok32_ok poks32_ok
def pok33 : EntF := ⟨9, [.str [118, 101, 114, 115, 105, 111, 110, 58, 32, 83, 84, 83, 118, 49, 13, 10, 109, 111, 100, 101, 58, 32, 116, 101, 115, 116, 105, 110, 103, 13, 10, 109, 120, 58, 32, 42, 13, 10, 109, 97, 120, 95, 97, 103, 101, 58, 32, 48, 13, 10]], [], .tuple [.agg [.int .u8 0, .nilSlice, .int .i64 0], .int .i64 4], []⟩
theorem pok33_ok : EntFOk Tryz.prog pok33 := entf_ok mixed (gs := pokGs) poks33_ok (tabL_ok TS_ok) (lim := 3000) (n := 40) (by kernel_rfl)
def poks34 : List EntF := pok33 :: poks33
theorem poks34_ok : ∀ e ∈ poks34, EntFOk Tryz.prog e := entf_cons pok33_ok poks33_ok
def pok34 : EntF := ⟨9, [.str [118, 101, 114, 115, 105, 111, 110, 58, 32, 83, 84, 83, 118, 49, 13, 10, 109, 111, 100, 101, 58, 32, 116, 101, 115, 116, 105, 110, 103, 13, 10, 109, 120, 58, 32, 42, 46, 42, 46, 98, 13, 10, 109, 97, 120, 95, 97, 103, 101, 58, 32, 48, 13, 10]], [], .tuple [.agg [.int .u8 0, .nilSlice, .int .i64 0], .int .i64 4], []⟩
theorem pok34_ok : EntFOk Tryz.prog pok34 := entf_ok mixed (gs := pokGs) poks34_ok (tabL_ok TS_ok) (lim := 3000) (n := 40) (by kernel_rfl)
def poks35 : List EntF := pok34 :: poks34
theorem poks35_ok : ∀ e ∈ poks35, EntFOk Tryz.prog e := entf_cons pok34_ok poks34_ok
def pok35 : EntF := ⟨9, [.str [118, 101, 114, 115, 105, 111, 110, 58, 32, 83, 84, 83, 118, 49, 13, 10, 109, 111, 100, 101, 58, 32, 116, 101, 115, 116, 105, 110, 103, 13, 10, 109, 120, 58, 13, 10, 109, 120, 58, 32, 97, 46, 98, 13, 10, 109, 97, 120, 95, 97, 103, 101, 58, 32, 48, 13, 10]], [], .tuple [.agg [.int .u8 0, .nilSlice, .int .i64 0], .int .i64 4], []⟩
theorem pok35_ok : EntFOk Tryz.prog pok35 := entf_ok mixed (gs := pokGs) poks35_ok (tabL_ok TS_ok) (lim := 3000) (n := 40) (by kernel_rfl)
def poks36 : List EntF := pok35 :: poks35
theorem poks36_ok : ∀ e ∈ poks36, EntFOk Tryz.prog e := entf_cons pok35_ok poks35_ok
def pok36 : EntF := ⟨9, [.str [118, 101, 114, 115, 105, 111, 110, 58, 32, 83, 84, 83, 118, 49, 13, 10, 109, 111, 100, 101, 58, 32, 116, 101, 115, 116, 105, 110, 103, 13, 10, 13, 10, 109, 120, 58, 32, 97, 46, 98, 13, 10, 109, 97, 120, 95, 97, 103, 101, 58, 32, 48, 13, 10]], [], .tuple [.agg [.int .u8 0, .nilSlice, .int .i64 0], .int .i64 4], []⟩
theorem pok36_ok : EntFOk Tryz.prog pok36 := entf_ok mixed (gs := pokGs) poks36_ok (tabL_ok TS_ok) (lim := 3000) (n := 40) (by kernel_rfl)
def poks37 : List EntF := pok36 :: poks36
theorem poks37_ok : ∀ e ∈ poks37, EntFOk Tryz.prog e := entf_cons pok36_ok poks36_ok
def pok37 : EntF := ⟨9, [.str [118, 101, 114, 115, 105, 111, 110, 58, 32, 83, 84, 83, 118, 49, 13, 10, 109, 111, 100, 101, 58, 32, 116, 101, 115, 116, 105, 110, 103, 13, 10, 109, 120, 32, 97, 46, 98, 13, 10, 109, 120, 58, 32, 97, 46, 98, 13, 10, 109, 97, 120, 95, 97, 103, 101, 58, 32, 48, 13, 10]], [], .tuple [.agg [.int .u8 0, .nilSlice, .int .i64 0], .int .i64 4], []⟩
theorem pok37_ok : EntFOk Tryz.prog pok37 := entf_ok mixed (gs := pokGs) poks37_ok (tabL_ok TS_ok) (lim := 3000) (n := 40) (by kernel_rfl)
def poks38 : List EntF := pok37 :: poks37
theorem poks38_ok : ∀ e ∈ poks38, EntFOk Tryz.prog e := entf_cons pok37_ok poks37_ok
def pok38 : EntF := ⟨9, [.str [118, 101, 114, 115, 105, 111, 110, 58, 32, 83, 84, 83, 118, 49, 13, 10, 109, 111, 100, 101, 58, 32, 116, 101, 115, 116, 105, 110, 103, 13, 10, 109, 120, 32, 58, 32, 97, 46, 98, 13, 10, 109, 120, 58, 32, 97, 46, 98, 13, 10, 109, 97, 120, 95, 97, 103, 101, 58, 32, 48, 13, 10]], [], .tuple [.agg [.int .u8 0, .nilSlice, .int .i64 0], .int .i64 4], []⟩
theorem pok38_ok : EntFOk Tryz.prog pok38 := entf_ok mixed (gs := pokGs) poks38_ok (tabL_ok TS_ok) (lim := 3000) (n := 40) (by kernel_rfl)
def poks39 : List EntF := pok38 :: poks38
theorem poks39_ok : ∀ e ∈ poks39, EntFOk Tryz.prog e := entf_cons pok38_ok poks38_ok
def pok39 : EntF := ⟨9, [.str [118, 101, 114, 115, 105, 111, 110, 58, 32, 83, 84, 83, 118, 49, 13, 10, 109, 111, 100, 101, 58, 32, 116, 101, 115, 116, 105, 110, 103, 13, 10, 109, 120, 58, 32, 97, 46, 98, 13, 10, 109, 97, 120, 95, 97, 103, 101, 58, 32, 48, 13]], [], .tuple [.agg [.int .u8 0, .nilSlice, .int .i64 0], .int .i64 4], []⟩
theorem pok39_ok : EntFOk Tryz.prog pok39 := entf_ok mixed (gs := pokGs) poks39_ok (tabL_ok TS_ok) (lim := 3000) (n := 40) (by kernel_rfl)
def poks40 : List EntF := pok39 :: poks39
theorem poks40_ok : ∀ e ∈ poks40, EntFOk Tryz.prog e := entf_cons pok39_ok poks39_ok
def pok40 : EntF := ⟨9, [.str [118, 101, 114, 115, 105, 111, 110, 58, 32, 83, 84, 83, 118, 49, 13, 10, 109, 111, 100, 101, 58, 32, 116, 101, 115, 116, 105, 110, 103, 13, 10, 109, 120, 58, 32, 97, 46, 98, 13, 10, 109, 97, 120, 95, 97, 103, 101, 58, 32, 48, 13, 13, 10]], [], .tuple [.agg [.int .u8 0, .nilSlice, .int .i64 0], .int .i64 4], []⟩
theorem pok40_ok : EntFOk Tryz.prog pok40 := entf_ok mixed (gs := pokGs) poks40_ok (tabL_ok TS_ok) (lim := 3000) (n := 40) (by kernel_rfl)
def poks41 : List EntF := pok40 :: poks40
theorem poks41_ok : ∀ e ∈ poks41, EntFOk Tryz.prog e := entf_cons pok40_ok poks40_ok
def pok41 : EntF := ⟨9, [.str [118, 101, 114, 115, 105, 111, 110, 58, 32, 83, 84, 83, 118, 49, 13, 10, 109, 111, 100, 101, 58, 32, 116, 101, 115, 116, 105, 110, 103, 13, 10, 120, 58, 32, 128, 13, 10, 109, 120, 58, 32, 97, 46, 98, 13, 10, 109, 97, 120, 95, 97, 103, 101, 58, 32, 48, 13, 10]], [], .tuple [.agg [.int .u8 0, .nilSlice, .int .i64 0], .int .i64 4], []⟩
theorem pok41_ok : EntFOk Tryz.prog pok41 := entf_ok mixed (gs := pokGs) poks41_ok (tabL_ok TS_ok) (lim := 3000) (n := 40) (by kernel_rfl)
def poks42 : List EntF := pok41 :: poks41
theorem poks42_ok : ∀ e ∈ poks42, EntFOk Tryz.prog e := entf_cons pok41_ok poks41_ok
def pok42 : EntF := ⟨9, [.str [118, 101, 114, 115, 105, 111, 110, 58, 32, 83, 84, 83, 118, 49, 10, 109, 111, 100, 101, 58, 32, 101, 110, 102, 111, 114, 99, 101, 10, 109, 97, 120, 95, 97, 103, 101, 58, 32, 51, 49, 53, 53, 55, 54, 48, 48, 10, 109, 120, 58, 32, 42, 46, 97, 10, 109, 120, 58, 32, 42, 46, 97, 10, 109, 120, 58, 32, 42, 46, 97, 10, 109, 120, 58, 32, 42, 46, 97, 10, 109, 120, 58, 32, 42, 46, 97, 10, 109, 120, 58, 32, 42, 46, 97, 10, 109, 120, 58, 32, 42, 46, 97, 10, 109, 120, 58, 32, 42, 46, 97, 10]], [], .tuple [.agg [.int .u8 3, .slice 0 0 8 false 0 0, .int .i64 31557600], .int .i64 0], [.row [.str [42, 46, 97], .str [42, 46, 97], .str [42, 46, 97], .str [42, 46, 97], .str [42, 46, 97], .str [42, 46, 97], .str [42, 46, 97], .str [42, 46, 97]] 9 1]⟩
theorem pok42_ok : EntFOk Tryz.prog pok42 := entf_ok mixed (gs := pokGs) poks42_ok (tabL_ok TS_ok) (lim := 3000) (n := 40) (by kernel_rfl)
def poks43 : List EntF := pok42 :: poks42
theorem poks43_ok : ∀ e ∈ poks43, EntFOk Tryz.prog e := entf_cons pok42_ok poks42_ok
def pok43 : EntF := ⟨9, [.str [118, 101, 114, 115, 105, 111, 110, 58, 32, 83, 84, 83, 118, 49, 10, 109, 111, 100, 101, 58, 32, 101, 110, 102, 111, 114, 99, 101, 10, 109, 97, 120, 95, 97, 103, 101, 58, 32, 51, 49, 53, 53, 55, 54, 48, 48, 10, 109, 120, 58, 32, 42, 46, 97, 10, 109, 120, 58, 32, 42, 46, 97, 10, 109, 120, 58, 32, 42, 46, 97, 10, 109, 120, 58, 32, 42, 46, 97, 10, 109, 120, 58, 32, 42, 46, 97, 10, 109, 120, 58, 32, 42, 46, 97, 10, 109, 120, 58, 32, 42, 46, 97, 10, 109, 120, 58, 32, 42, 46, 97, 10, 109, 120, 58, 32, 98, 10]], [], .tuple [.agg [.int .u8 0, .nilSlice, .int .i64 0], .int .i64 40], []⟩
theorem pok43_ok : EntFOk Tryz.prog pok43 := entf_ok mixed (gs := pokGs) poks43_ok (tabL_ok TS_ok) (lim := 3000) (n := 40) (by kernel_rfl)
def poks44 : List EntF := pok43 :: poks43
theorem poks44_ok : ∀ e ∈ poks44, EntFOk Tryz.prog e := entf_cons pok43_ok poks43_ok
end Go.Proofs.YtiklfghncfppkaaGreatDoor
