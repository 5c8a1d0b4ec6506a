import Derived.Test.YtepaolcgegdpoaaGreatK10
import Derived.KernelRfl
/- Texts Sane1 to Sane1. -/
set_option linter.all false
namespace Go.Eng
open Go Go.Proofs
def kFS : List Nat := [63, 111, 65, 115, 37, 76, 42, 120, 187, 78, 27, 119, 128, 43, 80, 23, 17, 16, 104, 118, 39, 121, 21, 38, 18]
def kv0 : V := (.sl [(.int .i64 1), (.int .i64 2), (.int .i64 3)])
def kg1 : D := (.agg [(.v (.int .i64 10)), (.v (.int .i64 5)), (.v (.int .i64 1)), (.v kv0), (.v (.int .i64 10)), (.v (.int .i64 10)), (.v (.int .i64 0))])
def ke0 : Ent := ⟨63, [], [kg1], ⟨[], [], (.v (.int .i64 0))⟩⟩
theorem keR0 : Ran Tryz.prog ke0 := key_ran (F := kFS) keO0 (by kernel_rfl)
def keT1 : List Ent := ke0 :: keT0
theorem keO1 : ∀ e ∈ keT1, Ran Tryz.prog e := ran_cons keR0 keO0
def kv2 : V := (.agg [(.int .i64 10), (.int .i64 5), (.int .i64 1), kv0, (.int .i64 10), (.int .i64 10), (.int .i64 0)])
def kv3 : V := (.agg [(.int .i64 11), (.int .i64 6), (.int .i64 1), (.sl [(.int .i64 2)]), (.int .i64 40), (.int .i64 40), (.int .i64 0)])
def ke1 : Ent := ⟨111, [], [(.v (.sl [kv2, kv3])), (.v (.int .i64 60)), (.v (.clo (.func 63) [] [])), (.v (.clo (.func 112) [] []))], ⟨[], [], (.v (.bool true))⟩⟩
theorem keR1 : Ran Tryz.prog ke1 := key_ran (F := kFS) keO1 (by kernel_rfl)
def keT2 : List Ent := ke1 :: keT1
theorem keO2 : ∀ e ∈ keT2, Ran Tryz.prog e := ran_cons keR1 keO1
def kv4 : V := (.sl [(.int .i64 1), (.int .i64 2)])
def kg5 : D := (.agg [(.v (.int .i64 20)), (.v (.int .i64 10)), (.v (.int .i64 7)), (.v kv4), (.v (.int .i64 20)), (.v (.int .i64 50)), (.v (.int .i64 60)), (.v (.int .i64 0))])
def ke2 : Ent := ⟨65, [], [kg5], ⟨[], [], (.v (.int .i64 0))⟩⟩
theorem keR2 : Ran Tryz.prog ke2 := key_ran (F := kFS) keO2 (by kernel_rfl)
def keT3 : List Ent := ke2 :: keT2
theorem keO3 : ∀ e ∈ keT3, Ran Tryz.prog e := ran_cons keR2 keO2
def kg6 : D := (.agg [(.v (.int .i64 21)), (.v (.int .i64 10)), (.v (.int .i64 5)), (.v (.sl [(.int .i64 3)])), (.v (.int .i64 5)), (.v (.int .i64 30)), (.v (.int .i64 60)), (.v (.int .i64 0))])
def ke3 : Ent := ⟨65, [], [kg6], ⟨[], [], (.v (.int .i64 0))⟩⟩
theorem keR3 : Ran Tryz.prog ke3 := key_ran (F := kFS) keO3 (by kernel_rfl)
def keT4 : List Ent := ke3 :: keT3
theorem keO4 : ∀ e ∈ keT4, Ran Tryz.prog e := ran_cons keR3 keO3
def kv7 : V := (.agg [(.int .i64 30), (.int .i64 5), (.int .i64 1), (.int .i64 1), (.int .i64 25), (.int .i64 70), (.int .i64 0)])
def kv8 : V := (.agg [(.int .i64 31), (.int .i64 0), (.int .i64 1), (.int .i64 2), (.int .i64 22), (.int .i64 80), (.int .i64 0)])
def ke4 : Ent := ⟨115, [], [(.v (.sl [kv7, kv8])), (.v (.int .i64 60)), (.v (.clo (.func 67) [] [])), (.v (.clo (.func 116) [] []))], ⟨[], [], (.v (.bool true))⟩⟩
theorem keR4 : Ran Tryz.prog ke4 := key_ran (F := kFS) keO4 (by kernel_rfl)
def keT5 : List Ent := ke4 :: keT4
theorem keO5 : ∀ e ∈ keT5, Ran Tryz.prog e := ran_cons keR4 keO4
def kv9 : V := (.agg [(.int .i64 1), (.int .i64 3)])
def kv10 : V := (.agg [(.int .i64 2), (.int .i64 1)])
def kv11 : V := (.agg [(.int .i64 20), (.int .i64 10), (.int .i64 7), kv4, (.int .i64 20), (.int .i64 50), (.int .i64 60), (.int .i64 0)])
def kv12 : V := (.agg [(.int .i64 21), (.int .i64 10), (.int .i64 5), (.sl [(.int .i64 3)]), (.int .i64 5), (.int .i64 30), (.int .i64 60), (.int .i64 0)])
def kg13 : D := (.agg [(.v (.sl [kv9, kv10])), (.v (.sl [kv2, kv3])), (.v (.sl [kv11, kv12])), (.v (.sl [kv7, kv8]))])
def ke5 : Ent := ⟨37, [], [kg13], ⟨[], [], (.v (.int .i64 0))⟩⟩
theorem keR5 : Ran Tryz.prog ke5 := key_ran (F := kFS) keO5 (by kernel_rfl)
def keT6 : List Ent := ke5 :: keT5
theorem keO6 : ∀ e ∈ keT6, Ran Tryz.prog e := ran_cons keR5 keO5
def ko14 : O := (.box [(.v (.sl [kv9, kv10])), (.v (.sl [kv2, kv3])), (.v (.sl [kv11, kv12])), (.v (.sl [kv7, kv8]))])
def ko15 : O := (.box [(.ref [0, 1] 0), (.msl [1135, 0] 2), .nilsl, (.map [204, 0]), (.map [205, 0])])
def ke6 : Ent := ⟨76, [ko14], [(.ref [0, 1] 0), (.v (.int .i64 50))], ⟨[], [([207, 0], ko15), ([1135, 0], (.arr 7 [kv2, kv3])), ([204, 0], (.map 2 [])), ([205, 0], (.map 0 []))], (.ref [207, 0] 0)⟩⟩
theorem keR6 : Ran Tryz.prog ke6 := key_ran (F := kFS) keO6 (by kernel_rfl)
def keT7 : List Ent := ke6 :: keT6
theorem keO7 : ∀ e ∈ keT7, Ran Tryz.prog e := ran_cons keR6 keO6
def kv16 : V := (.sl [(.int .i64 10), (.int .i64 11)])
def kg17 : D := (.tup [(.v kv16), (.v (.int .i64 0))])
def ke7 : Ent := ⟨42, [], [kg13, (.v (.int .i64 50))], ⟨[], [], kg17⟩⟩
theorem keR7 : Ran Tryz.prog ke7 := key_ran (F := kFS) keO7 (by kernel_rfl)
def keT8 : List Ent := ke7 :: keT7
theorem keO8 : ∀ e ∈ keT8, Ran Tryz.prog e := ran_cons keR7 keO7
end Go.Eng
