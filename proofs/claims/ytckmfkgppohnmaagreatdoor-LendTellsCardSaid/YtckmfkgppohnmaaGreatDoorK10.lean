import Derived.Test.YtckmfkgppohnmaaGreatDoorK9
import Derived.KernelRfl
/- Texts Sane1 to Sane1. -/
set_option linter.all false
namespace Go.Eng
open Go Go.Proofs
def kFS : List Nat := [37, 89, 74, 53, 8, 58, 10, 26, 16, 14, 69, 70, 19]
def kv0 : V := (.sl [(.int .i64 7), (.int .i64 9)])
def ko1 : O := (.arr 1 [(.int .i64 7), (.int .i64 9)])
def kg2 : D := (.agg [(.v (.int .i64 0)), (.msl [127, 0] 2), .nilsl, .nilsl, .nilsl, .nilsl, .nilsl, .nilsl, (.v (.int .i64 0)), (.v (.int .i64 0)), (.v (.int .i64 0)), (.v (.int .i64 0)), (.v (.int .i64 0)), (.v (.int .i64 0)), (.v (.int .i64 0)), (.v (.int .i64 0)), (.v (.int .i64 0)), (.v (.int .i64 0)), (.v (.int .i64 0)), (.v (.int .i64 0)), (.v (.int .i64 1)), (.msl [70, 0, 167, 0] 2), .nilsl, .nilsl, .nilsl, .nilsl, .nilsl, .nilsl, (.v (.int .i64 0)), (.v (.int .i64 0)), (.v (.int .i64 0)), (.v (.int .i64 0)), (.v (.int .i64 0)), (.v (.int .i64 0)), (.v (.int .i64 0)), (.v (.int .i64 0)), (.v (.int .i64 0)), (.v (.int .i64 0)), (.v (.int .i64 0)), (.v (.int .i64 0)), (.v (.int .i64 707989)), (.v (.int .i64 0)), .nilsl, .nilsl, .nilsl, .nilsl, .nilsl, .nilsl, .nilsl, (.v (.int .i64 0)), (.v (.int .i64 0)), (.v (.int .i64 0)), (.v (.int .i64 0)), (.v (.int .i64 0)), (.v (.int .i64 0)), (.v (.int .i64 0)), (.v (.int .i64 0)), (.v (.int .i64 0)), (.v (.int .i64 0)), (.v (.int .i64 0)), (.v (.int .i64 0)), (.v (.int .i64 493827)), (.v (.int .i64 (-1)))])
def kg3 : D := (.tup [kg2, (.v (.int .i64 0))])
def ke0 : Ent := ⟨37, [], [(.v (.int .i64 0)), (.v kv0)], ⟨[], [([127, 0], ko1), ([70, 0, 167, 0], ko1)], kg3⟩⟩
theorem keR0 : Ran Tryz.prog ke0 := key_ran (F := kFS) keO0 (by kernel_rfl)
def keT1 : List Ent := ke0 :: keT0
theorem keO1 : ∀ e ∈ keT1, Ran Tryz.prog e := ran_cons keR0 keO0
def kg4 : D := (.agg [(.msl [0, 1] 2), .nilsl, .nilsl, .nilsl, .nilsl, .nilsl, .nilsl, (.v (.int .i64 0)), (.v (.int .i64 0)), (.v (.int .i64 0)), (.v (.int .i64 0)), (.v (.int .i64 0)), (.v (.int .i64 0)), (.v (.int .i64 0)), (.v (.int .i64 0)), (.v (.int .i64 0)), (.v (.int .i64 0)), (.v (.int .i64 0)), (.v (.int .i64 0))])
def ke1 : Ent := ⟨89, [ko1], [(.v (.int .i64 0)), kg4], ⟨[], [], (.v (.bool true))⟩⟩
theorem keR1 : Ran Tryz.prog ke1 := key_ran (F := kFS) keO1 (by kernel_rfl)
def keT2 : List Ent := ke1 :: keT1
theorem keO2 : ∀ e ∈ keT2, Ran Tryz.prog e := ran_cons keR1 keO1
def kg5 : D := (.agg [.nilsl, .nilsl, .nilsl, .nilsl, .nilsl, .nilsl, .nilsl, (.v (.int .i64 0)), (.v (.int .i64 0)), (.v (.int .i64 0)), (.v (.int .i64 0)), (.v (.int .i64 0)), (.v (.int .i64 0)), (.v (.int .i64 0)), (.v (.int .i64 0)), (.v (.int .i64 0)), (.v (.int .i64 0)), (.v (.int .i64 0)), (.v (.int .i64 0))])
def ke2 : Ent := ⟨89, [], [(.v (.int .i64 0)), kg5], ⟨[], [], (.v (.bool true))⟩⟩
theorem keR2 : Ran Tryz.prog ke2 := key_ran (F := kFS) keO2 (by kernel_rfl)
def keT3 : List Ent := ke2 :: keT2
theorem keO3 : ∀ e ∈ keT3, Ran Tryz.prog e := ran_cons keR2 keO2
def kg6 : D := (.agg [(.v (.int .i64 0)), (.msl [0, 1] 2), .nilsl, .nilsl, .nilsl, .nilsl, .nilsl, .nilsl, (.v (.int .i64 0)), (.v (.int .i64 0)), (.v (.int .i64 0)), (.v (.int .i64 0)), (.v (.int .i64 0)), (.v (.int .i64 0)), (.v (.int .i64 0)), (.v (.int .i64 0)), (.v (.int .i64 0)), (.v (.int .i64 0)), (.v (.int .i64 0)), (.v (.int .i64 0)), (.v (.int .i64 1)), (.msl [1, 1] 2), .nilsl, .nilsl, .nilsl, .nilsl, .nilsl, .nilsl, (.v (.int .i64 0)), (.v (.int .i64 0)), (.v (.int .i64 0)), (.v (.int .i64 0)), (.v (.int .i64 0)), (.v (.int .i64 0)), (.v (.int .i64 0)), (.v (.int .i64 0)), (.v (.int .i64 0)), (.v (.int .i64 0)), (.v (.int .i64 0)), (.v (.int .i64 0)), (.v (.int .i64 707989)), (.v (.int .i64 0)), .nilsl, .nilsl, .nilsl, .nilsl, .nilsl, .nilsl, .nilsl, (.v (.int .i64 0)), (.v (.int .i64 0)), (.v (.int .i64 0)), (.v (.int .i64 0)), (.v (.int .i64 0)), (.v (.int .i64 0)), (.v (.int .i64 0)), (.v (.int .i64 0)), (.v (.int .i64 0)), (.v (.int .i64 0)), (.v (.int .i64 0)), (.v (.int .i64 0)), (.v (.int .i64 493827)), (.v (.int .i64 (-1)))])
def ke3 : Ent := ⟨74, [ko1, ko1], [kg6], ⟨[], [], (.v (.bool true))⟩⟩
theorem keR3 : Ran Tryz.prog ke3 := key_ran (F := kFS) keO3 (by kernel_rfl)
def keT4 : List Ent := ke3 :: keT3
theorem keO4 : ∀ e ∈ keT4, Ran Tryz.prog e := ran_cons keR3 keO3
def ko7 : O := (.box [(.v (.int .i64 0)), (.msl [70, 0, 28, 0] 2), .nilsl, .nilsl, .nilsl, .nilsl, .nilsl, .nilsl, (.v (.int .i64 0)), (.v (.int .i64 0)), (.v (.int .i64 0)), (.v (.int .i64 0)), (.v (.int .i64 0)), (.v (.int .i64 0)), (.v (.int .i64 0)), (.v (.int .i64 0)), (.v (.int .i64 0)), (.v (.int .i64 0)), (.v (.int .i64 0)), (.v (.int .i64 0)), (.v (.int .i64 1)), (.msl [70, 0, 130, 0] 2), .nilsl, .nilsl, .nilsl, .nilsl, .nilsl, .nilsl, (.v (.int .i64 0)), (.v (.int .i64 0)), (.v (.int .i64 0)), (.v (.int .i64 0)), (.v (.int .i64 0)), (.v (.int .i64 0)), (.v (.int .i64 0)), (.v (.int .i64 0)), (.v (.int .i64 0)), (.v (.int .i64 0)), (.v (.int .i64 0)), (.v (.int .i64 0)), (.v (.int .i64 707989)), (.v (.int .i64 0)), .nilsl, .nilsl, .nilsl, .nilsl, .nilsl, .nilsl, .nilsl, (.v (.int .i64 0)), (.v (.int .i64 0)), (.v (.int .i64 0)), (.v (.int .i64 0)), (.v (.int .i64 0)), (.v (.int .i64 0)), (.v (.int .i64 0)), (.v (.int .i64 0)), (.v (.int .i64 0)), (.v (.int .i64 0)), (.v (.int .i64 0)), (.v (.int .i64 0)), (.v (.int .i64 493827)), (.v (.int .i64 (-1)))])
def ke4 : Ent := ⟨53, [ko1, ko1], [kg6], ⟨[(1, ko1), (0, ko1)], [([298, 0], ko7), ([70, 0, 28, 0], ko1), ([70, 0, 130, 0], ko1)], (.ref [298, 0] 0)⟩⟩
theorem keR4 : Ran Tryz.prog ke4 := key_ran (F := kFS) keO4 (by kernel_rfl)
def keT5 : List Ent := ke4 :: keT4
theorem keO5 : ∀ e ∈ keT5, Ran Tryz.prog e := ran_cons keR4 keO4
def kv8 : V := (.agg [(.int .i64 1), (.int .i64 7)])
def kg9 : D := (.agg [(.v (.int .i64 0)), (.v (.sl [(.int .i64 9)])), .nilsl, (.msl [1563, 0] 1), .nilsl, .nilsl, .nilsl, .nilsl, (.v (.int .i64 0)), (.v (.int .i64 1)), (.v (.int .i64 0)), (.v (.int .i64 0)), (.v (.int .i64 0)), (.v (.int .i64 0)), (.v (.int .i64 0)), (.v (.int .i64 0)), (.v (.int .i64 0)), (.v (.int .i64 0)), (.v (.int .i64 0)), (.v (.int .i64 0)), (.v (.int .i64 1)), (.msl [70, 0, 130, 0, 1149, 0] 2), .nilsl, .nilsl, .nilsl, .nilsl, .nilsl, .nilsl, (.v (.int .i64 0)), (.v (.int .i64 0)), (.v (.int .i64 0)), (.v (.int .i64 0)), (.v (.int .i64 0)), (.v (.int .i64 0)), (.v (.int .i64 0)), (.v (.int .i64 0)), (.v (.int .i64 0)), (.v (.int .i64 0)), (.v (.int .i64 0)), (.v (.int .i64 0)), (.v (.int .i64 707989)), (.v (.int .i64 0)), .nilsl, .nilsl, .nilsl, .nilsl, .nilsl, .nilsl, .nilsl, (.v (.int .i64 0)), (.v (.int .i64 0)), (.v (.int .i64 0)), (.v (.int .i64 0)), (.v (.int .i64 0)), (.v (.int .i64 0)), (.v (.int .i64 0)), (.v (.int .i64 0)), (.v (.int .i64 0)), (.v (.int .i64 0)), (.v (.int .i64 0)), (.v (.int .i64 0)), (.v (.int .i64 493827)), (.v (.int .i64 (-1)))])
def kg10 : D := (.tup [kg9, (.v (.int .i64 0))])
def ke5 : Ent := ⟨8, [ko1, ko1], [kg6, (.v (.int .i64 7)), (.v (.int .i64 1))], ⟨[(1, ko1), (0, ko1)], [([1563, 0], (.arr 2 [kv8])), ([70, 0, 130, 0, 1149, 0], ko1)], kg10⟩⟩
theorem keR5 : Ran Tryz.prog ke5 := key_ran (F := kFS) keO5 (by kernel_rfl)
def keT6 : List Ent := ke5 :: keT5
theorem keO6 : ∀ e ∈ keT6, Ran Tryz.prog e := ran_cons keR5 keO5
def kg11 : D := (.agg [(.v (.sl [(.int .i64 9)])), .nilsl, (.msl [0, 1] 1), .nilsl, .nilsl, .nilsl, .nilsl, (.v (.int .i64 0)), (.v (.int .i64 1)), (.v (.int .i64 0)), (.v (.int .i64 0)), (.v (.int .i64 0)), (.v (.int .i64 0)), (.v (.int .i64 0)), (.v (.int .i64 0)), (.v (.int .i64 0)), (.v (.int .i64 0)), (.v (.int .i64 0)), (.v (.int .i64 0))])
def ke6 : Ent := ⟨89, [(.arr 2 [kv8])], [(.v (.int .i64 0)), kg11], ⟨[], [], (.v (.bool true))⟩⟩
theorem keR6 : Ran Tryz.prog ke6 := key_ran (F := kFS) keO6 (by kernel_rfl)
def keT7 : List Ent := ke6 :: keT6
theorem keO7 : ∀ e ∈ keT7, Ran Tryz.prog e := ran_cons keR6 keO6
end Go.Eng
