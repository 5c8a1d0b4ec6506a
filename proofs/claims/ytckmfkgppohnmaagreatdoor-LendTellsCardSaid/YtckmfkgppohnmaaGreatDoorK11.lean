import Derived.Test.YtckmfkgppohnmaaGreatDoorK10
import Derived.KernelRfl
/- Texts Sane2 to Sane2. -/
set_option linter.all false
namespace Go.Eng
open Go Go.Proofs
def kg12 : D := (.agg [(.v (.int .i64 0)), (.v (.sl [(.int .i64 9)])), .nilsl, (.msl [0, 1] 1), .nilsl, .nilsl, .nilsl, .nilsl, (.v (.int .i64 0)), (.v (.int .i64 1)), (.v (.int .i64 0)), (.v (.int .i64 0)), (.v (.int .i64 0)), (.v (.int .i64 0)), (.v (.int .i64 0)), (.v (.int .i64 0)), (.v (.int .i64 0)), (.v (.int .i64 0)), (.v (.int .i64 0)), (.v (.int .i64 0)), (.v (.int .i64 1)), (.msl [1, 1] 2), .nilsl, .nilsl, .nilsl, .nilsl, .nilsl, .nilsl, (.v (.int .i64 0)), (.v (.int .i64 0)), (.v (.int .i64 0)), (.v (.int .i64 0)), (.v (.int .i64 0)), (.v (.int .i64 0)), (.v (.int .i64 0)), (.v (.int .i64 0)), (.v (.int .i64 0)), (.v (.int .i64 0)), (.v (.int .i64 0)), (.v (.int .i64 0)), (.v (.int .i64 707989)), (.v (.int .i64 0)), .nilsl, .nilsl, .nilsl, .nilsl, .nilsl, .nilsl, .nilsl, (.v (.int .i64 0)), (.v (.int .i64 0)), (.v (.int .i64 0)), (.v (.int .i64 0)), (.v (.int .i64 0)), (.v (.int .i64 0)), (.v (.int .i64 0)), (.v (.int .i64 0)), (.v (.int .i64 0)), (.v (.int .i64 0)), (.v (.int .i64 0)), (.v (.int .i64 0)), (.v (.int .i64 493827)), (.v (.int .i64 (-1)))])
def ke7 : Ent := ⟨74, [(.arr 2 [kv8]), ko1], [kg12], ⟨[], [], (.v (.bool true))⟩⟩
theorem keR7 : Ran Tryz.prog ke7 := key_ran (F := kFS) keO7 (by kernel_rfl)
def keT8 : List Ent := ke7 :: keT7
theorem keO8 : ∀ e ∈ keT8, Ran Tryz.prog e := ran_cons keR7 keO7
def ko13 : O := (.box [(.v (.int .i64 0)), (.msl [70, 0, 28, 0] 1), .nilsl, (.msl [314, 0, 28, 0] 1), .nilsl, .nilsl, .nilsl, .nilsl, (.v (.int .i64 0)), (.v (.int .i64 1)), (.v (.int .i64 0)), (.v (.int .i64 0)), (.v (.int .i64 0)), (.v (.int .i64 0)), (.v (.int .i64 0)), (.v (.int .i64 0)), (.v (.int .i64 0)), (.v (.int .i64 0)), (.v (.int .i64 0)), (.v (.int .i64 0)), (.v (.int .i64 1)), (.msl [70, 0, 130, 0] 2), .nilsl, .nilsl, .nilsl, .nilsl, .nilsl, .nilsl, (.v (.int .i64 0)), (.v (.int .i64 0)), (.v (.int .i64 0)), (.v (.int .i64 0)), (.v (.int .i64 0)), (.v (.int .i64 0)), (.v (.int .i64 0)), (.v (.int .i64 0)), (.v (.int .i64 0)), (.v (.int .i64 0)), (.v (.int .i64 0)), (.v (.int .i64 0)), (.v (.int .i64 707989)), (.v (.int .i64 0)), .nilsl, .nilsl, .nilsl, .nilsl, .nilsl, .nilsl, .nilsl, (.v (.int .i64 0)), (.v (.int .i64 0)), (.v (.int .i64 0)), (.v (.int .i64 0)), (.v (.int .i64 0)), (.v (.int .i64 0)), (.v (.int .i64 0)), (.v (.int .i64 0)), (.v (.int .i64 0)), (.v (.int .i64 0)), (.v (.int .i64 0)), (.v (.int .i64 0)), (.v (.int .i64 493827)), (.v (.int .i64 (-1)))])
def ke8 : Ent := ⟨53, [(.arr 2 [kv8]), ko1], [kg12], ⟨[(1, ko1), (0, (.arr 2 [kv8]))], [([298, 0], ko13), ([70, 0, 28, 0], (.arr 1 [(.int .i64 9)])), ([314, 0, 28, 0], (.arr 2 [kv8])), ([70, 0, 130, 0], ko1)], (.ref [298, 0] 0)⟩⟩
theorem keR8 : Ran Tryz.prog ke8 := key_ran (F := kFS) keO8 (by kernel_rfl)
def keT9 : List Ent := ke8 :: keT8
theorem keO9 : ∀ e ∈ keT9, Ran Tryz.prog e := ran_cons keR8 keO8
def ke9 : Ent := ⟨58, [(.arr 2 [kv8]), ko1], [kg12], ⟨[], [], (.v (.int .i64 0))⟩⟩
theorem keR9 : Ran Tryz.prog ke9 := key_ran (F := kFS) keO9 (by kernel_rfl)
def keT10 : List Ent := ke9 :: keT9
theorem keO10 : ∀ e ∈ keT10, Ran Tryz.prog e := ran_cons keR9 keO9
def kg14 : D := (.agg [(.v (.int .i64 0)), (.msl [70, 0, 28, 0, 297, 0] 1), .nilsl, (.msl [314, 0, 28, 0, 297, 0] 1), .nilsl, .nilsl, .nilsl, .nilsl, (.v (.int .i64 0)), (.v (.int .i64 1)), (.v (.int .i64 0)), (.v (.int .i64 0)), (.v (.int .i64 0)), (.v (.int .i64 0)), (.v (.int .i64 0)), (.v (.int .i64 0)), (.v (.int .i64 0)), (.v (.int .i64 0)), (.v (.int .i64 0)), (.v (.int .i64 0)), (.v (.int .i64 1)), (.msl [70, 0, 130, 0, 297, 0] 2), .nilsl, .nilsl, .nilsl, .nilsl, .nilsl, .nilsl, (.v (.int .i64 0)), (.v (.int .i64 0)), (.v (.int .i64 0)), (.v (.int .i64 0)), (.v (.int .i64 0)), (.v (.int .i64 0)), (.v (.int .i64 0)), (.v (.int .i64 0)), (.v (.int .i64 0)), (.v (.int .i64 0)), (.v (.int .i64 0)), (.v (.int .i64 0)), (.v (.int .i64 707989)), (.v (.int .i64 2)), (.msl [70, 0, 1015, 0] 1), .nilsl, (.msl [314, 0, 1015, 0] 1), .nilsl, .nilsl, .nilsl, .nilsl, (.v (.int .i64 0)), (.v (.int .i64 1)), (.v (.int .i64 0)), (.v (.int .i64 0)), (.v (.int .i64 0)), (.v (.int .i64 0)), (.v (.int .i64 0)), (.v (.int .i64 0)), (.v (.int .i64 0)), (.v (.int .i64 0)), (.v (.int .i64 0)), (.v (.int .i64 0)), (.v (.int .i64 288542)), (.v (.int .i64 1))])
def kg15 : D := (.tup [kg14, (.v (.int .i64 0))])
def ke10 : Ent := ⟨10, [(.arr 2 [kv8]), ko1], [kg12], ⟨[(1, ko1), (0, (.arr 2 [kv8]))], [([70, 0, 28, 0, 297, 0], (.arr 1 [(.int .i64 9)])), ([314, 0, 28, 0, 297, 0], (.arr 2 [kv8])), ([70, 0, 130, 0, 297, 0], ko1), ([70, 0, 1015, 0], (.arr 1 [(.int .i64 9)])), ([314, 0, 1015, 0], (.arr 2 [kv8]))], kg15⟩⟩
theorem keR10 : Ran Tryz.prog ke10 := key_ran (F := kFS) keO10 (by kernel_rfl)
def keT11 : List Ent := ke10 :: keT10
theorem keO11 : ∀ e ∈ keT11, Ran Tryz.prog e := ran_cons keR10 keO10
def kg16 : D := (.agg [(.msl [0, 1] 1), .nilsl, (.msl [1, 1] 1), .nilsl, .nilsl, .nilsl, .nilsl, (.v (.int .i64 0)), (.v (.int .i64 1)), (.v (.int .i64 0)), (.v (.int .i64 0)), (.v (.int .i64 0)), (.v (.int .i64 0)), (.v (.int .i64 0)), (.v (.int .i64 0)), (.v (.int .i64 0)), (.v (.int .i64 0)), (.v (.int .i64 0)), (.v (.int .i64 0))])
def ke11 : Ent := ⟨89, [(.arr 1 [(.int .i64 9)]), (.arr 2 [kv8])], [(.v (.int .i64 0)), kg16], ⟨[], [], (.v (.bool true))⟩⟩
theorem keR11 : Ran Tryz.prog ke11 := key_ran (F := kFS) keO11 (by kernel_rfl)
def keT12 : List Ent := ke11 :: keT11
theorem keO12 : ∀ e ∈ keT12, Ran Tryz.prog e := ran_cons keR11 keO11
def kg17 : D := (.agg [(.v (.int .i64 0)), (.msl [0, 1] 1), .nilsl, (.msl [1, 1] 1), .nilsl, .nilsl, .nilsl, .nilsl, (.v (.int .i64 0)), (.v (.int .i64 1)), (.v (.int .i64 0)), (.v (.int .i64 0)), (.v (.int .i64 0)), (.v (.int .i64 0)), (.v (.int .i64 0)), (.v (.int .i64 0)), (.v (.int .i64 0)), (.v (.int .i64 0)), (.v (.int .i64 0)), (.v (.int .i64 0)), (.v (.int .i64 1)), (.msl [2, 1] 2), .nilsl, .nilsl, .nilsl, .nilsl, .nilsl, .nilsl, (.v (.int .i64 0)), (.v (.int .i64 0)), (.v (.int .i64 0)), (.v (.int .i64 0)), (.v (.int .i64 0)), (.v (.int .i64 0)), (.v (.int .i64 0)), (.v (.int .i64 0)), (.v (.int .i64 0)), (.v (.int .i64 0)), (.v (.int .i64 0)), (.v (.int .i64 0)), (.v (.int .i64 707989)), (.v (.int .i64 2)), (.msl [3, 1] 1), .nilsl, (.msl [4, 1] 1), .nilsl, .nilsl, .nilsl, .nilsl, (.v (.int .i64 0)), (.v (.int .i64 1)), (.v (.int .i64 0)), (.v (.int .i64 0)), (.v (.int .i64 0)), (.v (.int .i64 0)), (.v (.int .i64 0)), (.v (.int .i64 0)), (.v (.int .i64 0)), (.v (.int .i64 0)), (.v (.int .i64 0)), (.v (.int .i64 0)), (.v (.int .i64 288542)), (.v (.int .i64 1))])
def ke12 : Ent := ⟨74, [(.arr 1 [(.int .i64 9)]), (.arr 2 [kv8]), ko1, (.arr 1 [(.int .i64 9)]), (.arr 2 [kv8])], [kg17], ⟨[], [], (.v (.bool true))⟩⟩
theorem keR12 : Ran Tryz.prog ke12 := key_ran (F := kFS) keO12 (by kernel_rfl)
def keT13 : List Ent := ke12 :: keT12
theorem keO13 : ∀ e ∈ keT13, Ran Tryz.prog e := ran_cons keR12 keO12
def kg18 : D := (.agg [(.v (.int .i64 0)), (.v (.int .i64 1)), .nilsl, (.v (.int .i64 0))])
def kg19 : D := (.tup [kg18, (.v (.int .i64 0))])
def ke13 : Ent := ⟨26, [(.arr 1 [(.int .i64 9)]), (.arr 2 [kv8]), ko1, (.arr 1 [(.int .i64 9)]), (.arr 2 [kv8])], [kg17, (.v (.int .i64 1))], ⟨[], [], kg19⟩⟩
theorem keR13 : Ran Tryz.prog ke13 := key_ran (F := kFS) keO13 (by kernel_rfl)
def keT14 : List Ent := ke13 :: keT13
theorem keO14 : ∀ e ∈ keT14, Ran Tryz.prog e := ran_cons keR13 keO13
def ko20 : O := (.box [(.v (.int .i64 0)), (.msl [70, 0, 28, 0] 1), .nilsl, (.msl [314, 0, 28, 0] 1), .nilsl, .nilsl, .nilsl, .nilsl, (.v (.int .i64 0)), (.v (.int .i64 1)), (.v (.int .i64 0)), (.v (.int .i64 0)), (.v (.int .i64 0)), (.v (.int .i64 0)), (.v (.int .i64 0)), (.v (.int .i64 0)), (.v (.int .i64 0)), (.v (.int .i64 0)), (.v (.int .i64 0)), (.v (.int .i64 0)), (.v (.int .i64 1)), (.msl [70, 0, 130, 0] 2), .nilsl, .nilsl, .nilsl, .nilsl, .nilsl, .nilsl, (.v (.int .i64 0)), (.v (.int .i64 0)), (.v (.int .i64 0)), (.v (.int .i64 0)), (.v (.int .i64 0)), (.v (.int .i64 0)), (.v (.int .i64 0)), (.v (.int .i64 0)), (.v (.int .i64 0)), (.v (.int .i64 0)), (.v (.int .i64 0)), (.v (.int .i64 0)), (.v (.int .i64 707989)), (.v (.int .i64 2)), (.msl [70, 0, 222, 0] 1), .nilsl, (.msl [314, 0, 222, 0] 1), .nilsl, .nilsl, .nilsl, .nilsl, (.v (.int .i64 0)), (.v (.int .i64 1)), (.v (.int .i64 0)), (.v (.int .i64 0)), (.v (.int .i64 0)), (.v (.int .i64 0)), (.v (.int .i64 0)), (.v (.int .i64 0)), (.v (.int .i64 0)), (.v (.int .i64 0)), (.v (.int .i64 0)), (.v (.int .i64 0)), (.v (.int .i64 288542)), (.v (.int .i64 1))])
def ke14 : Ent := ⟨53, [(.arr 1 [(.int .i64 9)]), (.arr 2 [kv8]), ko1, (.arr 1 [(.int .i64 9)]), (.arr 2 [kv8])], [kg17], ⟨[(4, (.arr 2 [kv8])), (3, (.arr 1 [(.int .i64 9)])), (2, ko1), (1, (.arr 2 [kv8])), (0, (.arr 1 [(.int .i64 9)]))], [([298, 0], ko20), ([70, 0, 28, 0], (.arr 1 [(.int .i64 9)])), ([314, 0, 28, 0], (.arr 2 [kv8])), ([70, 0, 130, 0], ko1), ([70, 0, 222, 0], (.arr 1 [(.int .i64 9)])), ([314, 0, 222, 0], (.arr 2 [kv8]))], (.ref [298, 0] 0)⟩⟩
theorem keR14 : Ran Tryz.prog ke14 := key_ran (F := kFS) keO14 (by kernel_rfl)
def keT15 : List Ent := ke14 :: keT14
theorem keO15 : ∀ e ∈ keT15, Ran Tryz.prog e := ran_cons keR14 keO14
end Go.Eng
