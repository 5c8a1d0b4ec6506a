import Derived.Test.YtepaolcgegdpoaaGreatK11
import Derived.KernelRfl
/- Texts Sane2 to Sane2. -/
set_option linter.all false
namespace Go.Eng
open Go Go.Proofs
def ko18 : O := (.box [(.ref [0, 1] 0), (.msl [1135, 0] 2), (.msl [5916, 0] 2), (.map [204, 0]), (.map [205, 0])])
def ko19 : O := (.arr 1 [(.int .i64 0), (.int .i64 1)])
def kv20 : V := (.agg [(.int .i64 10), (.int .i64 1)])
def kv21 : V := (.agg [(.int .i64 10), (.int .i64 2)])
def kv22 : V := (.agg [(.int .i64 10), (.int .i64 3)])
def ko23 : O := (.map 2 [(kv20, (.int .i64 0)), (kv21, (.int .i64 0)), (kv22, (.int .i64 1))])
def kv24 : V := (.agg [(.int .i64 20), (.int .i64 40)])
def kv25 : V := (.agg [(.int .i64 11), (.int .i64 30)])
def ko26 : O := (.map 0 [((.int .i64 0), kv24), ((.int .i64 1), kv25)])
def ke8 : Ent := ⟨76, [ko14], [(.ref [0, 1] 0), (.v (.int .i64 70))], ⟨[], [([207, 0], ko18), ([1135, 0], (.arr 7 [kv2, kv3])), ([5916, 0], ko19), ([204, 0], ko23), ([205, 0], ko26)], (.ref [207, 0] 0)⟩⟩
theorem keR8 : Ran Tryz.prog ke8 := key_ran (F := kFS) keO8 (by kernel_rfl)
def keT9 : List Ent := ke8 :: keT8
theorem keO9 : ∀ e ∈ keT9, Ran Tryz.prog e := ran_cons keR8 keO8
def ko27 : O := (.box [(.ref [1, 1] 0), (.msl [2, 1] 2), (.msl [3, 1] 2), (.map [4, 1]), (.map [5, 1])])
def kg28 : D := (.tup [.nilsl, (.v (.bool false))])
def ke9 : Ent := ⟨120, [ko27, ko14, (.arr 7 [kv2, kv3]), ko19, ko23, ko26], [(.ref [0, 1] 0)], ⟨[(2, (.farr 7 [kv2, kv3]))], [], kg28⟩⟩
theorem keR9 : Ran Tryz.prog ke9 := key_ran (F := kFS) keO9 (by kernel_rfl)
def keT10 : List Ent := ke9 :: keT9
theorem keO10 : ∀ e ∈ keT10, Ran Tryz.prog e := ran_cons keR9 keO9
def kg29 : D := (.agg [(.v (.int .i64 30)), (.v (.int .i64 5)), (.v (.int .i64 1)), (.v (.int .i64 1)), (.v (.int .i64 25)), (.v (.int .i64 70)), (.v (.int .i64 0))])
def kg30 : D := (.agg [(.v (.int .i64 26)), (.v (.int .i64 100000))])
def kg31 : D := (.tup [(.v (.int .i64 0)), kg30])
def ke10 : Ent := ⟨187, [ko27, ko14, (.farr 7 [kv2, kv3]), ko19, ko23, ko26], [(.ref [0, 1] 0), kg29], ⟨[], [], kg31⟩⟩
theorem keR10 : Ran Tryz.prog ke10 := key_ran (F := kFS) keO10 (by kernel_rfl)
def keT11 : List Ent := ke10 :: keT10
theorem keO11 : ∀ e ∈ keT11, Ran Tryz.prog e := ran_cons keR10 keO10
def ko32 : O := (.box [(.ref [0, 1] 0), (.msl [1135, 0, 30, 0, 35, 0] 2), (.msl [5916, 0, 30, 0, 35, 0] 2), (.map [204, 0, 30, 0, 35, 0]), (.map [205, 0, 30, 0, 35, 0])])
def kv33 : V := (.agg [(.int .i64 26), (.int .i64 40)])
def ko34 : O := (.map 0 [((.int .i64 0), kv33), ((.int .i64 1), kv25)])
def kg35 : D := (.tup [(.ref [207, 0, 30, 0, 35, 0] 0), (.v (.int .i64 0))])
def ke11 : Ent := ⟨78, [ko14], [(.ref [0, 1] 0), (.v (.int .i64 70))], ⟨[], [([207, 0, 30, 0, 35, 0], ko32), ([1135, 0, 30, 0, 35, 0], (.farr 7 [kv2, kv3])), ([5916, 0, 30, 0, 35, 0], ko19), ([204, 0, 30, 0, 35, 0], ko23), ([205, 0, 30, 0, 35, 0], ko34)], kg35⟩⟩
theorem keR11 : Ran Tryz.prog ke11 := key_ran (F := kFS) keO11 (by kernel_rfl)
def keT12 : List Ent := ke11 :: keT11
theorem keO12 : ∀ e ∈ keT12, Ran Tryz.prog e := ran_cons keR11 keO11
def kg36 : D := (.agg [(.v (.int .i64 26)), (.v (.int .i64 40))])
def kg37 : D := (.tup [kg36, (.v (.int .i64 0))])
def ke12 : Ent := ⟨27, [], [kg13, (.v (.int .i64 20)), (.v (.int .i64 70))], ⟨[], [], kg37⟩⟩
theorem keR12 : Ran Tryz.prog ke12 := key_ran (F := kFS) keO12 (by kernel_rfl)
def keT13 : List Ent := ke12 :: keT12
theorem keO13 : ∀ e ∈ keT13, Ran Tryz.prog e := ran_cons keR12 keO12
def ke13 : Ent := ⟨76, [ko14], [(.ref [0, 1] 0), (.v (.int .i64 80))], ⟨[], [([207, 0], ko18), ([1135, 0], (.arr 7 [kv2, kv3])), ([5916, 0], ko19), ([204, 0], ko23), ([205, 0], ko26)], (.ref [207, 0] 0)⟩⟩
theorem keR13 : Ran Tryz.prog ke13 := key_ran (F := kFS) keO13 (by kernel_rfl)
def keT14 : List Ent := ke13 :: keT13
theorem keO14 : ∀ e ∈ keT14, Ran Tryz.prog e := ran_cons keR13 keO13
end Go.Eng
