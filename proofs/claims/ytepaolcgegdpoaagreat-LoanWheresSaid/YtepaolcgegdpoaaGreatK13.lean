import Derived.Test.YtepaolcgegdpoaaGreatK12
import Derived.KernelRfl
/- Texts Sane3 to Sane3. -/
set_option linter.all false
namespace Go.Eng
open Go Go.Proofs
def ke14 : Ent := ⟨187, [ko27, ko14, (.arr 7 [kv2, kv3]), ko19, ko23, ko26], [(.ref [0, 1] 0), kg29], ⟨[], [], kg31⟩⟩
theorem keR14 : Ran Tryz.prog ke14 := key_ran (F := kFS) keO14 (by kernel_rfl)
def keT15 : List Ent := ke14 :: keT14
theorem keO15 : ∀ e ∈ keT15, Ran Tryz.prog e := ran_cons keR14 keO14
def kg38 : D := (.agg [(.v (.int .i64 1)), (.v (.int .i64 2))])
def kg39 : D := (.tup [kg1, (.v (.bool true))])
def ke15 : Ent := ⟨119, [ko27, ko14, (.arr 7 [kv2, kv3]), ko19, ko23, ko26], [(.ref [0, 1] 0), kg38, (.v (.int .i64 22))], ⟨[], [], kg39⟩⟩
theorem keR15 : Ran Tryz.prog ke15 := key_ran (F := kFS) keO15 (by kernel_rfl)
def keT16 : List Ent := ke15 :: keT15
theorem keO16 : ∀ e ∈ keT16, Ran Tryz.prog e := ran_cons keR15 keO15
def kv40 : V := (.agg [(.int .i64 20), (.int .i64 22)])
def ko41 : O := (.map 0 [((.int .i64 0), kv40), ((.int .i64 1), kv25)])
def ke16 : Ent := ⟨128, [ko27, ko14, (.arr 7 [kv2, kv3]), ko19, ko23, ko26], [(.ref [0, 1] 0), (.v (.sl [kv8]))], ⟨[(5, ko41)], [], (.v (.bool true))⟩⟩
theorem keR16 : Ran Tryz.prog ke16 := key_ran (F := kFS) keO16 (by kernel_rfl)
def keT17 : List Ent := ke16 :: keT16
theorem keO17 : ∀ e ∈ keT17, Ran Tryz.prog e := ran_cons keR16 keO16
def ke17 : Ent := ⟨119, [ko27, ko14, (.arr 7 [kv2, kv3]), ko19, ko23, ko34], [(.ref [0, 1] 0), kg38, (.v (.int .i64 22))], ⟨[], [], kg39⟩⟩
theorem keR17 : Ran Tryz.prog ke17 := key_ran (F := kFS) keO17 (by kernel_rfl)
def keT18 : List Ent := ke17 :: keT17
theorem keO18 : ∀ e ∈ keT18, Ran Tryz.prog e := ran_cons keR17 keO17
def kv42 : V := (.agg [(.int .i64 26), (.int .i64 22)])
def ko43 : O := (.map 0 [((.int .i64 0), kv42), ((.int .i64 1), kv25)])
def ke18 : Ent := ⟨128, [ko27, ko14, (.arr 7 [kv2, kv3]), ko19, ko23, ko26], [(.ref [0, 1] 0), (.v (.sl [kv7, kv8]))], ⟨[(5, ko43)], [], (.v (.bool false))⟩⟩
theorem keR18 : Ran Tryz.prog ke18 := key_ran (F := kFS) keO18 (by kernel_rfl)
def keT19 : List Ent := ke18 :: keT18
theorem keO19 : ∀ e ∈ keT19, Ran Tryz.prog e := ran_cons keR18 keO18
def kv44 : V := (.sl [(.int .i64 30), (.int .i64 31)])
def kg45 : D := (.tup [(.v kv44), (.v (.int .i64 0))])
def ke19 : Ent := ⟨43, [], [kg13, (.v (.int .i64 80))], ⟨[], [], kg45⟩⟩
theorem keR19 : Ran Tryz.prog ke19 := key_ran (F := kFS) keO19 (by kernel_rfl)
def keT20 : List Ent := ke19 :: keT19
theorem keO20 : ∀ e ∈ keT20, Ran Tryz.prog e := ran_cons keR19 keO19
def ke20 : Ent := ⟨76, [ko14], [(.ref [0, 1] 0), (.v (.int .i64 60))], ⟨[], [([207, 0], ko18), ([1135, 0], (.arr 7 [kv2, kv3])), ([5916, 0], ko19), ([204, 0], ko23), ([205, 0], ko26)], (.ref [207, 0] 0)⟩⟩
theorem keR20 : Ran Tryz.prog ke20 := key_ran (F := kFS) keO20 (by kernel_rfl)
def keT21 : List Ent := ke20 :: keT20
theorem keO21 : ∀ e ∈ keT21, Ran Tryz.prog e := ran_cons keR20 keO20
end Go.Eng
