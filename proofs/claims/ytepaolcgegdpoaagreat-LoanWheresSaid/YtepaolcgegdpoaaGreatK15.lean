import Derived.Test.YtepaolcgegdpoaaGreatK14
import Derived.KernelRfl
/- Texts Sane5 to Sane5. -/
set_option linter.all false
namespace Go.Eng
open Go Go.Proofs
def ke30 : Ent := ⟨119, [ko27, ko14, (.farr 7 [kv2, kv3]), ko19, ko23, ko26], [(.ref [0, 1] 0), kg38, (.v (.int .i64 19))], ⟨[], [], kg39⟩⟩
theorem keR30 : Ran Tryz.prog ke30 := key_ran (F := kFS) keO30 (by kernel_rfl)
def keT31 : List Ent := ke30 :: keT30
theorem keO31 : ∀ e ∈ keT31, Ran Tryz.prog e := ran_cons keR30 keO30
def ke31 : Ent := ⟨119, [ko27, ko14, (.farr 7 [kv2, kv3]), ko19, ko23, ko26], [(.ref [0, 1] 0), kg49, (.v (.int .i64 19))], ⟨[], [], kg39⟩⟩
theorem keR31 : Ran Tryz.prog ke31 := key_ran (F := kFS) keO31 (by kernel_rfl)
def keT32 : List Ent := ke31 :: keT31
theorem keO32 : ∀ e ∈ keT32, Ran Tryz.prog e := ran_cons keR31 keO31
def ko52 : O := (.box [(.v (.int .i64 5))])
def kv53 : V := (.agg [(.int .i64 1), (.int .i64 1)])
def kv54 : V := (.agg [(.int .i64 1), (.int .i64 2)])
def kg55 : D := (.tup [(.msl [163, 0, 171, 0, 551, 0] 2), (.v (.int .i64 0))])
def ke32 : Ent := ⟨104, [ko52], [kg13, (.v (.int .i64 5)), (.v (.int .i64 19)), (.v (.int .i64 60)), (.clo (.func 105) [] [(.ref [0, 1] 0)])], ⟨[], [([163, 0, 171, 0, 551, 0], (.arr 2 [kv53, kv54]))], kg55⟩⟩
theorem keR32 : Ran Tryz.prog ke32 := key_ran (F := kFS) keO32 (by kernel_rfl)
def keT33 : List Ent := ke32 :: keT32
theorem keO33 : ∀ e ∈ keT33, Ran Tryz.prog e := ran_cons keR32 keO32
def kv56 : V := (.sl [(.int .i64 25), (.int .i64 30)])
def ke33 : Ent := ⟨118, [ko14], [(.ref [0, 1] 0), (.v (.int .i64 60)), (.v kv56)], ⟨[], [], (.v (.bool true))⟩⟩
theorem keR33 : Ran Tryz.prog ke33 := key_ran (F := kFS) keO33 (by kernel_rfl)
def keT34 : List Ent := ke33 :: keT33
theorem keO34 : ∀ e ∈ keT34, Ran Tryz.prog e := ran_cons keR33 keO33
def ke34 : Ent := ⟨119, [ko27, ko14, (.arr 7 [kv2, kv3]), ko19, ko23, ko26], [(.ref [0, 1] 0), kg38, (.v (.int .i64 27))], ⟨[], [], kg39⟩⟩
theorem keR34 : Ran Tryz.prog ke34 := key_ran (F := kFS) keO34 (by kernel_rfl)
def keT35 : List Ent := ke34 :: keT34
theorem keO35 : ∀ e ∈ keT35, Ran Tryz.prog e := ran_cons keR34 keO34
def ke35 : Ent := ⟨119, [ko27, ko14, (.arr 7 [kv2, kv3]), ko19, ko23, ko26], [(.ref [0, 1] 0), kg49, (.v (.int .i64 27))], ⟨[], [], kg39⟩⟩
theorem keR35 : Ran Tryz.prog ke35 := key_ran (F := kFS) keO35 (by kernel_rfl)
def keT36 : List Ent := ke35 :: keT35
theorem keO36 : ∀ e ∈ keT36, Ran Tryz.prog e := ran_cons keR35 keO35
def ko57 : O := (.arr 1 [(.int .i64 0), (.int .i64 0), (.int .i64 5)])
def kg58 : D := (.tup [(.msl [649, 0] 3), (.v (.int .i64 0))])
def ke36 : Ent := ⟨39, [], [kg13, (.v kv56), (.v (.int .i64 1)), (.v (.int .i64 27)), (.v (.int .i64 60))], ⟨[], [([649, 0], ko57)], kg58⟩⟩
theorem keR36 : Ran Tryz.prog ke36 := key_ran (F := kFS) keO36 (by kernel_rfl)
def keT37 : List Ent := ke36 :: keT36
theorem keO37 : ∀ e ∈ keT37, Ran Tryz.prog e := ran_cons keR36 keO36
def ko59 : O := (.box [(.msl [1, 1] 2), (.msl [2, 1] 2), (.v (.sl [kv12])), (.msl [3, 1] 2)])
def ko60 : O := (.box [(.ref [0, 1] 0), (.msl [1135, 0] 2), (.msl [5192, 0] 1), (.map [204, 0]), (.map [205, 0])])
def ko61 : O := (.map 2 [(kv22, (.int .i64 0))])
def ko62 : O := (.map 0 [((.int .i64 0), kv25)])
def ke37 : Ent := ⟨76, [ko59, (.arr 2 [kv9, kv10]), (.arr 7 [kv2, kv3]), (.arr 7 [kv7, kv8])], [(.ref [0, 1] 0), (.v (.int .i64 60))], ⟨[], [([207, 0], ko60), ([1135, 0], (.arr 7 [kv2, kv3])), ([5192, 0], (.arr 1 [(.int .i64 0)])), ([204, 0], ko61), ([205, 0], ko62)], (.ref [207, 0] 0)⟩⟩
theorem keR37 : Ran Tryz.prog ke37 := key_ran (F := kFS) keO37 (by kernel_rfl)
def keT38 : List Ent := ke37 :: keT37
theorem keO38 : ∀ e ∈ keT38, Ran Tryz.prog e := ran_cons keR37 keO37
end Go.Eng
