import Derived.Test.YtofamdkaipongaaGreatK12
import Derived.KernelRfl
/- Texts Sane5 to Sane5. -/
set_option linter.all false
namespace Go.Eng
open Go Go.Proofs
def ko56 : O := (.box [(.v (.int .i64 75))])
def ke39 : Ent := ⟨140, [ko9, ko56], [(.msl [0, 1] 9), (.clo (.func 141) [] [(.ref [1, 1] 0)])], ⟨[], [], (.v (.int .i64 (-1)))⟩⟩
theorem keR39 : Ran Tryz.prog ke39 := key_ran (F := kFS) keO39 (by kernel_rfl)
def keT40 : List Ent := ke39 :: keT39
theorem keO40 : ∀ e ∈ keT40, Ran Tryz.prog e := ran_cons keR39 keO39
def ko57 : O := (.farr 9 [kd0, kd1, kd2, kd3, kd4, kd5, kd6, (v9 0 7 5 1 0 35 50 0 0), kd7])
def ke40 : Ent := ⟨80, [ko9], [(.msl [0, 1] 9)], ⟨[(0, ko57)], [], kg12⟩⟩
theorem keR40 : Ran Tryz.prog ke40 := key_ran (F := kFS) keO40 (by kernel_rfl)
def keT41 : List Ent := ke40 :: keT40
theorem keO41 : ∀ e ∈ keT41, Ran Tryz.prog e := ran_cons keR40 keO40
def kg58 : D := (.tup [(.msl [15, 0, 30, 0, 85, 0] 9), (.v (.int .i64 0))])
def ke41 : Ent := ⟨110, [], [(.v kv8), (.v (.int .i64 65)), (.v (.int .i64 75))], ⟨[], [([15, 0, 30, 0, 85, 0], ko57)], kg58⟩⟩
theorem keR41 : Ran Tryz.prog ke41 := key_ran (F := kFS) keO41 (by kernel_rfl)
def keT42 : List Ent := ke41 :: keT41
theorem keO42 : ∀ e ∈ keT42, Ran Tryz.prog e := ran_cons keR41 keO41
def ko59 : O := (.farr 9 [kd1, kd7, (v9 0 0 0 0 0 0 0 0 0), (v9 0 0 0 0 0 0 0 0 0), (v9 0 0 0 0 0 0 0 0 0), (v9 0 0 0 0 0 0 0 0 0), (v9 0 0 0 0 0 0 0 0 0), (v9 0 0 0 0 0 0 0 0 0), (v9 0 0 0 0 0 0 0 0 0)])
def ke42 : Ent := ⟨75, [ko9, ko15, ko37], [(.msl [0, 1] 9), (.clo (.func 143) [] [(.ref [1, 1] 0), (.ref [2, 1] 0)])], ⟨[(0, ko59)], [], (.v (.sl [kd1, kd7]))⟩⟩
theorem keR42 : Ran Tryz.prog ke42 := key_ran (F := kFS) keO42 (by kernel_rfl)
def keT43 : List Ent := ke42 :: keT42
theorem keO43 : ∀ e ∈ keT43, Ran Tryz.prog e := ran_cons keR42 keO42
def ke43 : Ent := ⟨105, [], [(.v (.sl [kd1, kd7])), (.v (.int .i64 65)), (.v (.clo (.func 111) [] []))], ⟨[], [], (.v (.int .i64 2))⟩⟩
theorem keR43 : Ran Tryz.prog ke43 := key_ran (F := kFS) keO43 (by kernel_rfl)
def keT44 : List Ent := ke43 :: keT43
theorem keO44 : ∀ e ∈ keT44, Ran Tryz.prog e := ran_cons keR43 keO43
def ke44 : Ent := ⟨48, [], [(.v kv8), (.v (.int .i64 12)), (.v (.int .i64 65)), (.v (.int .i64 75))], ⟨[], [], kg46⟩⟩
theorem keR44 : Ran Tryz.prog ke44 := key_ran (F := kFS) keO44 (by kernel_rfl)
def keT45 : List Ent := ke44 :: keT44
theorem keO45 : ∀ e ∈ keT45, Ran Tryz.prog e := ran_cons keR44 keO44
def ke45 : Ent := ⟨138, [], [(.v kv8), kg24, (.v (.clo (.func 139) [] []))], ⟨[], [], kg25⟩⟩
theorem keR45 : Ran Tryz.prog ke45 := key_ran (F := kFS) keO45 (by kernel_rfl)
def keT46 : List Ent := ke45 :: keT45
theorem keO46 : ∀ e ∈ keT46, Ran Tryz.prog e := ran_cons keR45 keO45
def ko60 : O := (.box [(.v (.int .i64 0)), (.v (.int .i64 6))])
def ko61 : O := (.farr 9 [kd0, kd1, kd2, kd3, kd4, kd5, (v9 0 7 5 1 0 35 50 0 0), kd7, (v9 0 0 0 0 0 0 0 0 0)])
def kv62 : V := (.sl [kd0, kd1, kd2, kd3, kd4, kd5, (v9 0 7 5 1 0 35 50 0 0), kd7])
def ke46 : Ent := ⟨75, [ko9, ko60], [(.msl [0, 1] 9), (.clo (.func 77) [] [(.ref [1, 1] 0)])], ⟨[(0, ko61)], [], (.v kv62)⟩⟩
theorem keR46 : Ran Tryz.prog ke46 := key_ran (F := kFS) keO46 (by kernel_rfl)
def keT47 : List Ent := ke46 :: keT46
theorem keO47 : ∀ e ∈ keT47, Ran Tryz.prog e := ran_cons keR46 keO46
def ke47 : Ent := ⟨90, [], [(.v kv8), (.v (.int .i64 1)), (.v (.int .i64 36)), (.v (.int .i64 9)), .nilsl], ⟨[], [], kg22⟩⟩
theorem keR47 : Ran Tryz.prog ke47 := key_ran (F := kFS) keO47 (by kernel_rfl)
def keT48 : List Ent := ke47 :: keT47
theorem keO48 : ∀ e ∈ keT48, Ran Tryz.prog e := ran_cons keR47 keO47
def ko63 : O := (.arr 1 [(.int .i64 11)])
def ke48 : Ent := ⟨91, [], [(.v kv21), (.v (.int .i64 36)), (.v (.clo (.func 92) [] []))], ⟨[], [([91, 0, 40, 0, 196, 0, 64, 0], ko63)], (.msl [91, 0, 40, 0, 196, 0, 64, 0] 1)⟩⟩
theorem keR48 : Ran Tryz.prog ke48 := key_ran (F := kFS) keO48 (by kernel_rfl)
def keT49 : List Ent := ke48 :: keT48
theorem keO49 : ∀ e ∈ keT49, Ran Tryz.prog e := ran_cons keR48 keO48
def kg64 : D := (.agg [(.msl [91, 0, 40, 0, 196, 0, 64, 0, 103, 0, 51, 0] 1), (.msl [91, 0, 40, 0, 196, 0, 64, 0, 103, 0, 92, 0] 2), (.v (.int .i64 0))])
def ke49 : Ent := ⟨135, [], [(.v kv8), (.v (.int .i64 1)), (.v (.int .i64 36)), (.v (.int .i64 9))], ⟨[], [([91, 0, 40, 0, 196, 0, 64, 0, 103, 0, 51, 0], ko63), ([91, 0, 40, 0, 196, 0, 64, 0, 103, 0, 92, 0], ko23)], kg64⟩⟩
theorem keR49 : Ran Tryz.prog ke49 := key_ran (F := kFS) keO49 (by kernel_rfl)
def keT50 : List Ent := ke49 :: keT49
theorem keO50 : ∀ e ∈ keT50, Ran Tryz.prog e := ran_cons keR49 keO49
def ke50 : Ent := ⟨39, [], [(.v kv62)], ⟨[], [], (.v (.int .i64 0))⟩⟩
theorem keR50 : Ran Tryz.prog ke50 := key_ran (F := kFS) keO50 (by kernel_rfl)
def keT51 : List Ent := ke50 :: keT50
theorem keO51 : ∀ e ∈ keT51, Ran Tryz.prog e := ran_cons keR50 keO50
end Go.Eng
