import Derived.Test.YtepaolcgegdpoaaGreatK15
import Derived.KernelRfl
/- Texts Sane6 to Sane6. -/
set_option linter.all false
namespace Go.Eng
open Go Go.Proofs
def kg63 : D := (.tup [(.v .nilp), (.v (.int .i64 25))])
def ke38 : Ent := ⟨121, [ko59, (.arr 2 [kv9, kv10]), (.arr 7 [kv2, kv3]), (.arr 7 [kv7, kv8])], [(.ref [0, 1] 0), (.v (.int .i64 60))], ⟨[], [], kg63⟩⟩
theorem keR38 : Ran Tryz.prog ke38 := key_ran (F := kFS) keO38 (by kernel_rfl)
def keT39 : List Ent := ke38 :: keT38
theorem keO39 : ∀ e ∈ keT39, Ran Tryz.prog e := ran_cons keR38 keO38
def ko64 : O := (.arr 2 [kv53, kv54, kv9, kv10])
def kg65 : D := (.tup [(.msl [244, 0, 171, 0, 985, 0] 4), (.v (.int .i64 0))])
def ke39 : Ent := ⟨21, [], [kg13, (.v (.int .i64 20)), (.v (.int .i64 30)), (.v (.int .i64 60))], ⟨[], [([244, 0, 171, 0, 985, 0], ko64)], kg65⟩⟩
theorem keR39 : Ran Tryz.prog ke39 := key_ran (F := kFS) keO39 (by kernel_rfl)
def keT40 : List Ent := ke39 :: keT39
theorem keO40 : ∀ e ∈ keT40, Ran Tryz.prog e := ran_cons keR39 keO39
def kv66 : V := (.sl [(.int .i64 41), (.int .i64 11)])
def ke40 : Ent := ⟨38, [], [kg13, (.v (.int .i64 60)), (.v kv66)], ⟨[], [], (.v (.int .i64 29))⟩⟩
theorem keR40 : Ran Tryz.prog ke40 := key_ran (F := kFS) keO40 (by kernel_rfl)
def keT41 : List Ent := ke40 :: keT40
theorem keO41 : ∀ e ∈ keT41, Ran Tryz.prog e := ran_cons keR40 keO40
def ke41 : Ent := ⟨18, [], [], ⟨[], [], (.v (.bool true))⟩⟩
theorem keR41 : Ran Tryz.prog ke41 := key_ran (F := kFS) keO41 (by kernel_rfl)
end Go.Eng
