import Derived.Test.YtofamdkaipongaaGreatK10
import Derived.KernelRfl
/- Texts Sane3 to Sane3. -/
set_option linter.all false
namespace Go.Eng
open Go Go.Proofs
def kg46 : D := (.tup [(.v (.int .i64 2)), (.v (.int .i64 0))])
def ke25 : Ent := ⟨28, [], [(.v kv8), (.v kv29), (.v (.int .i64 36)), (.v (.int .i64 9))], ⟨[], [], kg46⟩⟩
theorem keR25 : Ran Tryz.prog ke25 := key_ran (F := kFS) keO25 (by kernel_rfl)
def keT26 : List Ent := ke25 :: keT25
theorem keO26 : ∀ e ∈ keT26, Ran Tryz.prog e := ran_cons keR25 keO25
def kv47 : V := (.sl [(.int .i64 11), (.int .i64 12), (.int .i64 13), (.int .i64 14)])
def ke26 : Ent := ⟨82, [], [(.v kv8), (.v kv47), (.v (.int .i64 36)), (.v (.int .i64 9))], ⟨[], [], kg31⟩⟩
theorem keR26 : Ran Tryz.prog ke26 := key_ran (F := kFS) keO26 (by kernel_rfl)
def keT27 : List Ent := ke26 :: keT26
theorem keO27 : ∀ e ∈ keT27, Ran Tryz.prog e := ran_cons keR26 keO26
def ke27 : Ent := ⟨127, [], [kg30, (.v kv47)], ⟨[], [], kg42⟩⟩
theorem keR27 : Ran Tryz.prog ke27 := key_ran (F := kFS) keO27 (by kernel_rfl)
def keT28 : List Ent := ke27 :: keT27
theorem keO28 : ∀ e ∈ keT28, Ran Tryz.prog e := ran_cons keR27 keO27
def ke28 : Ent := ⟨122, [], [kg44, (.v kv47)], ⟨[], [], (.v (.bool true))⟩⟩
theorem keR28 : Ran Tryz.prog ke28 := key_ran (F := kFS) keO28 (by kernel_rfl)
def keT29 : List Ent := ke28 :: keT28
theorem keO29 : ∀ e ∈ keT29, Ran Tryz.prog e := ran_cons keR28 keO28
def kg48 : D := (.agg [(.v (.int .i64 0)), (.v (.int .i64 0)), (.v (.int .i64 0)), (.v (.int .i64 0)), (.v (.int .i64 0)), (.v (.int .i64 0)), (.v (.int .i64 0)), (.v (.int .i64 0)), (.v (.bool false)), (.v (.int .i64 0)), (.v (.int .i64 0)), (.v (.bool false)), (.v (.int .i64 0)), (.v (.int .i64 0)), (.v (.bool false))])
def kg49 : D := (.tup [kg48, (.v (.int .i64 0)), (.v (.bool false))])
def ke29 : Ent := ⟨128, [], [kg30, (.v kv47)], ⟨[], [], kg49⟩⟩
theorem keR29 : Ran Tryz.prog ke29 := key_ran (F := kFS) keO29 (by kernel_rfl)
def keT30 : List Ent := ke29 :: keT29
theorem keO30 : ∀ e ∈ keT30, Ran Tryz.prog e := ran_cons keR29 keO29
def kg50 : D := (.tup [(.v (.int .i64 1)), (.v (.int .i64 0))])
def ke30 : Ent := ⟨28, [], [(.v kv8), (.v kv47), (.v (.int .i64 36)), (.v (.int .i64 9))], ⟨[], [], kg50⟩⟩
theorem keR30 : Ran Tryz.prog ke30 := key_ran (F := kFS) keO30 (by kernel_rfl)
def keT31 : List Ent := ke30 :: keT30
theorem keO31 : ∀ e ∈ keT31, Ran Tryz.prog e := ran_cons keR30 keO30
def kg51 : D := (.tup [(.v kv11), (.v (.int .i64 0))])
def ke31 : Ent := ⟨110, [], [(.v kv8), (.v (.int .i64 36)), (.v (.int .i64 9))], ⟨[], [], kg51⟩⟩
theorem keR31 : Ran Tryz.prog ke31 := key_ran (F := kFS) keO31 (by kernel_rfl)
def keT32 : List Ent := ke31 :: keT31
theorem keO32 : ∀ e ∈ keT32, Ran Tryz.prog e := ran_cons keR31 keO31
def ke32 : Ent := ⟨91, [], [(.v kv21), (.v (.int .i64 36)), (.v (.clo (.func 93) [] []))], ⟨[], [([91, 0, 40, 0, 196, 0, 64, 0], ko23)], (.msl [91, 0, 40, 0, 196, 0, 64, 0] 2)⟩⟩
theorem keR32 : Ran Tryz.prog ke32 := key_ran (F := kFS) keO32 (by kernel_rfl)
def keT33 : List Ent := ke32 :: keT32
theorem keO33 : ∀ e ∈ keT33, Ran Tryz.prog e := ran_cons keR32 keO32
end Go.Eng
