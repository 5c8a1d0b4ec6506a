import Derived.Test.YtckmfkgppohnmaaGreatDoorK12
import Derived.KernelRfl
/- Texts Sane4 to Sane4. -/
set_option linter.all false
namespace Go.Eng
open Go Go.Proofs
def kg30 : D := (.agg [(.msl [0, 1] 1), .nilsl, .nilsl, .nilsl, .nilsl, .nilsl, .nilsl, (.v (.int .i64 0)), (.v (.int .i64 0)), (.v (.int .i64 0)), (.v (.int .i64 0)), (.v (.int .i64 0)), (.v (.int .i64 0)), (.v (.int .i64 1)), (.v (.int .i64 0)), (.v (.int .i64 0)), (.v (.int .i64 0)), (.v (.int .i64 0)), (.v (.int .i64 0))])
def ke23 : Ent := ⟨89, [(.arr 1 [(.int .i64 7)])], [(.v (.int .i64 1)), kg30], ⟨[], [], (.v (.bool true))⟩⟩
theorem keR23 : Ran Tryz.prog ke23 := key_ran (F := kFS) keO23 (by kernel_rfl)
def keT24 : List Ent := ke23 :: keT23
theorem keO24 : ∀ e ∈ keT24, Ran Tryz.prog e := ran_cons keR23 keO23
def kg31 : D := (.agg [(.v (.int .i64 1)), (.msl [0, 1] 1), .nilsl, .nilsl, .nilsl, .nilsl, .nilsl, .nilsl, (.v (.int .i64 0)), (.v (.int .i64 0)), (.v (.int .i64 0)), (.v (.int .i64 0)), (.v (.int .i64 0)), (.v (.int .i64 0)), (.v (.int .i64 1)), (.v (.int .i64 0)), (.v (.int .i64 0)), (.v (.int .i64 0)), (.v (.int .i64 0)), (.v (.int .i64 0)), (.v (.int .i64 1)), .nilsl, .nilsl, .nilsl, .nilsl, .nilsl, .nilsl, .nilsl, (.v (.int .i64 0)), (.v (.int .i64 0)), (.v (.int .i64 0)), (.v (.int .i64 0)), (.v (.int .i64 0)), (.v (.int .i64 0)), (.v (.int .i64 0)), (.v (.int .i64 0)), (.v (.int .i64 0)), (.v (.int .i64 0)), (.v (.int .i64 0)), (.v (.int .i64 0)), (.v (.int .i64 947894)), (.v (.int .i64 0)), .nilsl, .nilsl, .nilsl, .nilsl, .nilsl, .nilsl, .nilsl, (.v (.int .i64 0)), (.v (.int .i64 0)), (.v (.int .i64 0)), (.v (.int .i64 0)), (.v (.int .i64 0)), (.v (.int .i64 0)), (.v (.int .i64 0)), (.v (.int .i64 0)), (.v (.int .i64 0)), (.v (.int .i64 0)), (.v (.int .i64 0)), (.v (.int .i64 0)), (.v (.int .i64 493827)), (.v (.int .i64 (-1)))])
def ke24 : Ent := ⟨74, [(.arr 1 [(.int .i64 7)])], [kg31], ⟨[], [], (.v (.bool true))⟩⟩
theorem keR24 : Ran Tryz.prog ke24 := key_ran (F := kFS) keO24 (by kernel_rfl)
def keT25 : List Ent := ke24 :: keT24
theorem keO25 : ∀ e ∈ keT25, Ran Tryz.prog e := ran_cons keR24 keO24
def kg32 : D := (.agg [(.v (.int .i64 0)), (.msl [0, 1] 2), .nilsl, .nilsl, .nilsl, .nilsl, .nilsl, .nilsl, (.v (.int .i64 0)), (.v (.int .i64 0)), (.v (.int .i64 0)), (.v (.int .i64 0)), (.v (.int .i64 0)), (.v (.int .i64 0)), (.v (.int .i64 0)), (.v (.int .i64 0)), (.v (.int .i64 0)), (.v (.int .i64 0)), (.v (.int .i64 0)), (.v (.int .i64 0)), (.v (.int .i64 1)), (.msl [1, 1] 2), .nilsl, .nilsl, .nilsl, .nilsl, .nilsl, .nilsl, (.v (.int .i64 0)), (.v (.int .i64 0)), (.v (.int .i64 0)), (.v (.int .i64 0)), (.v (.int .i64 0)), (.v (.int .i64 0)), (.v (.int .i64 0)), (.v (.int .i64 0)), (.v (.int .i64 0)), (.v (.int .i64 0)), (.v (.int .i64 0)), (.v (.int .i64 0)), (.v (.int .i64 707989)), (.v (.int .i64 2)), (.msl [2, 1] 1), .nilsl, (.msl [3, 1] 1), .nilsl, .nilsl, .nilsl, .nilsl, (.v (.int .i64 0)), (.v (.int .i64 1)), (.v (.int .i64 0)), (.v (.int .i64 0)), (.v (.int .i64 0)), (.v (.int .i64 0)), (.v (.int .i64 0)), (.v (.int .i64 0)), (.v (.int .i64 0)), (.v (.int .i64 0)), (.v (.int .i64 0)), (.v (.int .i64 0)), (.v (.int .i64 288543)), (.v (.int .i64 (-1)))])
def ke25 : Ent := ⟨74, [ko1, ko1, (.arr 1 [(.int .i64 9)]), (.arr 2 [kv8])], [kg32], ⟨[], [], (.v (.bool true))⟩⟩
theorem keR25 : Ran Tryz.prog ke25 := key_ran (F := kFS) keO25 (by kernel_rfl)
def keT26 : List Ent := ke25 :: keT25
theorem keO26 : ∀ e ∈ keT26, Ran Tryz.prog e := ran_cons keR25 keO25
def kg33 : D := (.agg [(.v (.sl [(.int .i64 9)])), (.v (.sl [])), (.v (.sl [kv8])), (.v (.sl [])), (.v (.sl [])), (.v (.sl [])), (.v (.sl [])), (.v (.int .i64 0)), (.v (.int .i64 1)), (.v (.int .i64 0)), (.v (.int .i64 0)), (.v (.int .i64 0)), (.v (.int .i64 0)), (.v (.int .i64 0)), (.v (.int .i64 0)), (.v (.int .i64 0)), (.v (.int .i64 0)), (.v (.int .i64 0)), (.v (.int .i64 0))])
def ke26 : Ent := ⟨89, [], [(.v (.int .i64 0)), kg33], ⟨[], [], (.v (.bool true))⟩⟩
theorem keR26 : Ran Tryz.prog ke26 := key_ran (F := kFS) keO26 (by kernel_rfl)
def keT27 : List Ent := ke26 :: keT26
theorem keO27 : ∀ e ∈ keT27, Ran Tryz.prog e := ran_cons keR26 keO26
def kg34 : D := (.agg [(.v kv0), (.v (.sl [])), (.v (.sl [])), (.v (.sl [])), (.v (.sl [])), (.v (.sl [])), (.v (.sl [])), (.v (.int .i64 0)), (.v (.int .i64 0)), (.v (.int .i64 0)), (.v (.int .i64 0)), (.v (.int .i64 0)), (.v (.int .i64 0)), (.v (.int .i64 0)), (.v (.int .i64 0)), (.v (.int .i64 0)), (.v (.int .i64 0)), (.v (.int .i64 0)), (.v (.int .i64 0))])
def ke27 : Ent := ⟨89, [], [(.v (.int .i64 0)), kg34], ⟨[], [], (.v (.bool true))⟩⟩
theorem keR27 : Ran Tryz.prog ke27 := key_ran (F := kFS) keO27 (by kernel_rfl)
def keT28 : List Ent := ke27 :: keT27
theorem keO28 : ∀ e ∈ keT28, Ran Tryz.prog e := ran_cons keR27 keO27
def kg35 : D := (.agg [(.v (.int .i64 0)), (.v (.sl [(.int .i64 9)])), (.v (.sl [])), (.v (.sl [kv8])), (.v (.sl [])), (.v (.sl [])), (.v (.sl [])), (.v (.sl [])), (.v (.int .i64 0)), (.v (.int .i64 1)), (.v (.int .i64 0)), (.v (.int .i64 0)), (.v (.int .i64 0)), (.v (.int .i64 0)), (.v (.int .i64 0)), (.v (.int .i64 0)), (.v (.int .i64 0)), (.v (.int .i64 0)), (.v (.int .i64 0)), (.v (.int .i64 0)), (.v (.int .i64 1)), (.v kv0), (.v (.sl [])), (.v (.sl [])), (.v (.sl [])), (.v (.sl [])), (.v (.sl [])), (.v (.sl [])), (.v (.int .i64 0)), (.v (.int .i64 0)), (.v (.int .i64 0)), (.v (.int .i64 0)), (.v (.int .i64 0)), (.v (.int .i64 0)), (.v (.int .i64 0)), (.v (.int .i64 0)), (.v (.int .i64 0)), (.v (.int .i64 0)), (.v (.int .i64 0)), (.v (.int .i64 0)), (.v (.int .i64 707989)), (.v (.int .i64 2)), (.v (.sl [(.int .i64 9)])), (.v (.sl [])), (.v (.sl [kv8])), (.v (.sl [])), (.v (.sl [])), (.v (.sl [])), (.v (.sl [])), (.v (.int .i64 0)), (.v (.int .i64 1)), (.v (.int .i64 0)), (.v (.int .i64 0)), (.v (.int .i64 0)), (.v (.int .i64 0)), (.v (.int .i64 0)), (.v (.int .i64 0)), (.v (.int .i64 0)), (.v (.int .i64 0)), (.v (.int .i64 0)), (.v (.int .i64 0)), (.v (.int .i64 288542)), (.v (.int .i64 (-1)))])
def ke28 : Ent := ⟨74, [], [kg35], ⟨[], [], (.v (.bool true))⟩⟩
theorem keR28 : Ran Tryz.prog ke28 := key_ran (F := kFS) keO28 (by kernel_rfl)
def keT29 : List Ent := ke28 :: keT28
theorem keO29 : ∀ e ∈ keT29, Ran Tryz.prog e := ran_cons keR28 keO28
end Go.Eng
