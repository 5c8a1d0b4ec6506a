import Derived.Test.YtepaolcgegdpoaaGreatK13
import Derived.KernelRfl
/- Texts Sane4 to Sane4. -/
set_option linter.all false
namespace Go.Eng
open Go Go.Proofs
def ke21 : Ent := ⟨78, [ko14], [(.ref [0, 1] 0), (.v (.int .i64 60))], ⟨[], [([207, 0, 30, 0, 35, 0], ko32), ([1135, 0, 30, 0, 35, 0], (.farr 7 [kv2, kv3])), ([5916, 0, 30, 0, 35, 0], ko19), ([204, 0, 30, 0, 35, 0], ko23), ([205, 0, 30, 0, 35, 0], ko26)], kg35⟩⟩
theorem keR21 : Ran Tryz.prog ke21 := key_ran (F := kFS) keO21 (by kernel_rfl)
def keT22 : List Ent := ke21 :: keT21
theorem keO22 : ∀ e ∈ keT22, Ran Tryz.prog e := ran_cons keR21 keO21
def kg46 : D := (.agg [(.v (.int .i64 1)), (.v (.int .i64 1))])
def ko47 : O := (.arr 1 [(.int .i64 0), (.int .i64 5)])
def ke22 : Ent := ⟨80, [ko27, ko14, (.farr 7 [kv2, kv3]), ko19, ko23, ko26], [(.ref [0, 1] 0), kg46, (.v (.int .i64 24))], ⟨[], [([520, 0], ko47)], (.msl [520, 0] 2)⟩⟩
theorem keR22 : Ran Tryz.prog ke22 := key_ran (F := kFS) keO22 (by kernel_rfl)
def keT23 : List Ent := ke22 :: keT22
theorem keO23 : ∀ e ∈ keT23, Ran Tryz.prog e := ran_cons keR22 keO22
def kg48 : D := (.tup [(.msl [520, 0, 279, 0] 2), (.v (.int .i64 0))])
def ke23 : Ent := ⟨23, [], [kg13, kg46, (.v (.int .i64 24)), (.v (.int .i64 60))], ⟨[], [([520, 0, 279, 0], ko47)], kg48⟩⟩
theorem keR23 : Ran Tryz.prog ke23 := key_ran (F := kFS) keO23 (by kernel_rfl)
def keT24 : List Ent := ke23 :: keT23
theorem keO24 : ∀ e ∈ keT24, Ran Tryz.prog e := ran_cons keR23 keO23
def ke24 : Ent := ⟨80, [ko27, ko14, (.farr 7 [kv2, kv3]), ko19, ko23, ko26], [(.ref [0, 1] 0), kg46, (.v (.int .i64 30))], ⟨[], [([520, 0], ko47)], (.msl [520, 0] 2)⟩⟩
theorem keR24 : Ran Tryz.prog ke24 := key_ran (F := kFS) keO24 (by kernel_rfl)
def keT25 : List Ent := ke24 :: keT24
theorem keO25 : ∀ e ∈ keT25, Ran Tryz.prog e := ran_cons keR24 keO24
def ke25 : Ent := ⟨119, [ko27, ko14, (.farr 7 [kv2, kv3]), ko19, ko23, ko26], [(.ref [0, 1] 0), kg38, (.v (.int .i64 30))], ⟨[], [], kg39⟩⟩
theorem keR25 : Ran Tryz.prog ke25 := key_ran (F := kFS) keO25 (by kernel_rfl)
def keT26 : List Ent := ke25 :: keT25
theorem keO26 : ∀ e ∈ keT26, Ran Tryz.prog e := ran_cons keR25 keO25
def kg49 : D := (.agg [(.v (.int .i64 1)), (.v (.int .i64 3))])
def ke26 : Ent := ⟨119, [ko27, ko14, (.farr 7 [kv2, kv3]), ko19, ko23, ko26], [(.ref [0, 1] 0), kg49, (.v (.int .i64 30))], ⟨[], [], kg39⟩⟩
theorem keR26 : Ran Tryz.prog ke26 := key_ran (F := kFS) keO26 (by kernel_rfl)
def keT27 : List Ent := ke26 :: keT26
theorem keO27 : ∀ e ∈ keT27, Ran Tryz.prog e := ran_cons keR26 keO26
def kg50 : D := (.tup [(.v (.int .i64 2)), (.v (.int .i64 0))])
def ke27 : Ent := ⟨17, [], [kg13, (.v (.int .i64 1)), (.v (.int .i64 30)), (.v (.int .i64 60))], ⟨[], [], kg50⟩⟩
theorem keR27 : Ran Tryz.prog ke27 := key_ran (F := kFS) keO27 (by kernel_rfl)
def keT28 : List Ent := ke27 :: keT27
theorem keO28 : ∀ e ∈ keT28, Ran Tryz.prog e := ran_cons keR27 keO27
def kg51 : D := (.tup [(.v (.int .i64 0)), (.v (.int .i64 0))])
def ke28 : Ent := ⟨16, [], [kg13, (.v (.int .i64 10)), (.v (.int .i64 40)), (.v (.int .i64 60))], ⟨[], [], kg51⟩⟩
theorem keR28 : Ran Tryz.prog ke28 := key_ran (F := kFS) keO28 (by kernel_rfl)
def keT29 : List Ent := ke28 :: keT28
theorem keO29 : ∀ e ∈ keT29, Ran Tryz.prog e := ran_cons keR28 keO28
def ke29 : Ent := ⟨80, [ko27, ko14, (.farr 7 [kv2, kv3]), ko19, ko23, ko26], [(.ref [0, 1] 0), kg46, (.v (.int .i64 19))], ⟨[], [([601, 0], (.arr 1 [(.int .i64 5)]))], (.msl [601, 0] 1)⟩⟩
theorem keR29 : Ran Tryz.prog ke29 := key_ran (F := kFS) keO29 (by kernel_rfl)
def keT30 : List Ent := ke29 :: keT29
theorem keO30 : ∀ e ∈ keT30, Ran Tryz.prog e := ran_cons keR29 keO29
end Go.Eng
