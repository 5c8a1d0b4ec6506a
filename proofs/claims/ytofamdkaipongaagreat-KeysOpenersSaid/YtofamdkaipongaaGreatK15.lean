import Derived.Test.YtofamdkaipongaaGreatK14
import Derived.KernelRfl
/- Texts Sane7 to Sane7. -/
set_option linter.all false
namespace Go.Eng
open Go Go.Proofs
def ke68 : Ent := ⟨90, [], [(.v kv62), (.v (.int .i64 3)), (.v (.int .i64 36)), (.v (.int .i64 9)), .nilsl], ⟨[], [], kg17⟩⟩
theorem keR68 : Ran Tryz.prog ke68 := key_ran (F := kFS) keO68 (by kernel_rfl)
def keT69 : List Ent := ke68 :: keT68
theorem keO69 : ∀ e ∈ keT69, Ran Tryz.prog e := ran_cons keR68 keO68
def ke69 : Ent := ⟨135, [], [(.v kv62), (.v (.int .i64 3)), (.v (.int .i64 36)), (.v (.int .i64 9))], ⟨[], [([91, 0, 40, 0, 196, 0, 64, 0, 103, 0, 51, 0], ko53), ([91, 0, 40, 0, 196, 0, 64, 0, 103, 0, 92, 0], ko53)], kg71⟩⟩
theorem keR69 : Ran Tryz.prog ke69 := key_ran (F := kFS) keO69 (by kernel_rfl)
def keT70 : List Ent := ke69 :: keT69
theorem keO70 : ∀ e ∈ keT70, Ran Tryz.prog e := ran_cons keR69 keO69
def ke70 : Ent := ⟨71, [], [(.v kv8), (.v kv62), (.v (.int .i64 36)), (.v (.int .i64 9)), (.v (.int .i64 9))], ⟨[], [([202, 0], (.arr 1 [(.int .i64 1)]))], (.msl [202, 0] 1)⟩⟩
theorem keR70 : Ran Tryz.prog ke70 := key_ran (F := kFS) keO70 (by kernel_rfl)
def keT71 : List Ent := ke70 :: keT70
theorem keO71 : ∀ e ∈ keT71, Ran Tryz.prog e := ran_cons keR70 keO70
def kg75 : D := (.tup [(.msl [202, 0, 279, 0] 1), (.v (.int .i64 0))])
def ke71 : Ent := ⟨22, [], [(.v kv8), kg24, (.v (.int .i64 36)), (.v (.int .i64 9))], ⟨[], [([202, 0, 279, 0], (.arr 1 [(.int .i64 1)]))], kg75⟩⟩
theorem keR71 : Ran Tryz.prog ke71 := key_ran (F := kFS) keO71 (by kernel_rfl)
def keT72 : List Ent := ke71 :: keT71
theorem keO72 : ∀ e ∈ keT72, Ran Tryz.prog e := ran_cons keR71 keO71
def kg76 : D := (.agg [(.v (.int .i64 0)), (.v (.int .i64 9)), (.v (.int .i64 5)), (.v (.int .i64 1)), (.v (.int .i64 0)), (.v (.int .i64 20)), (.v (.int .i64 29)), (.v (.int .i64 0)), (.v (.int .i64 0))])
def kg77 : D := (.tup [(.v (.int .i64 9)), (.v (.bool false))])
def ke72 : Ent := ⟨130, [ko9], [(.msl [0, 1] 9), kg76, (.v (.clo (.func 101) [] []))], ⟨[], [], kg77⟩⟩
theorem keR72 : Ran Tryz.prog ke72 := key_ran (F := kFS) keO72 (by kernel_rfl)
def keT73 : List Ent := ke72 :: keT72
theorem keO73 : ∀ e ∈ keT73, Ran Tryz.prog e := ran_cons keR72 keO72
def kv78 : V := (.sl [(v9 0 9 5 1 0 20 29 0 0)])
def ko79 : O := (.arr 9 [kd0, kd1, kd2, kd3, kd4, kd5, kd6, (v9 0 7 5 1 0 35 50 0 0), kd7, (v9 0 9 5 1 0 20 29 0 0)])
def kg80 : D := (.tup [(.msl [57, 0] 10), (.v (.int .i64 0))])
def ke73 : Ent := ⟨67, [], [(.v kv8), (.v kv78)], ⟨[], [([57, 0], ko79)], kg80⟩⟩
theorem keR73 : Ran Tryz.prog ke73 := key_ran (F := kFS) keO73 (by kernel_rfl)
def keT74 : List Ent := ke73 :: keT73
theorem keO74 : ∀ e ∈ keT74, Ran Tryz.prog e := ran_cons keR73 keO73
def ke74 : Ent := ⟨39, [ko79], [(.msl [0, 1] 10)], ⟨[], [], (.v (.int .i64 0))⟩⟩
theorem keR74 : Ran Tryz.prog ke74 := key_ran (F := kFS) keO74 (by kernel_rfl)
def keT75 : List Ent := ke74 :: keT74
theorem keO75 : ∀ e ∈ keT75, Ran Tryz.prog e := ran_cons keR74 keO74
def ke75 : Ent := ⟨140, [ko79, ko10], [(.msl [0, 1] 10), (.clo (.func 141) [] [(.ref [1, 1] 0)])], ⟨[], [], (.v (.int .i64 8))⟩⟩
theorem keR75 : Ran Tryz.prog ke75 := key_ran (F := kFS) keO75 (by kernel_rfl)
def keT76 : List Ent := ke75 :: keT75
theorem keO76 : ∀ e ∈ keT76, Ran Tryz.prog e := ran_cons keR75 keO75
def kv81 : V := (.sl [kd0, kd1, kd2, kd3, kd4, kd5, kd6, (v9 0 7 5 1 0 35 50 0 0), (v9 0 9 5 1 0 20 29 0 0)])
def kv82 : V := (.agg [(.int .i64 0), (.int .i64 6)])
def kv83 : V := (.agg [(.int .i64 0), (.int .i64 9)])
def kg84 : D := (.tup [(.v (.sl [kv82, kv83])), (.v (.bool true))])
def ke76 : Ent := ⟨80, [], [(.v kv81)], ⟨[], [], kg84⟩⟩
theorem keR76 : Ran Tryz.prog ke76 := key_ran (F := kFS) keO76 (by kernel_rfl)
def keT77 : List Ent := ke76 :: keT76
theorem keO77 : ∀ e ∈ keT77, Ran Tryz.prog e := ran_cons keR76 keO76
end Go.Eng
