import Derived.Test.YtofamdkaipongaaGreatK13
import Derived.KernelRfl
/- Texts Sane6 to Sane6. -/
set_option linter.all false
namespace Go.Eng
open Go Go.Proofs
def ko65 : O := (.arr 9 [kd0, kd1, kd2, kd3, kd4, kd5, (v9 0 7 5 1 0 35 50 0 0), kd7])
def ke51 : Ent := ⟨140, [ko65, ko10], [(.msl [0, 1] 8), (.clo (.func 141) [] [(.ref [1, 1] 0)])], ⟨[], [], (.v (.int .i64 7))⟩⟩
theorem keR51 : Ran Tryz.prog ke51 := key_ran (F := kFS) keO51 (by kernel_rfl)
def keT52 : List Ent := ke51 :: keT51
theorem keO52 : ∀ e ∈ keT52, Ran Tryz.prog e := ran_cons keR51 keO51
def kv66 : V := (.sl [kd0, kd1, kd2, kd3, kd4, kd5, (v9 0 7 5 1 0 35 50 0 0)])
def ke52 : Ent := ⟨80, [], [(.v kv66)], ⟨[], [], kg12⟩⟩
theorem keR52 : Ran Tryz.prog ke52 := key_ran (F := kFS) keO52 (by kernel_rfl)
def keT53 : List Ent := ke52 :: keT52
theorem keO53 : ∀ e ∈ keT53, Ran Tryz.prog e := ran_cons keR52 keO52
def ko67 : O := (.arr 9 [kd0, kd1, kd2, kd3, kd4, kd5, (v9 0 7 5 1 0 35 50 0 0)])
def ko68 : O := (.farr 9 [kd3, (v9 0 7 5 1 0 35 50 0 0), (v9 0 0 0 0 0 0 0 0 0), (v9 0 0 0 0 0 0 0 0 0), (v9 0 0 0 0 0 0 0 0 0), (v9 0 0 0 0 0 0 0 0 0), (v9 0 0 0 0 0 0 0 0 0)])
def kv69 : V := (.sl [kd3, (v9 0 7 5 1 0 35 50 0 0)])
def ke53 : Ent := ⟨75, [ko67, ko19, ko15], [(.msl [0, 1] 7), (.clo (.func 143) [] [(.ref [1, 1] 0), (.ref [2, 1] 0)])], ⟨[(0, ko68)], [], (.v kv69)⟩⟩
theorem keR53 : Ran Tryz.prog ke53 := key_ran (F := kFS) keO53 (by kernel_rfl)
def keT54 : List Ent := ke53 :: keT53
theorem keO54 : ∀ e ∈ keT54, Ran Tryz.prog e := ran_cons keR53 keO53
def kg70 : D := (.tup [(.v kv69), (.v (.int .i64 0))])
def ke54 : Ent := ⟨90, [], [(.v kv62), (.v (.int .i64 1)), (.v (.int .i64 36)), (.v (.int .i64 9)), .nilsl], ⟨[], [], kg70⟩⟩
theorem keR54 : Ran Tryz.prog ke54 := key_ran (F := kFS) keO54 (by kernel_rfl)
def keT55 : List Ent := ke54 :: keT54
theorem keO55 : ∀ e ∈ keT55, Ran Tryz.prog e := ran_cons keR54 keO54
def ke55 : Ent := ⟨91, [], [(.v kv69), (.v (.int .i64 36)), (.v (.clo (.func 92) [] []))], ⟨[], [([91, 0, 40, 0, 196, 0, 64, 0], ko63)], (.msl [91, 0, 40, 0, 196, 0, 64, 0] 1)⟩⟩
theorem keR55 : Ran Tryz.prog ke55 := key_ran (F := kFS) keO55 (by kernel_rfl)
def keT56 : List Ent := ke55 :: keT55
theorem keO56 : ∀ e ∈ keT56, Ran Tryz.prog e := ran_cons keR55 keO55
def ke56 : Ent := ⟨91, [], [(.v kv69), (.v (.int .i64 36)), (.v (.clo (.func 93) [] []))], ⟨[], [([91, 0, 40, 0, 196, 0, 64, 0], ko63)], (.msl [91, 0, 40, 0, 196, 0, 64, 0] 1)⟩⟩
theorem keR56 : Ran Tryz.prog ke56 := key_ran (F := kFS) keO56 (by kernel_rfl)
def keT57 : List Ent := ke56 :: keT56
theorem keO57 : ∀ e ∈ keT57, Ran Tryz.prog e := ran_cons keR56 keO56
def kg71 : D := (.agg [(.msl [91, 0, 40, 0, 196, 0, 64, 0, 103, 0, 51, 0] 1), (.msl [91, 0, 40, 0, 196, 0, 64, 0, 103, 0, 92, 0] 1), (.v (.int .i64 0))])
def ke57 : Ent := ⟨135, [], [(.v kv62), (.v (.int .i64 1)), (.v (.int .i64 36)), (.v (.int .i64 9))], ⟨[], [([91, 0, 40, 0, 196, 0, 64, 0, 103, 0, 51, 0], ko63), ([91, 0, 40, 0, 196, 0, 64, 0, 103, 0, 92, 0], ko63)], kg71⟩⟩
theorem keR57 : Ran Tryz.prog ke57 := key_ran (F := kFS) keO57 (by kernel_rfl)
def keT58 : List Ent := ke57 :: keT57
theorem keO58 : ∀ e ∈ keT58, Ran Tryz.prog e := ran_cons keR57 keO57
def kg72 : D := (.tup [(.v (.sl [kd4])), (.v (.int .i64 0))])
def ke58 : Ent := ⟨90, [], [(.v kv8), (.v (.int .i64 2)), (.v (.int .i64 36)), (.v (.int .i64 9)), .nilsl], ⟨[], [], kg72⟩⟩
theorem keR58 : Ran Tryz.prog ke58 := key_ran (F := kFS) keO58 (by kernel_rfl)
def keT59 : List Ent := ke58 :: keT58
theorem keO59 : ∀ e ∈ keT59, Ran Tryz.prog e := ran_cons keR58 keO58
def ke59 : Ent := ⟨91, [], [(.v (.sl [kd4])), (.v (.int .i64 36)), (.v (.clo (.func 92) [] []))], ⟨[], [([91, 0, 40, 0, 196, 0, 64, 0], ko52)], (.msl [91, 0, 40, 0, 196, 0, 64, 0] 1)⟩⟩
theorem keR59 : Ran Tryz.prog ke59 := key_ran (F := kFS) keO59 (by kernel_rfl)
def keT60 : List Ent := ke59 :: keT59
theorem keO60 : ∀ e ∈ keT60, Ran Tryz.prog e := ran_cons keR59 keO59
def ke60 : Ent := ⟨135, [], [(.v kv8), (.v (.int .i64 2)), (.v (.int .i64 36)), (.v (.int .i64 9))], ⟨[], [([91, 0, 40, 0, 196, 0, 64, 0, 103, 0, 51, 0], ko52), ([91, 0, 40, 0, 196, 0, 64, 0, 103, 0, 92, 0], ko52)], kg71⟩⟩
theorem keR60 : Ran Tryz.prog ke60 := key_ran (F := kFS) keO60 (by kernel_rfl)
def keT61 : List Ent := ke60 :: keT60
theorem keO61 : ∀ e ∈ keT61, Ran Tryz.prog e := ran_cons keR60 keO60
def ko73 : O := (.farr 9 [kd4, (v9 0 0 0 0 0 0 0 0 0), (v9 0 0 0 0 0 0 0 0 0), (v9 0 0 0 0 0 0 0 0 0), (v9 0 0 0 0 0 0 0 0 0), (v9 0 0 0 0 0 0 0 0 0), (v9 0 0 0 0 0 0 0 0 0)])
def ke61 : Ent := ⟨75, [ko67, ko32, ko15], [(.msl [0, 1] 7), (.clo (.func 143) [] [(.ref [1, 1] 0), (.ref [2, 1] 0)])], ⟨[(0, ko73)], [], (.v (.sl [kd4]))⟩⟩
theorem keR61 : Ran Tryz.prog ke61 := key_ran (F := kFS) keO61 (by kernel_rfl)
def keT62 : List Ent := ke61 :: keT61
theorem keO62 : ∀ e ∈ keT62, Ran Tryz.prog e := ran_cons keR61 keO61
def ke62 : Ent := ⟨90, [], [(.v kv62), (.v (.int .i64 2)), (.v (.int .i64 36)), (.v (.int .i64 9)), .nilsl], ⟨[], [], kg72⟩⟩
theorem keR62 : Ran Tryz.prog ke62 := key_ran (F := kFS) keO62 (by kernel_rfl)
def keT63 : List Ent := ke62 :: keT62
theorem keO63 : ∀ e ∈ keT63, Ran Tryz.prog e := ran_cons keR62 keO62
def ke63 : Ent := ⟨135, [], [(.v kv62), (.v (.int .i64 2)), (.v (.int .i64 36)), (.v (.int .i64 9))], ⟨[], [([91, 0, 40, 0, 196, 0, 64, 0, 103, 0, 51, 0], ko52), ([91, 0, 40, 0, 196, 0, 64, 0, 103, 0, 92, 0], ko52)], kg71⟩⟩
theorem keR63 : Ran Tryz.prog ke63 := key_ran (F := kFS) keO63 (by kernel_rfl)
def keT64 : List Ent := ke63 :: keT63
theorem keO64 : ∀ e ∈ keT64, Ran Tryz.prog e := ran_cons keR63 keO63
def ke64 : Ent := ⟨90, [], [(.v kv8), (.v (.int .i64 3)), (.v (.int .i64 36)), (.v (.int .i64 9)), .nilsl], ⟨[], [], kg17⟩⟩
theorem keR64 : Ran Tryz.prog ke64 := key_ran (F := kFS) keO64 (by kernel_rfl)
def keT65 : List Ent := ke64 :: keT64
theorem keO65 : ∀ e ∈ keT65, Ran Tryz.prog e := ran_cons keR64 keO64
def ke65 : Ent := ⟨91, [], [(.v (.sl [kd5])), (.v (.int .i64 36)), (.v (.clo (.func 92) [] []))], ⟨[], [([91, 0, 40, 0, 196, 0, 64, 0], ko53)], (.msl [91, 0, 40, 0, 196, 0, 64, 0] 1)⟩⟩
theorem keR65 : Ran Tryz.prog ke65 := key_ran (F := kFS) keO65 (by kernel_rfl)
def keT66 : List Ent := ke65 :: keT65
theorem keO66 : ∀ e ∈ keT66, Ran Tryz.prog e := ran_cons keR65 keO65
def ke66 : Ent := ⟨135, [], [(.v kv8), (.v (.int .i64 3)), (.v (.int .i64 36)), (.v (.int .i64 9))], ⟨[], [([91, 0, 40, 0, 196, 0, 64, 0, 103, 0, 51, 0], ko53), ([91, 0, 40, 0, 196, 0, 64, 0, 103, 0, 92, 0], ko53)], kg71⟩⟩
theorem keR66 : Ran Tryz.prog ke66 := key_ran (F := kFS) keO66 (by kernel_rfl)
def keT67 : List Ent := ke66 :: keT66
theorem keO67 : ∀ e ∈ keT67, Ran Tryz.prog e := ran_cons keR66 keO66
def ko74 : O := (.farr 9 [kd5, (v9 0 0 0 0 0 0 0 0 0), (v9 0 0 0 0 0 0 0 0 0), (v9 0 0 0 0 0 0 0 0 0), (v9 0 0 0 0 0 0 0 0 0), (v9 0 0 0 0 0 0 0 0 0), (v9 0 0 0 0 0 0 0 0 0)])
def ke67 : Ent := ⟨75, [ko67, ko14, ko15], [(.msl [0, 1] 7), (.clo (.func 143) [] [(.ref [1, 1] 0), (.ref [2, 1] 0)])], ⟨[(0, ko74)], [], (.v (.sl [kd5]))⟩⟩
theorem keR67 : Ran Tryz.prog ke67 := key_ran (F := kFS) keO67 (by kernel_rfl)
def keT68 : List Ent := ke67 :: keT67
theorem keO68 : ∀ e ∈ keT68, Ran Tryz.prog e := ran_cons keR67 keO67
end Go.Eng
