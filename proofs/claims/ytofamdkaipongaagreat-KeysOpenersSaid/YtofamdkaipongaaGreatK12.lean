import Derived.Test.YtofamdkaipongaaGreatK11
import Derived.KernelRfl
/- Texts Sane4 to Sane4. -/
set_option linter.all false
namespace Go.Eng
open Go Go.Proofs
def ko52 : O := (.arr 1 [(.int .i64 12)])
def ke33 : Ent := ⟨91, [], [(.v (.sl [kd4])), (.v (.int .i64 36)), (.v (.clo (.func 93) [] []))], ⟨[], [([91, 0, 40, 0, 196, 0, 64, 0], ko52)], (.msl [91, 0, 40, 0, 196, 0, 64, 0] 1)⟩⟩
theorem keR33 : Ran Tryz.prog ke33 := key_ran (F := kFS) keO33 (by kernel_rfl)
def keT34 : List Ent := ke33 :: keT33
theorem keO34 : ∀ e ∈ keT34, Ran Tryz.prog e := ran_cons keR33 keO33
def ko53 : O := (.arr 1 [(.int .i64 13)])
def ke34 : Ent := ⟨91, [], [(.v (.sl [kd5])), (.v (.int .i64 36)), (.v (.clo (.func 93) [] []))], ⟨[], [([91, 0, 40, 0, 196, 0, 64, 0], ko53)], (.msl [91, 0, 40, 0, 196, 0, 64, 0] 1)⟩⟩
theorem keR34 : Ran Tryz.prog ke34 := key_ran (F := kFS) keO34 (by kernel_rfl)
def keT35 : List Ent := ke34 :: keT34
theorem keO35 : ∀ e ∈ keT35, Ran Tryz.prog e := ran_cons keR34 keO34
def ko54 : O := (.arr 1 [(.int .i64 11), (.int .i64 12), (.int .i64 13), (.int .i64 14)])
def ke35 : Ent := ⟨127, [ko54], [kg30, (.msl [0, 1] 4)], ⟨[], [], kg42⟩⟩
theorem keR35 : Ran Tryz.prog ke35 := key_ran (F := kFS) keO35 (by kernel_rfl)
def keT36 : List Ent := ke35 :: keT35
theorem keO36 : ∀ e ∈ keT36, Ran Tryz.prog e := ran_cons keR35 keO35
def ke36 : Ent := ⟨122, [ko54], [kg44, (.msl [0, 1] 4)], ⟨[], [], (.v (.bool true))⟩⟩
theorem keR36 : Ran Tryz.prog ke36 := key_ran (F := kFS) keO36 (by kernel_rfl)
def keT37 : List Ent := ke36 :: keT36
theorem keO37 : ∀ e ∈ keT37, Ran Tryz.prog e := ran_cons keR36 keO36
def ke37 : Ent := ⟨128, [ko54], [kg30, (.msl [0, 1] 4)], ⟨[], [], kg49⟩⟩
theorem keR37 : Ran Tryz.prog ke37 := key_ran (F := kFS) keO37 (by kernel_rfl)
def keT38 : List Ent := ke37 :: keT37
theorem keO38 : ∀ e ∈ keT38, Ran Tryz.prog e := ran_cons keR37 keO37
def kg55 : D := (.tup [(.msl [91, 0, 684, 0] 4), (.v (.int .i64 0))])
def ke38 : Ent := ⟨65, [], [(.v kv8), (.v (.int .i64 36)), (.v (.int .i64 9))], ⟨[], [([91, 0, 684, 0], ko54)], kg55⟩⟩
theorem keR38 : Ran Tryz.prog ke38 := key_ran (F := kFS) keO38 (by kernel_rfl)
def keT39 : List Ent := ke38 :: keT38
theorem keO39 : ∀ e ∈ keT39, Ran Tryz.prog e := ran_cons keR38 keO38
end Go.Eng
