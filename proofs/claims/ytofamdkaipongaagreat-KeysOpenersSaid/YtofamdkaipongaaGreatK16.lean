import Derived.Test.YtofamdkaipongaaGreatK15
import Derived.KernelRfl
/- Texts Sane8 to Sane8. -/
set_option linter.all false
namespace Go.Eng
open Go Go.Proofs
def kg85 : D := (.tup [(.v (.sl [kv82, kv83])), (.v (.int .i64 0))])
def ke77 : Ent := ⟨40, [ko79], [(.msl [0, 1] 10), (.v (.int .i64 9))], ⟨[(0, ko79)], [], kg85⟩⟩
theorem keR77 : Ran Tryz.prog ke77 := key_ran (F := kFS) keO77 (by kernel_rfl)
def keT78 : List Ent := ke77 :: keT77
theorem keO78 : ∀ e ∈ keT78, Ran Tryz.prog e := ran_cons keR77 keO77
def ke78 : Ent := ⟨17, [], [], ⟨[], [], (.v (.bool true))⟩⟩
theorem keR78 : Ran Tryz.prog ke78 := key_ran (F := kFS) keO78 (by kernel_rfl)
end Go.Eng
