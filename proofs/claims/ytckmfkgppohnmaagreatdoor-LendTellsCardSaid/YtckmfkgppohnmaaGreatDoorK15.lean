import Derived.Test.YtckmfkgppohnmaaGreatDoorK14
import Derived.KernelRfl
/- Texts Sane6 to Sane6. -/
set_option linter.all false
namespace Go.Eng
open Go Go.Proofs
def kv44 : V := (.agg [(.int .i64 1), (.sl [(.int .i64 7)]), (.sl []), (.sl []), (.sl []), (.sl []), (.sl []), (.sl []), (.int .i64 0), (.int .i64 0), (.int .i64 0), (.int .i64 0), (.int .i64 0), (.int .i64 0), (.int .i64 1), (.int .i64 0), (.int .i64 0), (.int .i64 0), (.int .i64 0), (.int .i64 0), (.int .i64 1), (.sl []), (.sl []), (.sl []), (.sl []), (.sl []), (.sl []), (.sl []), (.int .i64 0), (.int .i64 0), (.int .i64 0), (.int .i64 0), (.int .i64 0), (.int .i64 0), (.int .i64 0), (.int .i64 0), (.int .i64 0), (.int .i64 0), (.int .i64 0), (.int .i64 0), (.int .i64 947894), (.int .i64 0), (.sl []), (.sl []), (.sl []), (.sl []), (.sl []), (.sl []), (.sl []), (.int .i64 0), (.int .i64 0), (.int .i64 0), (.int .i64 0), (.int .i64 0), (.int .i64 0), (.int .i64 0), (.int .i64 0), (.int .i64 0), (.int .i64 0), (.int .i64 0), (.int .i64 0), (.int .i64 493827), (.int .i64 (-1))])
def kg45 : D := (.tup [(.msl [439, 0] 1), (.v (.int .i64 0))])
def ke34 : Ent := ⟨70, [], [(.v (.sl [kv38, kv44])), (.v (.int .i64 7))], ⟨[], [([439, 0], (.arr 1 [(.int .i64 1)]))], kg45⟩⟩
theorem keR34 : Ran Tryz.prog ke34 := key_ran (F := kFS) keO34 (by kernel_rfl)
def keT35 : List Ent := ke34 :: keT34
theorem keO35 : ∀ e ∈ keT35, Ran Tryz.prog e := ran_cons keR34 keO34
def ke35 : Ent := ⟨19, [], [], ⟨[], [], (.v (.bool true))⟩⟩
theorem keR35 : Ran Tryz.prog ke35 := key_ran (F := kFS) keO35 (by kernel_rfl)
def keT36 : List Ent := ke35 :: keT35
theorem keO36 : ∀ e ∈ keT36, Ran Tryz.prog e := ran_cons keR35 keO35
end Go.Eng
