import Derived.Test.YtckmfkgppohnmaaGreatDoorK13
import Derived.KernelRfl
/- Texts Sane5 to Sane5. -/
set_option linter.all false
namespace Go.Eng
open Go Go.Proofs
def kg36 : D := (.agg [(.v (.sl [])), (.v (.sl [])), (.v (.sl [])), (.v (.sl [])), (.v (.sl [])), (.v (.sl [])), (.v (.sl [])), (.v (.int .i64 0)), (.v (.int .i64 0)), (.v (.int .i64 0)), (.v (.int .i64 0)), (.v (.int .i64 0)), (.v (.int .i64 0)), (.v (.int .i64 0)), (.v (.int .i64 0)), (.v (.int .i64 0)), (.v (.int .i64 0)), (.v (.int .i64 0)), (.v (.int .i64 0))])
def ke29 : Ent := ⟨89, [], [(.v (.int .i64 1)), kg36], ⟨[], [], (.v (.bool true))⟩⟩
theorem keR29 : Ran Tryz.prog ke29 := key_ran (F := kFS) keO29 (by kernel_rfl)
def keT30 : List Ent := ke29 :: keT29
theorem keO30 : ∀ e ∈ keT30, Ran Tryz.prog e := ran_cons keR29 keO29
def kg37 : D := (.agg [(.v (.int .i64 1)), (.v (.sl [])), (.v (.sl [])), (.v (.sl [])), (.v (.sl [])), (.v (.sl [])), (.v (.sl [])), (.v (.sl [])), (.v (.int .i64 0)), (.v (.int .i64 0)), (.v (.int .i64 0)), (.v (.int .i64 0)), (.v (.int .i64 0)), (.v (.int .i64 0)), (.v (.int .i64 0)), (.v (.int .i64 0)), (.v (.int .i64 0)), (.v (.int .i64 0)), (.v (.int .i64 0)), (.v (.int .i64 0)), (.v (.int .i64 1)), (.v (.sl [])), (.v (.sl [])), (.v (.sl [])), (.v (.sl [])), (.v (.sl [])), (.v (.sl [])), (.v (.sl [])), (.v (.int .i64 0)), (.v (.int .i64 0)), (.v (.int .i64 0)), (.v (.int .i64 0)), (.v (.int .i64 0)), (.v (.int .i64 0)), (.v (.int .i64 0)), (.v (.int .i64 0)), (.v (.int .i64 0)), (.v (.int .i64 0)), (.v (.int .i64 0)), (.v (.int .i64 0)), (.v (.int .i64 947894)), (.v (.int .i64 0)), (.v (.sl [])), (.v (.sl [])), (.v (.sl [])), (.v (.sl [])), (.v (.sl [])), (.v (.sl [])), (.v (.sl [])), (.v (.int .i64 0)), (.v (.int .i64 0)), (.v (.int .i64 0)), (.v (.int .i64 0)), (.v (.int .i64 0)), (.v (.int .i64 0)), (.v (.int .i64 0)), (.v (.int .i64 0)), (.v (.int .i64 0)), (.v (.int .i64 0)), (.v (.int .i64 0)), (.v (.int .i64 0)), (.v (.int .i64 493827)), (.v (.int .i64 (-1)))])
def ke30 : Ent := ⟨74, [], [kg37], ⟨[], [], (.v (.bool true))⟩⟩
theorem keR30 : Ran Tryz.prog ke30 := key_ran (F := kFS) keO30 (by kernel_rfl)
def keT31 : List Ent := ke30 :: keT30
theorem keO31 : ∀ e ∈ keT31, Ran Tryz.prog e := ran_cons keR30 keO30
def kv38 : V := (.agg [(.int .i64 0), (.sl [(.int .i64 9)]), (.sl []), (.sl [kv8]), (.sl []), (.sl []), (.sl []), (.sl []), (.int .i64 0), (.int .i64 1), (.int .i64 0), (.int .i64 0), (.int .i64 0), (.int .i64 0), (.int .i64 0), (.int .i64 0), (.int .i64 0), (.int .i64 0), (.int .i64 0), (.int .i64 0), (.int .i64 1), kv0, (.sl []), (.sl []), (.sl []), (.sl []), (.sl []), (.sl []), (.int .i64 0), (.int .i64 0), (.int .i64 0), (.int .i64 0), (.int .i64 0), (.int .i64 0), (.int .i64 0), (.int .i64 0), (.int .i64 0), (.int .i64 0), (.int .i64 0), (.int .i64 0), (.int .i64 707989), (.int .i64 2), (.sl [(.int .i64 9)]), (.sl []), (.sl [kv8]), (.sl []), (.sl []), (.sl []), (.sl []), (.int .i64 0), (.int .i64 1), (.int .i64 0), (.int .i64 0), (.int .i64 0), (.int .i64 0), (.int .i64 0), (.int .i64 0), (.int .i64 0), (.int .i64 0), (.int .i64 0), (.int .i64 0), (.int .i64 288542), (.int .i64 (-1))])
def kv39 : V := (.agg [(.int .i64 1), (.sl []), (.sl []), (.sl []), (.sl []), (.sl []), (.sl []), (.sl []), (.int .i64 0), (.int .i64 0), (.int .i64 0), (.int .i64 0), (.int .i64 0), (.int .i64 0), (.int .i64 0), (.int .i64 0), (.int .i64 0), (.int .i64 0), (.int .i64 0), (.int .i64 0), (.int .i64 1), (.sl []), (.sl []), (.sl []), (.sl []), (.sl []), (.sl []), (.sl []), (.int .i64 0), (.int .i64 0), (.int .i64 0), (.int .i64 0), (.int .i64 0), (.int .i64 0), (.int .i64 0), (.int .i64 0), (.int .i64 0), (.int .i64 0), (.int .i64 0), (.int .i64 0), (.int .i64 947894), (.int .i64 0), (.sl []), (.sl []), (.sl []), (.sl []), (.sl []), (.sl []), (.sl []), (.int .i64 0), (.int .i64 0), (.int .i64 0), (.int .i64 0), (.int .i64 0), (.int .i64 0), (.int .i64 0), (.int .i64 0), (.int .i64 0), (.int .i64 0), (.int .i64 0), (.int .i64 0), (.int .i64 493827), (.int .i64 (-1))])
def kv40 : V := (.agg [(.int .i64 0), (.int .i64 1)])
def kg41 : D := (.tup [(.msl [1667, 0] 1), (.v (.int .i64 0))])
def ke31 : Ent := ⟨69, [], [(.v (.sl [kv38, kv39])), (.v (.int .i64 7))], ⟨[], [([1667, 0], (.arr 2 [kv40]))], kg41⟩⟩
theorem keR31 : Ran Tryz.prog ke31 := key_ran (F := kFS) keO31 (by kernel_rfl)
def keT32 : List Ent := ke31 :: keT31
theorem keO32 : ∀ e ∈ keT32, Ran Tryz.prog e := ran_cons keR31 keO31
def kg42 : D := (.agg [(.v (.sl [(.int .i64 7)])), (.v (.sl [])), (.v (.sl [])), (.v (.sl [])), (.v (.sl [])), (.v (.sl [])), (.v (.sl [])), (.v (.int .i64 0)), (.v (.int .i64 0)), (.v (.int .i64 0)), (.v (.int .i64 0)), (.v (.int .i64 0)), (.v (.int .i64 0)), (.v (.int .i64 1)), (.v (.int .i64 0)), (.v (.int .i64 0)), (.v (.int .i64 0)), (.v (.int .i64 0)), (.v (.int .i64 0))])
def ke32 : Ent := ⟨89, [], [(.v (.int .i64 1)), kg42], ⟨[], [], (.v (.bool true))⟩⟩
theorem keR32 : Ran Tryz.prog ke32 := key_ran (F := kFS) keO32 (by kernel_rfl)
def keT33 : List Ent := ke32 :: keT32
theorem keO33 : ∀ e ∈ keT33, Ran Tryz.prog e := ran_cons keR32 keO32
def kg43 : D := (.agg [(.v (.int .i64 1)), (.v (.sl [(.int .i64 7)])), (.v (.sl [])), (.v (.sl [])), (.v (.sl [])), (.v (.sl [])), (.v (.sl [])), (.v (.sl [])), (.v (.int .i64 0)), (.v (.int .i64 0)), (.v (.int .i64 0)), (.v (.int .i64 0)), (.v (.int .i64 0)), (.v (.int .i64 0)), (.v (.int .i64 1)), (.v (.int .i64 0)), (.v (.int .i64 0)), (.v (.int .i64 0)), (.v (.int .i64 0)), (.v (.int .i64 0)), (.v (.int .i64 1)), (.v (.sl [])), (.v (.sl [])), (.v (.sl [])), (.v (.sl [])), (.v (.sl [])), (.v (.sl [])), (.v (.sl [])), (.v (.int .i64 0)), (.v (.int .i64 0)), (.v (.int .i64 0)), (.v (.int .i64 0)), (.v (.int .i64 0)), (.v (.int .i64 0)), (.v (.int .i64 0)), (.v (.int .i64 0)), (.v (.int .i64 0)), (.v (.int .i64 0)), (.v (.int .i64 0)), (.v (.int .i64 0)), (.v (.int .i64 947894)), (.v (.int .i64 0)), (.v (.sl [])), (.v (.sl [])), (.v (.sl [])), (.v (.sl [])), (.v (.sl [])), (.v (.sl [])), (.v (.sl [])), (.v (.int .i64 0)), (.v (.int .i64 0)), (.v (.int .i64 0)), (.v (.int .i64 0)), (.v (.int .i64 0)), (.v (.int .i64 0)), (.v (.int .i64 0)), (.v (.int .i64 0)), (.v (.int .i64 0)), (.v (.int .i64 0)), (.v (.int .i64 0)), (.v (.int .i64 0)), (.v (.int .i64 493827)), (.v (.int .i64 (-1)))])
def ke33 : Ent := ⟨74, [], [kg43], ⟨[], [], (.v (.bool true))⟩⟩
theorem keR33 : Ran Tryz.prog ke33 := key_ran (F := kFS) keO33 (by kernel_rfl)
def keT34 : List Ent := ke33 :: keT33
theorem keO34 : ∀ e ∈ keT34, Ran Tryz.prog e := ran_cons keR33 keO33
end Go.Eng
