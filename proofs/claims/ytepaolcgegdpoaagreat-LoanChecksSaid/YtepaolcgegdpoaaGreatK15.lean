import Derived.Test.YtepaolcgegdpoaaGreatK14
/- Texts LS to LS. -/
set_option linter.all false
/- loan's sane: its contract. -/
namespace Go.Eng
open Go Go.Proofs
theorem s18 : PSound Tryz.prog 18 ⟨fun xs => xs = [], fun _ => .bool true, true⟩ :=
  ran_pure (b := .bool true) keR41 (by
    intro fn h
    have e : Tryz.prog.funcs[18]? = some Tryz.f18 := Tryz.func18
    rw [e] at h
    obtain rfl := Option.some.inj h
    exact (by kernel_rfl : (Tryz.f18.name == "runtime.NumGoroutine") = false)) (by decide) rfl
end Go.Eng
