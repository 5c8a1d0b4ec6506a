import Derived.Test.YtckmfkgppohnmaaDoorK11
import Derived.KernelRfl
/- Texts Sane6 to Sane6. -/
set_option linter.all false
namespace Go.Eng
open Go Go.Proofs
def Vr:V:=(.agg [(.int .i64 1),(.sl [(.int .i64 7)]),(.sl []),(.sl []),(.sl []),(.sl []),(.sl []),(.sl []),(.int .i64 0),(.int .i64 0),(.int .i64 0),(.int .i64 0),(.int .i64 0),(.int .i64 0),(.int .i64 1),(.int .i64 0),(.int .i64 0),(.int .i64 0),(.int .i64 0),(.int .i64 0),(.int .i64 1),(.sl []),(.sl []),(.sl []),(.sl []),(.sl []),(.sl []),(.sl []),(.int .i64 0),(.int .i64 0),(.int .i64 0),(.int .i64 0),(.int .i64 0),(.int .i64 0),(.int .i64 0),(.int .i64 0),(.int .i64 0),(.int .i64 0),(.int .i64 0),(.int .i64 0),(.int .i64 947894),(.int .i64 0),(.sl []),(.sl []),(.sl []),(.sl []),(.sl []),(.sl []),(.sl []),(.int .i64 0),(.int .i64 0),(.int .i64 0),(.int .i64 0),(.int .i64 0),(.int .i64 0),(.int .i64 0),(.int .i64 0),(.int .i64 0),(.int .i64 0),(.int .i64 0),(.int .i64 0),(.int .i64 493827),(.int .i64 (-1))])
def Vz:D:=(.tup [(.msl [439,0] 1),(.v (.int .i64 0))])
def ke34:Ent:=⟨20,[],[(.v (.sl [Jz,Vr])),(.v (.int .i64 7))],⟨[],[([439,0],(.arr 1 [(.int .i64 1)]))],Vz⟩⟩
theorem We:aQ Tryd.prog ke34:=cV (F:=cW) Kh (by kernel_rfl)
def V7:List Ent:=ke34::JJ
theorem WI:∀ e∈V7,aQ Tryd.prog e:=c7 We Kh
def ke35:Ent:=⟨10,[],[],⟨[],[],(.v (.bool true))⟩⟩
theorem Wd:aQ Tryd.prog ke35:=cV (F:=cW) WI (by kernel_rfl)
end Go.Eng
