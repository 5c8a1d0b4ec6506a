import Derived.Test.YtckmfkgppohnmaaDoorK14
import Derived.KernelRfl
/- Texts Sane6 to Sane6. -/
set_option linter.all false
namespace Go.Eng
open Go Go.Proofs
def Vb:V:=(.agg [(.int .i64 1),(.sl [(.int .i64 7)]),(.sl []),(.sl []),(.sl []),(.sl []),(.sl []),(.sl []),(.int .i64 0),(.int .i64 0),(.int .i64 0),(.int .i64 0),(.int .i64 0),(.int .i64 0),(.int .i64 1),(.int .i64 0),(.int .i64 0),(.int .i64 0),(.int .i64 0),(.int .i64 0),(.int .i64 1),(.sl []),(.sl []),(.sl []),(.sl []),(.sl []),(.sl []),(.sl []),(.int .i64 0),(.int .i64 0),(.int .i64 0),(.int .i64 0),(.int .i64 0),(.int .i64 0),(.int .i64 0),(.int .i64 0),(.int .i64 0),(.int .i64 0),(.int .i64 0),(.int .i64 0),(.int .i64 947894),(.int .i64 0),(.sl []),(.sl []),(.sl []),(.sl []),(.sl []),(.sl []),(.sl []),(.int .i64 0),(.int .i64 0),(.int .i64 0),(.int .i64 0),(.int .i64 0),(.int .i64 0),(.int .i64 0),(.int .i64 0),(.int .i64 0),(.int .i64 0),(.int .i64 0),(.int .i64 0),(.int .i64 493827),(.int .i64 (-1))])
def Vj:D:=(.tup [(.msl [439,0] 1),(.v (.int .i64 0))])
def ke34:Ent:=⟨20,[],[(.v (.sl [Jm,Vb])),(.v (.int .i64 7))],⟨[],[([439,0],(.arr 1 [(.int .i64 1)]))],Vj⟩⟩
theorem VY:aQ Tryd.prog ke34:=cT (F:=cU) J8 (by kernel_rfl)
def Jw:List Ent:=ke34::Jx
theorem J7:∀ e∈Jw,aQ Tryd.prog e:=cR VY J8
def ke35:Ent:=⟨10,[],[],⟨[],[],(.v (.bool true))⟩⟩
theorem J0:aQ Tryd.prog ke35:=cT (F:=cU) J7 (by kernel_rfl)
def VR:List Ent:=ke35::Jw
theorem af3:∀ e∈VR,aQ Tryd.prog e:=cR J0 J7
end Go.Eng
