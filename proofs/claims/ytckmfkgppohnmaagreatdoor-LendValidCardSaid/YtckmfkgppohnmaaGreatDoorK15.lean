import Derived.Test.YtckmfkgppohnmaaGreatDoorK14
import Derived.KernelRfl
/- Texts Sane6 to Sane6. -/
set_option linter.all false
namespace Go.Eng
open Go Go.Proofs
def Uq:V:=(.agg [(.int .i64 1),(.sl [(.int .i64 7)]),(.sl []),(.sl []),(.sl []),(.sl []),(.sl []),(.sl []),(.int .i64 0),(.int .i64 0),(.int .i64 0),(.int .i64 0),(.int .i64 0),(.int .i64 0),(.int .i64 1),(.int .i64 0),(.int .i64 0),(.int .i64 0),(.int .i64 0),(.int .i64 0),(.int .i64 1),(.sl []),(.sl []),(.sl []),(.sl []),(.sl []),(.sl []),(.sl []),(.int .i64 0),(.int .i64 0),(.int .i64 0),(.int .i64 0),(.int .i64 0),(.int .i64 0),(.int .i64 0),(.int .i64 0),(.int .i64 0),(.int .i64 0),(.int .i64 0),(.int .i64 0),(.int .i64 947894),(.int .i64 0),(.sl []),(.sl []),(.sl []),(.sl []),(.sl []),(.sl []),(.sl []),(.int .i64 0),(.int .i64 0),(.int .i64 0),(.int .i64 0),(.int .i64 0),(.int .i64 0),(.int .i64 0),(.int .i64 0),(.int .i64 0),(.int .i64 0),(.int .i64 0),(.int .i64 0),(.int .i64 493827),(.int .i64 (-1))])
def Uy:D:=(.tup [(.msl [439,0] 1),(.v (.int .i64 0))])
def ke34:Ent:=⟨70,[],[(.v (.sl [I0,Uq])),(.v (.int .i64 7))],⟨[],[([439,0],(.arr 1 [(.int .i64 1)]))],Uy⟩⟩
theorem Ve:aT Tryz.prog ke34:=cP (F:=cQ) JI (by kernel_rfl)
def U7:List Ent:=ke34::I'
theorem VH:∀ e∈U7,aT Tryz.prog e:=cS Ve JI
def ke35:Ent:=⟨19,[],[],⟨[],[],(.v (.bool true))⟩⟩
theorem Vd:aT Tryz.prog ke35:=cP (F:=cQ) VH (by kernel_rfl)
end Go.Eng
