import Derived.Test.YtckmfkgppohnmaaGreatDoorK14
import Derived.KernelRfl
/- Texts Sane6 to Sane6. -/
set_option linter.all false
namespace Go.Eng
open Go Go.Proofs
def S':V:=(.agg [(.int .i64 1),(.sl [(.int .i64 7)]),(.sl []),(.sl []),(.sl []),(.sl []),(.sl []),(.sl []),(.int .i64 0),(.int .i64 0),(.int .i64 0),(.int .i64 0),(.int .i64 0),(.int .i64 0),(.int .i64 1),(.int .i64 0),(.int .i64 0),(.int .i64 0),(.int .i64 0),(.int .i64 0),(.int .i64 1),(.sl []),(.sl []),(.sl []),(.sl []),(.sl []),(.sl []),(.sl []),(.int .i64 0),(.int .i64 0),(.int .i64 0),(.int .i64 0),(.int .i64 0),(.int .i64 0),(.int .i64 0),(.int .i64 0),(.int .i64 0),(.int .i64 0),(.int .i64 0),(.int .i64 0),(.int .i64 947894),(.int .i64 0),(.sl []),(.sl []),(.sl []),(.sl []),(.sl []),(.sl []),(.sl []),(.int .i64 0),(.int .i64 0),(.int .i64 0),(.int .i64 0),(.int .i64 0),(.int .i64 0),(.int .i64 0),(.int .i64 0),(.int .i64 0),(.int .i64 0),(.int .i64 0),(.int .i64 0),(.int .i64 493827),(.int .i64 (-1))])
def Th:D:=(.tup [(.msl [439,0] 1),(.v (.int .i64 0))])
def ke34:Ent:=⟨70,[],[(.v (.sl [H9,S'])),(.v (.int .i64 7))],⟨[],[([439,0],(.arr 1 [(.int .i64 1)]))],Th⟩⟩
theorem TW:aR Tryz.prog ke34:=cT (F:=cU) IZ (by kernel_rfl)
def Ik:List Ent:=ke34::Il
theorem IY:∀ e∈Ik,aR Tryz.prog e:=cQ TW IZ
def ke35:Ent:=⟨19,[],[],⟨[],[],(.v (.bool true))⟩⟩
theorem IQ:aR Tryz.prog ke35:=cT (F:=cU) IY (by kernel_rfl)
def TP:List Ent:=ke35::Ik
theorem ad6:∀ e∈TP,aR Tryz.prog e:=cQ IQ IY
end Go.Eng
