import Derived.Test.YtckmfkgppohnmaaDoorK12
import Derived.KernelRfl
/- Texts Sane6 to Sane6. -/
set_option linter.all false
namespace Go.Eng
open Go Go.Proofs
def Wg:V:=(.agg [(.int .i64 1),(.sl [(.int .i64 7)]),(.sl []),(.sl []),(.sl []),(.sl []),(.sl []),(.sl []),(.int .i64 0),(.int .i64 0),(.int .i64 0),(.int .i64 0),(.int .i64 0),(.int .i64 0),(.int .i64 1),(.int .i64 0),(.int .i64 0),(.int .i64 0),(.int .i64 0),(.int .i64 0),(.int .i64 1),(.sl []),(.sl []),(.sl []),(.sl []),(.sl []),(.sl []),(.sl []),(.int .i64 0),(.int .i64 0),(.int .i64 0),(.int .i64 0),(.int .i64 0),(.int .i64 0),(.int .i64 0),(.int .i64 0),(.int .i64 0),(.int .i64 0),(.int .i64 0),(.int .i64 0),(.int .i64 947894),(.int .i64 0),(.sl []),(.sl []),(.sl []),(.sl []),(.sl []),(.sl []),(.sl []),(.int .i64 0),(.int .i64 0),(.int .i64 0),(.int .i64 0),(.int .i64 0),(.int .i64 0),(.int .i64 0),(.int .i64 0),(.int .i64 0),(.int .i64 0),(.int .i64 0),(.int .i64 0),(.int .i64 493827),(.int .i64 (-1))])
def Wo:D:=(.tup [(.msl [439,0] 1),(.v (.int .i64 0))])
def ke34:Ent:=⟨20,[],[(.v (.sl [JZ,Wg])),(.v (.int .i64 7))],⟨[],[([439,0],(.arr 1 [(.int .i64 1)]))],Wo⟩⟩
theorem W8:aV Tryd.prog ke34:=dm (F:=dn) KL (by kernel_rfl)
def J9:List Ent:=ke34::J'
theorem KJ:∀ e∈J9,aV Tryd.prog e:=di W8 KL
def ke35:Ent:=⟨10,[],[],⟨[],[],(.v (.bool true))⟩⟩
theorem KC:aV Tryd.prog ke35:=dm (F:=dn) KJ (by kernel_rfl)
def WY:List Ent:=ke35::J9
theorem ahq:∀ e∈WY,aV Tryd.prog e:=di KC KJ
end Go.Eng
