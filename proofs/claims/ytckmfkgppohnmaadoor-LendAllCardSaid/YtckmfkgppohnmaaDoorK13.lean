import Derived.Test.YtckmfkgppohnmaaDoorK12
import Derived.KernelRfl
/- Texts Sane6 to Sane6. -/
set_option linter.all false
namespace Go.Eng
open Go Go.Proofs
def RW:V:=(.agg [(.int .i64 1),(.sl [(.int .i64 7)]),(.sl []),(.sl []),(.sl []),(.sl []),(.sl []),(.sl []),(.int .i64 0),(.int .i64 0),(.int .i64 0),(.int .i64 0),(.int .i64 0),(.int .i64 0),(.int .i64 1),(.int .i64 0),(.int .i64 0),(.int .i64 0),(.int .i64 0),(.int .i64 0),(.int .i64 1),(.sl []),(.sl []),(.sl []),(.sl []),(.sl []),(.sl []),(.sl []),(.int .i64 0),(.int .i64 0),(.int .i64 0),(.int .i64 0),(.int .i64 0),(.int .i64 0),(.int .i64 0),(.int .i64 0),(.int .i64 0),(.int .i64 0),(.int .i64 0),(.int .i64 0),(.int .i64 947894),(.int .i64 0),(.sl []),(.sl []),(.sl []),(.sl []),(.sl []),(.sl []),(.sl []),(.int .i64 0),(.int .i64 0),(.int .i64 0),(.int .i64 0),(.int .i64 0),(.int .i64 0),(.int .i64 0),(.int .i64 0),(.int .i64 0),(.int .i64 0),(.int .i64 0),(.int .i64 0),(.int .i64 493827),(.int .i64 (-1))])
def R5:D:=(.tup [(.msl [439,0] 1),(.v (.int .i64 0))])
def ke34:Ent:=⟨20,[],[(.v (.sl [Gu,RW])),(.v (.int .i64 7))],⟨[],[([439,0],(.arr 1 [(.int .i64 1)]))],R5⟩⟩
theorem SJ:aP Tryd.prog ke34:=cP (F:=cQ) Hi (by kernel_rfl)
def GF:List Ent:=ke34::GG
theorem Hh:∀ e∈GF,aP Tryd.prog e:=cO SJ Hi
def ke35:Ent:=⟨10,[],[],⟨[],[],(.v (.bool true))⟩⟩
theorem G':aP Tryd.prog ke35:=cP (F:=cQ) Hh (by kernel_rfl)
def SC:List Ent:=ke35::GF
theorem adG:∀ e∈SC,aP Tryd.prog e:=cO G' Hh
end Go.Eng
