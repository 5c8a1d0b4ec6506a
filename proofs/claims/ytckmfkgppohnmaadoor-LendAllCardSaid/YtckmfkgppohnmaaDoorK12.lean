import Derived.Test.YtckmfkgppohnmaaDoorK11
import Derived.KernelRfl
/- Texts Sane5 to Sane5. -/
set_option linter.all false
namespace Go.Eng
open Go Go.Proofs
def Sa:D:=(.agg [(.v (.sl [])),(.v (.sl [])),(.v (.sl [])),(.v (.sl [])),(.v (.sl [])),(.v (.sl [])),(.v (.sl [])),(.v (.int .i64 0)),(.v (.int .i64 0)),(.v (.int .i64 0)),(.v (.int .i64 0)),(.v (.int .i64 0)),(.v (.int .i64 0)),(.v (.int .i64 0)),(.v (.int .i64 0)),(.v (.int .i64 0)),(.v (.int .i64 0)),(.v (.int .i64 0)),(.v (.int .i64 0))])
def ke29:Ent:=⟨78,[],[(.v (.int .i64 1)),Sa],⟨[],[],(.v (.bool true))⟩⟩
theorem SP:aP Tryd.prog ke29:=cP (F:=cQ) Ho (by kernel_rfl)
def GK:List Ent:=ke29::GM
theorem Hm:∀ e∈GK,aP Tryd.prog e:=cO SP Ho
def R':D:=(.agg [(.v (.int .i64 1)),(.v (.sl [])),(.v (.sl [])),(.v (.sl [])),(.v (.sl [])),(.v (.sl [])),(.v (.sl [])),(.v (.sl [])),(.v (.int .i64 0)),(.v (.int .i64 0)),(.v (.int .i64 0)),(.v (.int .i64 0)),(.v (.int .i64 0)),(.v (.int .i64 0)),(.v (.int .i64 0)),(.v (.int .i64 0)),(.v (.int .i64 0)),(.v (.int .i64 0)),(.v (.int .i64 0)),(.v (.int .i64 0)),(.v (.int .i64 1)),(.v (.sl [])),(.v (.sl [])),(.v (.sl [])),(.v (.sl [])),(.v (.sl [])),(.v (.sl [])),(.v (.sl [])),(.v (.int .i64 0)),(.v (.int .i64 0)),(.v (.int .i64 0)),(.v (.int .i64 0)),(.v (.int .i64 0)),(.v (.int .i64 0)),(.v (.int .i64 0)),(.v (.int .i64 0)),(.v (.int .i64 0)),(.v (.int .i64 0)),(.v (.int .i64 0)),(.v (.int .i64 0)),(.v (.int .i64 947894)),(.v (.int .i64 0)),(.v (.sl [])),(.v (.sl [])),(.v (.sl [])),(.v (.sl [])),(.v (.sl [])),(.v (.sl [])),(.v (.sl [])),(.v (.int .i64 0)),(.v (.int .i64 0)),(.v (.int .i64 0)),(.v (.int .i64 0)),(.v (.int .i64 0)),(.v (.int .i64 0)),(.v (.int .i64 0)),(.v (.int .i64 0)),(.v (.int .i64 0)),(.v (.int .i64 0)),(.v (.int .i64 0)),(.v (.int .i64 0)),(.v (.int .i64 493827)),(.v (.int .i64 (-1)))])
def ke30:Ent:=⟨66,[],[R'],⟨[],[],(.v (.bool true))⟩⟩
theorem SN:aP Tryd.prog ke30:=cP (F:=cQ) Hm (by kernel_rfl)
def GJ:List Ent:=ke30::GK
theorem Hl:∀ e∈GJ,aP Tryd.prog e:=cO SN Hm
def Gu:V:=(.agg [(.int .i64 0),(.sl [(.int .i64 9)]),(.sl []),(.sl [cp]),(.sl []),(.sl []),(.sl []),(.sl []),(.int .i64 0),(.int .i64 1),(.int .i64 0),(.int .i64 0),(.int .i64 0),(.int .i64 0),(.int .i64 0),(.int .i64 0),(.int .i64 0),(.int .i64 0),(.int .i64 0),(.int .i64 0),(.int .i64 1),wP,(.sl []),(.sl []),(.sl []),(.sl []),(.sl []),(.sl []),(.int .i64 0),(.int .i64 0),(.int .i64 0),(.int .i64 0),(.int .i64 0),(.int .i64 0),(.int .i64 0),(.int .i64 0),(.int .i64 0),(.int .i64 0),(.int .i64 0),(.int .i64 0),(.int .i64 707989),(.int .i64 2),(.sl [(.int .i64 9)]),(.sl []),(.sl [cp]),(.sl []),(.sl []),(.sl []),(.sl []),(.int .i64 0),(.int .i64 1),(.int .i64 0),(.int .i64 0),(.int .i64 0),(.int .i64 0),(.int .i64 0),(.int .i64 0),(.int .i64 0),(.int .i64 0),(.int .i64 0),(.int .i64 0),(.int .i64 288542),(.int .i64 (-1))])
def RY:V:=(.agg [(.int .i64 1),(.sl []),(.sl []),(.sl []),(.sl []),(.sl []),(.sl []),(.sl []),(.int .i64 0),(.int .i64 0),(.int .i64 0),(.int .i64 0),(.int .i64 0),(.int .i64 0),(.int .i64 0),(.int .i64 0),(.int .i64 0),(.int .i64 0),(.int .i64 0),(.int .i64 0),(.int .i64 1),(.sl []),(.sl []),(.sl []),(.sl []),(.sl []),(.sl []),(.sl []),(.int .i64 0),(.int .i64 0),(.int .i64 0),(.int .i64 0),(.int .i64 0),(.int .i64 0),(.int .i64 0),(.int .i64 0),(.int .i64 0),(.int .i64 0),(.int .i64 0),(.int .i64 0),(.int .i64 947894),(.int .i64 0),(.sl []),(.sl []),(.sl []),(.sl []),(.sl []),(.sl []),(.sl []),(.int .i64 0),(.int .i64 0),(.int .i64 0),(.int .i64 0),(.int .i64 0),(.int .i64 0),(.int .i64 0),(.int .i64 0),(.int .i64 0),(.int .i64 0),(.int .i64 0),(.int .i64 0),(.int .i64 493827),(.int .i64 (-1))])
def RX:V:=(.agg [(.int .i64 0),(.int .i64 1)])
def R8:D:=(.tup [(.msl [1667,0] 1),(.v (.int .i64 0))])
def ke31:Ent:=⟨22,[],[(.v (.sl [Gu,RY])),(.v (.int .i64 7))],⟨[],[([1667,0],(.arr 2 [RX]))],R8⟩⟩
theorem SM:aP Tryd.prog ke31:=cP (F:=cQ) Hl (by kernel_rfl)
def GI:List Ent:=ke31::GJ
theorem Hk:∀ e∈GI,aP Tryd.prog e:=cO SM Hl
def R7:D:=(.agg [(.v (.sl [(.int .i64 7)])),(.v (.sl [])),(.v (.sl [])),(.v (.sl [])),(.v (.sl [])),(.v (.sl [])),(.v (.sl [])),(.v (.int .i64 0)),(.v (.int .i64 0)),(.v (.int .i64 0)),(.v (.int .i64 0)),(.v (.int .i64 0)),(.v (.int .i64 0)),(.v (.int .i64 1)),(.v (.int .i64 0)),(.v (.int .i64 0)),(.v (.int .i64 0)),(.v (.int .i64 0)),(.v (.int .i64 0))])
def ke32:Ent:=⟨78,[],[(.v (.int .i64 1)),R7],⟨[],[],(.v (.bool true))⟩⟩
theorem SL:aP Tryd.prog ke32:=cP (F:=cQ) Hk (by kernel_rfl)
def GH:List Ent:=ke32::GI
theorem Hj:∀ e∈GH,aP Tryd.prog e:=cO SL Hk
def R6:D:=(.agg [(.v (.int .i64 1)),(.v (.sl [(.int .i64 7)])),(.v (.sl [])),(.v (.sl [])),(.v (.sl [])),(.v (.sl [])),(.v (.sl [])),(.v (.sl [])),(.v (.int .i64 0)),(.v (.int .i64 0)),(.v (.int .i64 0)),(.v (.int .i64 0)),(.v (.int .i64 0)),(.v (.int .i64 0)),(.v (.int .i64 1)),(.v (.int .i64 0)),(.v (.int .i64 0)),(.v (.int .i64 0)),(.v (.int .i64 0)),(.v (.int .i64 0)),(.v (.int .i64 1)),(.v (.sl [])),(.v (.sl [])),(.v (.sl [])),(.v (.sl [])),(.v (.sl [])),(.v (.sl [])),(.v (.sl [])),(.v (.int .i64 0)),(.v (.int .i64 0)),(.v (.int .i64 0)),(.v (.int .i64 0)),(.v (.int .i64 0)),(.v (.int .i64 0)),(.v (.int .i64 0)),(.v (.int .i64 0)),(.v (.int .i64 0)),(.v (.int .i64 0)),(.v (.int .i64 0)),(.v (.int .i64 0)),(.v (.int .i64 947894)),(.v (.int .i64 0)),(.v (.sl [])),(.v (.sl [])),(.v (.sl [])),(.v (.sl [])),(.v (.sl [])),(.v (.sl [])),(.v (.sl [])),(.v (.int .i64 0)),(.v (.int .i64 0)),(.v (.int .i64 0)),(.v (.int .i64 0)),(.v (.int .i64 0)),(.v (.int .i64 0)),(.v (.int .i64 0)),(.v (.int .i64 0)),(.v (.int .i64 0)),(.v (.int .i64 0)),(.v (.int .i64 0)),(.v (.int .i64 0)),(.v (.int .i64 493827)),(.v (.int .i64 (-1)))])
def ke33:Ent:=⟨66,[],[R6],⟨[],[],(.v (.bool true))⟩⟩
theorem SK:aP Tryd.prog ke33:=cP (F:=cQ) Hj (by kernel_rfl)
def GG:List Ent:=ke33::GH
theorem Hi:∀ e∈GG,aP Tryd.prog e:=cO SK Hj
end Go.Eng
