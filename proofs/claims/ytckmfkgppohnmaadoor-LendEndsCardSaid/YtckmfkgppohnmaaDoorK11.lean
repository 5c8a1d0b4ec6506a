import Derived.Test.YtckmfkgppohnmaaDoorK10
import Derived.KernelRfl
/- Texts Sane5 to Sane5. -/
set_option linter.all false
namespace Go.Eng
open Go Go.Proofs
def VF:D:=(.agg [(.v (.sl [])),(.v (.sl [])),(.v (.sl [])),(.v (.sl [])),(.v (.sl [])),(.v (.sl [])),(.v (.sl [])),(.v (.int .i64 0)),(.v (.int .i64 0)),(.v (.int .i64 0)),(.v (.int .i64 0)),(.v (.int .i64 0)),(.v (.int .i64 0)),(.v (.int .i64 0)),(.v (.int .i64 0)),(.v (.int .i64 0)),(.v (.int .i64 0)),(.v (.int .i64 0)),(.v (.int .i64 0))])
def ke29:Ent:=⟨78,[],[(.v (.int .i64 1)),VF],⟨[],[],(.v (.bool true))⟩⟩
theorem Wk:aQ Tryd.prog ke29:=cV (F:=cW) Kn (by kernel_rfl)
def JN:List Ent:=ke29::JP
theorem Kl:∀ e∈JN,aQ Tryd.prog e:=c7 Wk Kn
def VE:D:=(.agg [(.v (.int .i64 1)),(.v (.sl [])),(.v (.sl [])),(.v (.sl [])),(.v (.sl [])),(.v (.sl [])),(.v (.sl [])),(.v (.sl [])),(.v (.int .i64 0)),(.v (.int .i64 0)),(.v (.int .i64 0)),(.v (.int .i64 0)),(.v (.int .i64 0)),(.v (.int .i64 0)),(.v (.int .i64 0)),(.v (.int .i64 0)),(.v (.int .i64 0)),(.v (.int .i64 0)),(.v (.int .i64 0)),(.v (.int .i64 0)),(.v (.int .i64 1)),(.v (.sl [])),(.v (.sl [])),(.v (.sl [])),(.v (.sl [])),(.v (.sl [])),(.v (.sl [])),(.v (.sl [])),(.v (.int .i64 0)),(.v (.int .i64 0)),(.v (.int .i64 0)),(.v (.int .i64 0)),(.v (.int .i64 0)),(.v (.int .i64 0)),(.v (.int .i64 0)),(.v (.int .i64 0)),(.v (.int .i64 0)),(.v (.int .i64 0)),(.v (.int .i64 0)),(.v (.int .i64 0)),(.v (.int .i64 947894)),(.v (.int .i64 0)),(.v (.sl [])),(.v (.sl [])),(.v (.sl [])),(.v (.sl [])),(.v (.sl [])),(.v (.sl [])),(.v (.sl [])),(.v (.int .i64 0)),(.v (.int .i64 0)),(.v (.int .i64 0)),(.v (.int .i64 0)),(.v (.int .i64 0)),(.v (.int .i64 0)),(.v (.int .i64 0)),(.v (.int .i64 0)),(.v (.int .i64 0)),(.v (.int .i64 0)),(.v (.int .i64 0)),(.v (.int .i64 0)),(.v (.int .i64 493827)),(.v (.int .i64 (-1)))])
def ke30:Ent:=⟨66,[],[VE],⟨[],[],(.v (.bool true))⟩⟩
theorem Wi:aQ Tryd.prog ke30:=cV (F:=cW) Kl (by kernel_rfl)
def JM:List Ent:=ke30::JN
theorem Kk:∀ e∈JM,aQ Tryd.prog e:=c7 Wi Kl
def Jz:V:=(.agg [(.int .i64 0),(.sl [(.int .i64 9)]),(.sl []),(.sl [cz]),(.sl []),(.sl []),(.sl []),(.sl []),(.int .i64 0),(.int .i64 1),(.int .i64 0),(.int .i64 0),(.int .i64 0),(.int .i64 0),(.int .i64 0),(.int .i64 0),(.int .i64 0),(.int .i64 0),(.int .i64 0),(.int .i64 0),(.int .i64 1),zb,(.sl []),(.sl []),(.sl []),(.sl []),(.sl []),(.sl []),(.int .i64 0),(.int .i64 0),(.int .i64 0),(.int .i64 0),(.int .i64 0),(.int .i64 0),(.int .i64 0),(.int .i64 0),(.int .i64 0),(.int .i64 0),(.int .i64 0),(.int .i64 0),(.int .i64 707989),(.int .i64 2),(.sl [(.int .i64 9)]),(.sl []),(.sl [cz]),(.sl []),(.sl []),(.sl []),(.sl []),(.int .i64 0),(.int .i64 1),(.int .i64 0),(.int .i64 0),(.int .i64 0),(.int .i64 0),(.int .i64 0),(.int .i64 0),(.int .i64 0),(.int .i64 0),(.int .i64 0),(.int .i64 0),(.int .i64 288542),(.int .i64 (-1))])
def Vt:V:=(.agg [(.int .i64 1),(.sl []),(.sl []),(.sl []),(.sl []),(.sl []),(.sl []),(.sl []),(.int .i64 0),(.int .i64 0),(.int .i64 0),(.int .i64 0),(.int .i64 0),(.int .i64 0),(.int .i64 0),(.int .i64 0),(.int .i64 0),(.int .i64 0),(.int .i64 0),(.int .i64 0),(.int .i64 1),(.sl []),(.sl []),(.sl []),(.sl []),(.sl []),(.sl []),(.sl []),(.int .i64 0),(.int .i64 0),(.int .i64 0),(.int .i64 0),(.int .i64 0),(.int .i64 0),(.int .i64 0),(.int .i64 0),(.int .i64 0),(.int .i64 0),(.int .i64 0),(.int .i64 0),(.int .i64 947894),(.int .i64 0),(.sl []),(.sl []),(.sl []),(.sl []),(.sl []),(.sl []),(.sl []),(.int .i64 0),(.int .i64 0),(.int .i64 0),(.int .i64 0),(.int .i64 0),(.int .i64 0),(.int .i64 0),(.int .i64 0),(.int .i64 0),(.int .i64 0),(.int .i64 0),(.int .i64 0),(.int .i64 493827),(.int .i64 (-1))])
def Vs:V:=(.agg [(.int .i64 0),(.int .i64 1)])
def VC:D:=(.tup [(.msl [1667,0] 1),(.v (.int .i64 0))])
def ke31:Ent:=⟨22,[],[(.v (.sl [Jz,Vt])),(.v (.int .i64 7))],⟨[],[([1667,0],(.arr 2 [Vs]))],VC⟩⟩
theorem Wh:aQ Tryd.prog ke31:=cV (F:=cW) Kk (by kernel_rfl)
def JL:List Ent:=ke31::JM
theorem Kj:∀ e∈JL,aQ Tryd.prog e:=c7 Wh Kk
def VB:D:=(.agg [(.v (.sl [(.int .i64 7)])),(.v (.sl [])),(.v (.sl [])),(.v (.sl [])),(.v (.sl [])),(.v (.sl [])),(.v (.sl [])),(.v (.int .i64 0)),(.v (.int .i64 0)),(.v (.int .i64 0)),(.v (.int .i64 0)),(.v (.int .i64 0)),(.v (.int .i64 0)),(.v (.int .i64 1)),(.v (.int .i64 0)),(.v (.int .i64 0)),(.v (.int .i64 0)),(.v (.int .i64 0)),(.v (.int .i64 0))])
def ke32:Ent:=⟨78,[],[(.v (.int .i64 1)),VB],⟨[],[],(.v (.bool true))⟩⟩
theorem Wg:aQ Tryd.prog ke32:=cV (F:=cW) Kj (by kernel_rfl)
def JK:List Ent:=ke32::JL
theorem Ki:∀ e∈JK,aQ Tryd.prog e:=c7 Wg Kj
def VA:D:=(.agg [(.v (.int .i64 1)),(.v (.sl [(.int .i64 7)])),(.v (.sl [])),(.v (.sl [])),(.v (.sl [])),(.v (.sl [])),(.v (.sl [])),(.v (.sl [])),(.v (.int .i64 0)),(.v (.int .i64 0)),(.v (.int .i64 0)),(.v (.int .i64 0)),(.v (.int .i64 0)),(.v (.int .i64 0)),(.v (.int .i64 1)),(.v (.int .i64 0)),(.v (.int .i64 0)),(.v (.int .i64 0)),(.v (.int .i64 0)),(.v (.int .i64 0)),(.v (.int .i64 1)),(.v (.sl [])),(.v (.sl [])),(.v (.sl [])),(.v (.sl [])),(.v (.sl [])),(.v (.sl [])),(.v (.sl [])),(.v (.int .i64 0)),(.v (.int .i64 0)),(.v (.int .i64 0)),(.v (.int .i64 0)),(.v (.int .i64 0)),(.v (.int .i64 0)),(.v (.int .i64 0)),(.v (.int .i64 0)),(.v (.int .i64 0)),(.v (.int .i64 0)),(.v (.int .i64 0)),(.v (.int .i64 0)),(.v (.int .i64 947894)),(.v (.int .i64 0)),(.v (.sl [])),(.v (.sl [])),(.v (.sl [])),(.v (.sl [])),(.v (.sl [])),(.v (.sl [])),(.v (.sl [])),(.v (.int .i64 0)),(.v (.int .i64 0)),(.v (.int .i64 0)),(.v (.int .i64 0)),(.v (.int .i64 0)),(.v (.int .i64 0)),(.v (.int .i64 0)),(.v (.int .i64 0)),(.v (.int .i64 0)),(.v (.int .i64 0)),(.v (.int .i64 0)),(.v (.int .i64 0)),(.v (.int .i64 493827)),(.v (.int .i64 (-1)))])
def ke33:Ent:=⟨66,[],[VA],⟨[],[],(.v (.bool true))⟩⟩
theorem Wf:aQ Tryd.prog ke33:=cV (F:=cW) Ki (by kernel_rfl)
def JJ:List Ent:=ke33::JK
theorem Kh:∀ e∈JJ,aQ Tryd.prog e:=c7 Wf Ki
end Go.Eng
