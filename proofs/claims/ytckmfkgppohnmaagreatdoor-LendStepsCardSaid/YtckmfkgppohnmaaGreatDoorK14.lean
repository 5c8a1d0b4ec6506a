import Derived.Test.YtckmfkgppohnmaaGreatDoorK13
import Derived.KernelRfl
/- Texts Sane5 to Sane5. -/
set_option linter.all false
namespace Go.Eng
open Go Go.Proofs
def Tn:D:=(.agg [(.v (.sl [])),(.v (.sl [])),(.v (.sl [])),(.v (.sl [])),(.v (.sl [])),(.v (.sl [])),(.v (.sl [])),(.v (.int .i64 0)),(.v (.int .i64 0)),(.v (.int .i64 0)),(.v (.int .i64 0)),(.v (.int .i64 0)),(.v (.int .i64 0)),(.v (.int .i64 0)),(.v (.int .i64 0)),(.v (.int .i64 0)),(.v (.int .i64 0)),(.v (.int .i64 0)),(.v (.int .i64 0))])
def ke29:Ent:=⟨89,[],[(.v (.int .i64 1)),Tn],⟨[],[],(.v (.bool true))⟩⟩
theorem T5:aR Tryz.prog ke29:=cT (F:=cU) I5 (by kernel_rfl)
def Iq:List Ent:=ke29::Is
theorem I3:∀ e∈Iq,aR Tryz.prog e:=cQ T5 I5
def Tm:D:=(.agg [(.v (.int .i64 1)),(.v (.sl [])),(.v (.sl [])),(.v (.sl [])),(.v (.sl [])),(.v (.sl [])),(.v (.sl [])),(.v (.sl [])),(.v (.int .i64 0)),(.v (.int .i64 0)),(.v (.int .i64 0)),(.v (.int .i64 0)),(.v (.int .i64 0)),(.v (.int .i64 0)),(.v (.int .i64 0)),(.v (.int .i64 0)),(.v (.int .i64 0)),(.v (.int .i64 0)),(.v (.int .i64 0)),(.v (.int .i64 0)),(.v (.int .i64 1)),(.v (.sl [])),(.v (.sl [])),(.v (.sl [])),(.v (.sl [])),(.v (.sl [])),(.v (.sl [])),(.v (.sl [])),(.v (.int .i64 0)),(.v (.int .i64 0)),(.v (.int .i64 0)),(.v (.int .i64 0)),(.v (.int .i64 0)),(.v (.int .i64 0)),(.v (.int .i64 0)),(.v (.int .i64 0)),(.v (.int .i64 0)),(.v (.int .i64 0)),(.v (.int .i64 0)),(.v (.int .i64 0)),(.v (.int .i64 947894)),(.v (.int .i64 0)),(.v (.sl [])),(.v (.sl [])),(.v (.sl [])),(.v (.sl [])),(.v (.sl [])),(.v (.sl [])),(.v (.sl [])),(.v (.int .i64 0)),(.v (.int .i64 0)),(.v (.int .i64 0)),(.v (.int .i64 0)),(.v (.int .i64 0)),(.v (.int .i64 0)),(.v (.int .i64 0)),(.v (.int .i64 0)),(.v (.int .i64 0)),(.v (.int .i64 0)),(.v (.int .i64 0)),(.v (.int .i64 0)),(.v (.int .i64 493827)),(.v (.int .i64 (-1)))])
def ke30:Ent:=⟨74,[],[Tm],⟨[],[],(.v (.bool true))⟩⟩
theorem T3:aR Tryz.prog ke30:=cT (F:=cU) I3 (by kernel_rfl)
def Ip:List Ent:=ke30::Iq
theorem I2:∀ e∈Ip,aR Tryz.prog e:=cQ T3 I3
def H9:V:=(.agg [(.int .i64 0),(.sl [(.int .i64 9)]),(.sl []),(.sl [ct]),(.sl []),(.sl []),(.sl []),(.sl []),(.int .i64 0),(.int .i64 1),(.int .i64 0),(.int .i64 0),(.int .i64 0),(.int .i64 0),(.int .i64 0),(.int .i64 0),(.int .i64 0),(.int .i64 0),(.int .i64 0),(.int .i64 0),(.int .i64 1),x9,(.sl []),(.sl []),(.sl []),(.sl []),(.sl []),(.sl []),(.int .i64 0),(.int .i64 0),(.int .i64 0),(.int .i64 0),(.int .i64 0),(.int .i64 0),(.int .i64 0),(.int .i64 0),(.int .i64 0),(.int .i64 0),(.int .i64 0),(.int .i64 0),(.int .i64 707989),(.int .i64 2),(.sl [(.int .i64 9)]),(.sl []),(.sl [ct]),(.sl []),(.sl []),(.sl []),(.sl []),(.int .i64 0),(.int .i64 1),(.int .i64 0),(.int .i64 0),(.int .i64 0),(.int .i64 0),(.int .i64 0),(.int .i64 0),(.int .i64 0),(.int .i64 0),(.int .i64 0),(.int .i64 0),(.int .i64 288542),(.int .i64 (-1))])
def Tb:V:=(.agg [(.int .i64 1),(.sl []),(.sl []),(.sl []),(.sl []),(.sl []),(.sl []),(.sl []),(.int .i64 0),(.int .i64 0),(.int .i64 0),(.int .i64 0),(.int .i64 0),(.int .i64 0),(.int .i64 0),(.int .i64 0),(.int .i64 0),(.int .i64 0),(.int .i64 0),(.int .i64 0),(.int .i64 1),(.sl []),(.sl []),(.sl []),(.sl []),(.sl []),(.sl []),(.sl []),(.int .i64 0),(.int .i64 0),(.int .i64 0),(.int .i64 0),(.int .i64 0),(.int .i64 0),(.int .i64 0),(.int .i64 0),(.int .i64 0),(.int .i64 0),(.int .i64 0),(.int .i64 0),(.int .i64 947894),(.int .i64 0),(.sl []),(.sl []),(.sl []),(.sl []),(.sl []),(.sl []),(.sl []),(.int .i64 0),(.int .i64 0),(.int .i64 0),(.int .i64 0),(.int .i64 0),(.int .i64 0),(.int .i64 0),(.int .i64 0),(.int .i64 0),(.int .i64 0),(.int .i64 0),(.int .i64 0),(.int .i64 493827),(.int .i64 (-1))])
def Ta:V:=(.agg [(.int .i64 0),(.int .i64 1)])
def Tk:D:=(.tup [(.msl [1667,0] 1),(.v (.int .i64 0))])
def ke31:Ent:=⟨69,[],[(.v (.sl [H9,Tb])),(.v (.int .i64 7))],⟨[],[([1667,0],(.arr 2 [Ta]))],Tk⟩⟩
theorem TZ:aR Tryz.prog ke31:=cT (F:=cU) I2 (by kernel_rfl)
def Io:List Ent:=ke31::Ip
theorem I1:∀ e∈Io,aR Tryz.prog e:=cQ TZ I2
def Tj:D:=(.agg [(.v (.sl [(.int .i64 7)])),(.v (.sl [])),(.v (.sl [])),(.v (.sl [])),(.v (.sl [])),(.v (.sl [])),(.v (.sl [])),(.v (.int .i64 0)),(.v (.int .i64 0)),(.v (.int .i64 0)),(.v (.int .i64 0)),(.v (.int .i64 0)),(.v (.int .i64 0)),(.v (.int .i64 1)),(.v (.int .i64 0)),(.v (.int .i64 0)),(.v (.int .i64 0)),(.v (.int .i64 0)),(.v (.int .i64 0))])
def ke32:Ent:=⟨89,[],[(.v (.int .i64 1)),Tj],⟨[],[],(.v (.bool true))⟩⟩
theorem TY:aR Tryz.prog ke32:=cT (F:=cU) I1 (by kernel_rfl)
def Im:List Ent:=ke32::Io
theorem I0:∀ e∈Im,aR Tryz.prog e:=cQ TY I1
def Ti:D:=(.agg [(.v (.int .i64 1)),(.v (.sl [(.int .i64 7)])),(.v (.sl [])),(.v (.sl [])),(.v (.sl [])),(.v (.sl [])),(.v (.sl [])),(.v (.sl [])),(.v (.int .i64 0)),(.v (.int .i64 0)),(.v (.int .i64 0)),(.v (.int .i64 0)),(.v (.int .i64 0)),(.v (.int .i64 0)),(.v (.int .i64 1)),(.v (.int .i64 0)),(.v (.int .i64 0)),(.v (.int .i64 0)),(.v (.int .i64 0)),(.v (.int .i64 0)),(.v (.int .i64 1)),(.v (.sl [])),(.v (.sl [])),(.v (.sl [])),(.v (.sl [])),(.v (.sl [])),(.v (.sl [])),(.v (.sl [])),(.v (.int .i64 0)),(.v (.int .i64 0)),(.v (.int .i64 0)),(.v (.int .i64 0)),(.v (.int .i64 0)),(.v (.int .i64 0)),(.v (.int .i64 0)),(.v (.int .i64 0)),(.v (.int .i64 0)),(.v (.int .i64 0)),(.v (.int .i64 0)),(.v (.int .i64 0)),(.v (.int .i64 947894)),(.v (.int .i64 0)),(.v (.sl [])),(.v (.sl [])),(.v (.sl [])),(.v (.sl [])),(.v (.sl [])),(.v (.sl [])),(.v (.sl [])),(.v (.int .i64 0)),(.v (.int .i64 0)),(.v (.int .i64 0)),(.v (.int .i64 0)),(.v (.int .i64 0)),(.v (.int .i64 0)),(.v (.int .i64 0)),(.v (.int .i64 0)),(.v (.int .i64 0)),(.v (.int .i64 0)),(.v (.int .i64 0)),(.v (.int .i64 0)),(.v (.int .i64 493827)),(.v (.int .i64 (-1)))])
def ke33:Ent:=⟨74,[],[Ti],⟨[],[],(.v (.bool true))⟩⟩
theorem TX:aR Tryz.prog ke33:=cT (F:=cU) I0 (by kernel_rfl)
def Il:List Ent:=ke33::Im
theorem IZ:∀ e∈Il,aR Tryz.prog e:=cQ TX I0
end Go.Eng
