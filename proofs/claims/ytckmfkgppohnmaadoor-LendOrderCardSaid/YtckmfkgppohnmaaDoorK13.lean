import Derived.Test.YtckmfkgppohnmaaDoorK12
import Derived.KernelRfl
/- Texts Sane4 to Sane4. -/
set_option linter.all false
namespace Go.Eng
open Go Go.Proofs
def Vv:D:=(.agg [(.msl [0,1] 1),.nilsl,.nilsl,.nilsl,.nilsl,.nilsl,.nilsl,(.v (.int .i64 0)),(.v (.int .i64 0)),(.v (.int .i64 0)),(.v (.int .i64 0)),(.v (.int .i64 0)),(.v (.int .i64 0)),(.v (.int .i64 1)),(.v (.int .i64 0)),(.v (.int .i64 0)),(.v (.int .i64 0)),(.v (.int .i64 0)),(.v (.int .i64 0))])
def ke23:Ent:=⟨78,[(.arr 1 [(.int .i64 7)])],[(.v (.int .i64 1)),Vv],⟨[],[],(.v (.bool true))⟩⟩
theorem V':aQ Tryd.prog ke23:=cT (F:=cU) Kj (by kernel_rfl)
def JI:List Ent:=ke23::JJ
theorem Ki:∀ e∈JI,aQ Tryd.prog e:=cR V' Kj
def Vu:D:=(.agg [(.v (.int .i64 1)),(.msl [0,1] 1),.nilsl,.nilsl,.nilsl,.nilsl,.nilsl,.nilsl,(.v (.int .i64 0)),(.v (.int .i64 0)),(.v (.int .i64 0)),(.v (.int .i64 0)),(.v (.int .i64 0)),(.v (.int .i64 0)),(.v (.int .i64 1)),(.v (.int .i64 0)),(.v (.int .i64 0)),(.v (.int .i64 0)),(.v (.int .i64 0)),(.v (.int .i64 0)),(.v (.int .i64 1)),.nilsl,.nilsl,.nilsl,.nilsl,.nilsl,.nilsl,.nilsl,(.v (.int .i64 0)),(.v (.int .i64 0)),(.v (.int .i64 0)),(.v (.int .i64 0)),(.v (.int .i64 0)),(.v (.int .i64 0)),(.v (.int .i64 0)),(.v (.int .i64 0)),(.v (.int .i64 0)),(.v (.int .i64 0)),(.v (.int .i64 0)),(.v (.int .i64 0)),(.v (.int .i64 947894)),(.v (.int .i64 0)),.nilsl,.nilsl,.nilsl,.nilsl,.nilsl,.nilsl,.nilsl,(.v (.int .i64 0)),(.v (.int .i64 0)),(.v (.int .i64 0)),(.v (.int .i64 0)),(.v (.int .i64 0)),(.v (.int .i64 0)),(.v (.int .i64 0)),(.v (.int .i64 0)),(.v (.int .i64 0)),(.v (.int .i64 0)),(.v (.int .i64 0)),(.v (.int .i64 0)),(.v (.int .i64 493827)),(.v (.int .i64 (-1)))])
def ke24:Ent:=⟨66,[(.arr 1 [(.int .i64 7)])],[Vu],⟨[],[],(.v (.bool true))⟩⟩
theorem V9:aQ Tryd.prog ke24:=cT (F:=cU) Ki (by kernel_rfl)
def JH:List Ent:=ke24::JI
theorem Kh:∀ e∈JH,aQ Tryd.prog e:=cR V9 Ki
def Vt:D:=(.agg [(.v (.int .i64 0)),(.msl [0,1] 2),.nilsl,.nilsl,.nilsl,.nilsl,.nilsl,.nilsl,(.v (.int .i64 0)),(.v (.int .i64 0)),(.v (.int .i64 0)),(.v (.int .i64 0)),(.v (.int .i64 0)),(.v (.int .i64 0)),(.v (.int .i64 0)),(.v (.int .i64 0)),(.v (.int .i64 0)),(.v (.int .i64 0)),(.v (.int .i64 0)),(.v (.int .i64 0)),(.v (.int .i64 1)),(.msl [1,1] 2),.nilsl,.nilsl,.nilsl,.nilsl,.nilsl,.nilsl,(.v (.int .i64 0)),(.v (.int .i64 0)),(.v (.int .i64 0)),(.v (.int .i64 0)),(.v (.int .i64 0)),(.v (.int .i64 0)),(.v (.int .i64 0)),(.v (.int .i64 0)),(.v (.int .i64 0)),(.v (.int .i64 0)),(.v (.int .i64 0)),(.v (.int .i64 0)),(.v (.int .i64 707989)),(.v (.int .i64 2)),(.msl [2,1] 1),.nilsl,(.msl [3,1] 1),.nilsl,.nilsl,.nilsl,.nilsl,(.v (.int .i64 0)),(.v (.int .i64 1)),(.v (.int .i64 0)),(.v (.int .i64 0)),(.v (.int .i64 0)),(.v (.int .i64 0)),(.v (.int .i64 0)),(.v (.int .i64 0)),(.v (.int .i64 0)),(.v (.int .i64 0)),(.v (.int .i64 0)),(.v (.int .i64 0)),(.v (.int .i64 288543)),(.v (.int .i64 (-1)))])
def ke25:Ent:=⟨66,[cK,cK,(.arr 1 [(.int .i64 9)]),(.arr 2 [cD])],[Vt],⟨[],[],(.v (.bool true))⟩⟩
theorem V8:aQ Tryd.prog ke25:=cT (F:=cU) Kh (by kernel_rfl)
def JG:List Ent:=ke25::JH
theorem Kg:∀ e∈JG,aQ Tryd.prog e:=cR V8 Kh
def Vs:D:=(.agg [(.v (.sl [(.int .i64 9)])),(.v (.sl [])),(.v (.sl [cD])),(.v (.sl [])),(.v (.sl [])),(.v (.sl [])),(.v (.sl [])),(.v (.int .i64 0)),(.v (.int .i64 1)),(.v (.int .i64 0)),(.v (.int .i64 0)),(.v (.int .i64 0)),(.v (.int .i64 0)),(.v (.int .i64 0)),(.v (.int .i64 0)),(.v (.int .i64 0)),(.v (.int .i64 0)),(.v (.int .i64 0)),(.v (.int .i64 0))])
def ke26:Ent:=⟨78,[],[(.v (.int .i64 0)),Vs],⟨[],[],(.v (.bool true))⟩⟩
theorem V7:aQ Tryd.prog ke26:=cT (F:=cU) Kg (by kernel_rfl)
def JF:List Ent:=ke26::JG
theorem Kf:∀ e∈JF,aQ Tryd.prog e:=cR V7 Kg
def Vr:D:=(.agg [(.v yM),(.v (.sl [])),(.v (.sl [])),(.v (.sl [])),(.v (.sl [])),(.v (.sl [])),(.v (.sl [])),(.v (.int .i64 0)),(.v (.int .i64 0)),(.v (.int .i64 0)),(.v (.int .i64 0)),(.v (.int .i64 0)),(.v (.int .i64 0)),(.v (.int .i64 0)),(.v (.int .i64 0)),(.v (.int .i64 0)),(.v (.int .i64 0)),(.v (.int .i64 0)),(.v (.int .i64 0))])
def ke27:Ent:=⟨78,[],[(.v (.int .i64 0)),Vr],⟨[],[],(.v (.bool true))⟩⟩
theorem V6:aQ Tryd.prog ke27:=cT (F:=cU) Kf (by kernel_rfl)
def JE:List Ent:=ke27::JF
theorem Ke:∀ e∈JE,aQ Tryd.prog e:=cR V6 Kf
def Vq:D:=(.agg [(.v (.int .i64 0)),(.v (.sl [(.int .i64 9)])),(.v (.sl [])),(.v (.sl [cD])),(.v (.sl [])),(.v (.sl [])),(.v (.sl [])),(.v (.sl [])),(.v (.int .i64 0)),(.v (.int .i64 1)),(.v (.int .i64 0)),(.v (.int .i64 0)),(.v (.int .i64 0)),(.v (.int .i64 0)),(.v (.int .i64 0)),(.v (.int .i64 0)),(.v (.int .i64 0)),(.v (.int .i64 0)),(.v (.int .i64 0)),(.v (.int .i64 0)),(.v (.int .i64 1)),(.v yM),(.v (.sl [])),(.v (.sl [])),(.v (.sl [])),(.v (.sl [])),(.v (.sl [])),(.v (.sl [])),(.v (.int .i64 0)),(.v (.int .i64 0)),(.v (.int .i64 0)),(.v (.int .i64 0)),(.v (.int .i64 0)),(.v (.int .i64 0)),(.v (.int .i64 0)),(.v (.int .i64 0)),(.v (.int .i64 0)),(.v (.int .i64 0)),(.v (.int .i64 0)),(.v (.int .i64 0)),(.v (.int .i64 707989)),(.v (.int .i64 2)),(.v (.sl [(.int .i64 9)])),(.v (.sl [])),(.v (.sl [cD])),(.v (.sl [])),(.v (.sl [])),(.v (.sl [])),(.v (.sl [])),(.v (.int .i64 0)),(.v (.int .i64 1)),(.v (.int .i64 0)),(.v (.int .i64 0)),(.v (.int .i64 0)),(.v (.int .i64 0)),(.v (.int .i64 0)),(.v (.int .i64 0)),(.v (.int .i64 0)),(.v (.int .i64 0)),(.v (.int .i64 0)),(.v (.int .i64 0)),(.v (.int .i64 288542)),(.v (.int .i64 (-1)))])
def ke28:Ent:=⟨66,[],[Vq],⟨[],[],(.v (.bool true))⟩⟩
theorem V5:aQ Tryd.prog ke28:=cT (F:=cU) Ke (by kernel_rfl)
def JD:List Ent:=ke28::JE
theorem Kd:∀ e∈JD,aQ Tryd.prog e:=cR V5 Ke
end Go.Eng
