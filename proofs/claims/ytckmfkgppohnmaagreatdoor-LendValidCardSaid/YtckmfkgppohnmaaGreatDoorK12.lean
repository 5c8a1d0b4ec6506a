import Derived.Test.YtckmfkgppohnmaaGreatDoorK11
import Derived.KernelRfl
/- Texts Sane3 to Sane3. -/
set_option linter.all false
namespace Go.Eng
open Go Go.Proofs
def I2:D:=(.agg [(.v (.int .i64 0)),(.msl [0,1] 1),.nilsl,(.msl [1,1] 1),.nilsl,.nilsl,.nilsl,.nilsl,(.v (.int .i64 0)),(.v (.int .i64 1)),(.v (.int .i64 0)),(.v (.int .i64 0)),(.v (.int .i64 0)),(.v (.int .i64 0)),(.v (.int .i64 0)),(.v (.int .i64 0)),(.v (.int .i64 0)),(.v (.int .i64 0)),(.v (.int .i64 0)),(.v (.int .i64 0)),(.v (.int .i64 1)),(.msl [2,1] 2),.nilsl,.nilsl,.nilsl,.nilsl,.nilsl,.nilsl,(.v (.int .i64 0)),(.v (.int .i64 0)),(.v (.int .i64 0)),(.v (.int .i64 0)),(.v (.int .i64 0)),(.v (.int .i64 0)),(.v (.int .i64 0)),(.v (.int .i64 0)),(.v (.int .i64 0)),(.v (.int .i64 0)),(.v (.int .i64 0)),(.v (.int .i64 0)),(.v (.int .i64 707989)),(.v (.int .i64 2)),(.msl [3,1] 1),.nilsl,(.msl [4,1] 1),.nilsl,.nilsl,.nilsl,.nilsl,(.v (.int .i64 0)),(.v (.int .i64 1)),(.v (.int .i64 0)),(.v (.int .i64 0)),(.v (.int .i64 0)),(.v (.int .i64 0)),(.v (.int .i64 0)),(.v (.int .i64 0)),(.v (.int .i64 0)),(.v (.int .i64 0)),(.v (.int .i64 0)),(.v (.int .i64 0)),(.v (.int .i64 288542)),(.v (.int .i64 (-1)))])
def ke15:Ent:=⟨74,[(.arr 1 [(.int .i64 9)]),(.arr 2 [cp]),cC,(.arr 1 [(.int .i64 9)]),(.arr 2 [cp])],[I2],⟨[],[],(.v (.bool true))⟩⟩
theorem Vz:aT Tryz.prog ke15:=cP (F:=cQ) J3 (by kernel_rfl)
def Jt:List Ent:=ke15::Ju
theorem J2:∀ e∈Jt,aT Tryz.prog e:=cS Vz J3
def ke16:Ent:=⟨58,[(.arr 1 [(.int .i64 9)]),(.arr 2 [cp]),cC,(.arr 1 [(.int .i64 9)]),(.arr 2 [cp])],[I2],⟨[],[],(.v (.int .i64 1))⟩⟩
theorem Vy:aT Tryz.prog ke16:=cP (F:=cQ) J2 (by kernel_rfl)
def Js:List Ent:=ke16::Jt
theorem J1:∀ e∈Js,aT Tryz.prog e:=cS Vy J2
def ke17:Ent:=⟨89,[],[(.v (.int .i64 1)),I1],⟨[],[],(.v (.bool true))⟩⟩
theorem Vx:aT Tryz.prog ke17:=cP (F:=cQ) J1 (by kernel_rfl)
def Jr:List Ent:=ke17::Js
theorem J0:∀ e∈Jr,aT Tryz.prog e:=cS Vx J1
def Cx:D:=(.agg [(.v (.int .i64 1)),.nilsl,.nilsl,.nilsl,.nilsl,.nilsl,.nilsl,.nilsl,(.v (.int .i64 0)),(.v (.int .i64 0)),(.v (.int .i64 0)),(.v (.int .i64 0)),(.v (.int .i64 0)),(.v (.int .i64 0)),(.v (.int .i64 0)),(.v (.int .i64 0)),(.v (.int .i64 0)),(.v (.int .i64 0)),(.v (.int .i64 0)),(.v (.int .i64 0)),(.v (.int .i64 1)),.nilsl,.nilsl,.nilsl,.nilsl,.nilsl,.nilsl,.nilsl,(.v (.int .i64 0)),(.v (.int .i64 0)),(.v (.int .i64 0)),(.v (.int .i64 0)),(.v (.int .i64 0)),(.v (.int .i64 0)),(.v (.int .i64 0)),(.v (.int .i64 0)),(.v (.int .i64 0)),(.v (.int .i64 0)),(.v (.int .i64 0)),(.v (.int .i64 0)),(.v (.int .i64 947894)),(.v (.int .i64 0)),.nilsl,.nilsl,.nilsl,.nilsl,.nilsl,.nilsl,.nilsl,(.v (.int .i64 0)),(.v (.int .i64 0)),(.v (.int .i64 0)),(.v (.int .i64 0)),(.v (.int .i64 0)),(.v (.int .i64 0)),(.v (.int .i64 0)),(.v (.int .i64 0)),(.v (.int .i64 0)),(.v (.int .i64 0)),(.v (.int .i64 0)),(.v (.int .i64 0)),(.v (.int .i64 493827)),(.v (.int .i64 (-1)))])
def ke18:Ent:=⟨74,[],[Cx],⟨[],[],(.v (.bool true))⟩⟩
theorem Vw:aT Tryz.prog ke18:=cP (F:=cQ) J0 (by kernel_rfl)
def Jq:List Ent:=ke18::Jr
theorem JZ:∀ e∈Jq,aT Tryz.prog e:=cS Vw J0
def Uu:O:=(.box [(.v (.int .i64 1)),.nilsl,.nilsl,.nilsl,.nilsl,.nilsl,.nilsl,.nilsl,(.v (.int .i64 0)),(.v (.int .i64 0)),(.v (.int .i64 0)),(.v (.int .i64 0)),(.v (.int .i64 0)),(.v (.int .i64 0)),(.v (.int .i64 0)),(.v (.int .i64 0)),(.v (.int .i64 0)),(.v (.int .i64 0)),(.v (.int .i64 0)),(.v (.int .i64 0)),(.v (.int .i64 1)),.nilsl,.nilsl,.nilsl,.nilsl,.nilsl,.nilsl,.nilsl,(.v (.int .i64 0)),(.v (.int .i64 0)),(.v (.int .i64 0)),(.v (.int .i64 0)),(.v (.int .i64 0)),(.v (.int .i64 0)),(.v (.int .i64 0)),(.v (.int .i64 0)),(.v (.int .i64 0)),(.v (.int .i64 0)),(.v (.int .i64 0)),(.v (.int .i64 0)),(.v (.int .i64 947894)),(.v (.int .i64 0)),.nilsl,.nilsl,.nilsl,.nilsl,.nilsl,.nilsl,.nilsl,(.v (.int .i64 0)),(.v (.int .i64 0)),(.v (.int .i64 0)),(.v (.int .i64 0)),(.v (.int .i64 0)),(.v (.int .i64 0)),(.v (.int .i64 0)),(.v (.int .i64 0)),(.v (.int .i64 0)),(.v (.int .i64 0)),(.v (.int .i64 0)),(.v (.int .i64 0)),(.v (.int .i64 493827)),(.v (.int .i64 (-1)))])
def ke19:Ent:=⟨53,[],[Cx],⟨[],[([298,0],Uu)],(.ref [298,0] 0)⟩⟩
theorem Vv:aT Tryz.prog ke19:=cP (F:=cQ) JZ (by kernel_rfl)
def Jo:List Ent:=ke19::Jq
theorem JX:∀ e∈Jo,aT Tryz.prog e:=cS Vv JZ
def UR:D:=(.agg [(.v (.int .i64 0)),(.v (.int .i64 1)),(.msl [0,1] 1),(.v (.int .i64 0))])
def UQ:D:=(.agg [(.v (.int .i64 1)),(.msl [595,0,83,0,175,0,104,0,743,0] 1),.nilsl,.nilsl,.nilsl,.nilsl,.nilsl,.nilsl,(.v (.int .i64 0)),(.v (.int .i64 0)),(.v (.int .i64 0)),(.v (.int .i64 0)),(.v (.int .i64 0)),(.v (.int .i64 0)),(.v (.int .i64 1)),(.v (.int .i64 0)),(.v (.int .i64 0)),(.v (.int .i64 0)),(.v (.int .i64 0)),(.v (.int .i64 0)),(.v (.int .i64 1)),.nilsl,.nilsl,.nilsl,.nilsl,.nilsl,.nilsl,.nilsl,(.v (.int .i64 0)),(.v (.int .i64 0)),(.v (.int .i64 0)),(.v (.int .i64 0)),(.v (.int .i64 0)),(.v (.int .i64 0)),(.v (.int .i64 0)),(.v (.int .i64 0)),(.v (.int .i64 0)),(.v (.int .i64 0)),(.v (.int .i64 0)),(.v (.int .i64 0)),(.v (.int .i64 947894)),(.v (.int .i64 0)),.nilsl,.nilsl,.nilsl,.nilsl,.nilsl,.nilsl,.nilsl,(.v (.int .i64 0)),(.v (.int .i64 0)),(.v (.int .i64 0)),(.v (.int .i64 0)),(.v (.int .i64 0)),(.v (.int .i64 0)),(.v (.int .i64 0)),(.v (.int .i64 0)),(.v (.int .i64 0)),(.v (.int .i64 0)),(.v (.int .i64 0)),(.v (.int .i64 0)),(.v (.int .i64 493827)),(.v (.int .i64 (-1)))])
def UP:D:=(.tup [UQ,(.v (.int .i64 0))])
def ke20:Ent:=⟨16,[(.arr 2 [cp])],[Cx,UR],⟨[],[([595,0,83,0,175,0,104,0,743,0],(.arr 1 [(.int .i64 7)]))],UP⟩⟩
theorem Vt:aT Tryz.prog ke20:=cP (F:=cQ) JX (by kernel_rfl)
def Jn:List Ent:=ke20::Jo
theorem JW:∀ e∈Jn,aT Tryz.prog e:=cS Vt JX
def UO:D:=(.agg [(.v (.int .i64 0)),(.msl [0,1] 1),.nilsl,(.msl [1,1] 1),.nilsl,.nilsl,.nilsl,.nilsl,(.v (.int .i64 0)),(.v (.int .i64 1)),(.v (.int .i64 0)),(.v (.int .i64 0)),(.v (.int .i64 0)),(.v (.int .i64 0)),(.v (.int .i64 0)),(.v (.int .i64 0)),(.v (.int .i64 0)),(.v (.int .i64 0)),(.v (.int .i64 0)),(.v (.int .i64 0)),(.v (.int .i64 1)),(.msl [2,1] 2),.nilsl,.nilsl,.nilsl,.nilsl,.nilsl,.nilsl,(.v (.int .i64 0)),(.v (.int .i64 0)),(.v (.int .i64 0)),(.v (.int .i64 0)),(.v (.int .i64 0)),(.v (.int .i64 0)),(.v (.int .i64 0)),(.v (.int .i64 0)),(.v (.int .i64 0)),(.v (.int .i64 0)),(.v (.int .i64 0)),(.v (.int .i64 0)),(.v (.int .i64 707989)),(.v (.int .i64 2)),(.msl [3,1] 1),.nilsl,(.msl [4,1] 1),.nilsl,.nilsl,.nilsl,.nilsl,(.v (.int .i64 0)),(.v (.int .i64 1)),(.v (.int .i64 0)),(.v (.int .i64 0)),(.v (.int .i64 0)),(.v (.int .i64 0)),(.v (.int .i64 0)),(.v (.int .i64 0)),(.v (.int .i64 0)),(.v (.int .i64 0)),(.v (.int .i64 0)),(.v (.int .i64 0)),(.v (.int .i64 288543)),(.v (.int .i64 (-1)))])
def ke21:Ent:=⟨58,[(.arr 1 [(.int .i64 9)]),(.arr 2 [cp]),cC,(.arr 1 [(.int .i64 9)]),(.arr 2 [cp])],[UO],⟨[],[],(.v (.int .i64 0))⟩⟩
theorem Vs:aT Tryz.prog ke21:=cP (F:=cQ) JW (by kernel_rfl)
def Jm:List Ent:=ke21::Jn
theorem JV:∀ e∈Jm,aT Tryz.prog e:=cS Vs JW
def UN:D:=(.agg [(.v (.int .i64 0)),(.msl [70,0,631,0] 2),.nilsl,.nilsl,.nilsl,.nilsl,.nilsl,.nilsl,(.v (.int .i64 0)),(.v (.int .i64 0)),(.v (.int .i64 0)),(.v (.int .i64 0)),(.v (.int .i64 0)),(.v (.int .i64 0)),(.v (.int .i64 0)),(.v (.int .i64 0)),(.v (.int .i64 0)),(.v (.int .i64 0)),(.v (.int .i64 0)),(.v (.int .i64 0)),(.v (.int .i64 1)),(.msl [70,0,130,0,229,0] 2),.nilsl,.nilsl,.nilsl,.nilsl,.nilsl,.nilsl,(.v (.int .i64 0)),(.v (.int .i64 0)),(.v (.int .i64 0)),(.v (.int .i64 0)),(.v (.int .i64 0)),(.v (.int .i64 0)),(.v (.int .i64 0)),(.v (.int .i64 0)),(.v (.int .i64 0)),(.v (.int .i64 0)),(.v (.int .i64 0)),(.v (.int .i64 0)),(.v (.int .i64 707989)),(.v (.int .i64 2)),(.msl [70,0,222,0,229,0] 1),.nilsl,(.msl [314,0,222,0,229,0] 1),.nilsl,.nilsl,.nilsl,.nilsl,(.v (.int .i64 0)),(.v (.int .i64 1)),(.v (.int .i64 0)),(.v (.int .i64 0)),(.v (.int .i64 0)),(.v (.int .i64 0)),(.v (.int .i64 0)),(.v (.int .i64 0)),(.v (.int .i64 0)),(.v (.int .i64 0)),(.v (.int .i64 0)),(.v (.int .i64 0)),(.v (.int .i64 288543)),(.v (.int .i64 (-1)))])
def UM:D:=(.tup [UN,(.v (.int .i64 0))])
def ke22:Ent:=⟨14,[(.arr 1 [(.int .i64 9)]),(.arr 2 [cp]),cC,(.arr 1 [(.int .i64 9)]),(.arr 2 [cp])],[yG,(.v (.int .i64 1))],⟨[(4,(.arr 2 [cp])),(3,(.arr 1 [(.int .i64 9)])),(2,cC),(1,(.arr 2 [cp])),(0,(.arr 1 [(.int .i64 9)]))],[([70,0,631,0],cC),([70,0,130,0,229,0],cC),([70,0,222,0,229,0],(.arr 1 [(.int .i64 9)])),([314,0,222,0,229,0],(.arr 2 [cp]))],UM⟩⟩
theorem Vr:aT Tryz.prog ke22:=cP (F:=cQ) JV (by kernel_rfl)
def Jl:List Ent:=ke22::Jm
theorem JU:∀ e∈Jl,aT Tryz.prog e:=cS Vr JV
end Go.Eng
