import Derived.Test.YtckmfkgppohnmaaDoorK9
import Derived.KernelRfl
/- Texts Sane3 to Sane3. -/
set_option linter.all false
namespace Go.Eng
open Go Go.Proofs
def Gw:D:=(.agg [(.v (.int .i64 0)),(.msl [0,1] 1),.nilsl,(.msl [1,1] 1),.nilsl,.nilsl,.nilsl,.nilsl,(.v (.int .i64 0)),(.v (.int .i64 1)),(.v (.int .i64 0)),(.v (.int .i64 0)),(.v (.int .i64 0)),(.v (.int .i64 0)),(.v (.int .i64 0)),(.v (.int .i64 0)),(.v (.int .i64 0)),(.v (.int .i64 0)),(.v (.int .i64 0)),(.v (.int .i64 0)),(.v (.int .i64 1)),(.msl [2,1] 2),.nilsl,.nilsl,.nilsl,.nilsl,.nilsl,.nilsl,(.v (.int .i64 0)),(.v (.int .i64 0)),(.v (.int .i64 0)),(.v (.int .i64 0)),(.v (.int .i64 0)),(.v (.int .i64 0)),(.v (.int .i64 0)),(.v (.int .i64 0)),(.v (.int .i64 0)),(.v (.int .i64 0)),(.v (.int .i64 0)),(.v (.int .i64 0)),(.v (.int .i64 707989)),(.v (.int .i64 2)),(.msl [3,1] 1),.nilsl,(.msl [4,1] 1),.nilsl,.nilsl,.nilsl,.nilsl,(.v (.int .i64 0)),(.v (.int .i64 1)),(.v (.int .i64 0)),(.v (.int .i64 0)),(.v (.int .i64 0)),(.v (.int .i64 0)),(.v (.int .i64 0)),(.v (.int .i64 0)),(.v (.int .i64 0)),(.v (.int .i64 0)),(.v (.int .i64 0)),(.v (.int .i64 0)),(.v (.int .i64 288542)),(.v (.int .i64 (-1)))])
def ke15:Ent:=⟨66,[(.arr 1 [(.int .i64 9)]),(.arr 2 [cp]),cA,(.arr 1 [(.int .i64 9)]),(.arr 2 [cp])],[Gw],⟨[],[],(.v (.bool true))⟩⟩
theorem S5:aP Tryd.prog ke15:=cP (F:=cQ) HE (by kernel_rfl)
def G1:List Ent:=ke15::G2
theorem HD:∀ e∈G1,aP Tryd.prog e:=cO S5 HE
def ke16:Ent:=⟨45,[(.arr 1 [(.int .i64 9)]),(.arr 2 [cp]),cA,(.arr 1 [(.int .i64 9)]),(.arr 2 [cp])],[Gw],⟨[],[],(.v (.int .i64 1))⟩⟩
theorem S4:aP Tryd.prog ke16:=cP (F:=cQ) HD (by kernel_rfl)
def G0:List Ent:=ke16::G1
theorem HC:∀ e∈G0,aP Tryd.prog e:=cO S4 HD
def ke17:Ent:=⟨78,[],[(.v (.int .i64 1)),Gv],⟨[],[],(.v (.bool true))⟩⟩
theorem S3:aP Tryd.prog ke17:=cP (F:=cQ) HC (by kernel_rfl)
def GZ:List Ent:=ke17::G0
theorem HB:∀ e∈GZ,aP Tryd.prog e:=cO S3 HC
def Ay:D:=(.agg [(.v (.int .i64 1)),.nilsl,.nilsl,.nilsl,.nilsl,.nilsl,.nilsl,.nilsl,(.v (.int .i64 0)),(.v (.int .i64 0)),(.v (.int .i64 0)),(.v (.int .i64 0)),(.v (.int .i64 0)),(.v (.int .i64 0)),(.v (.int .i64 0)),(.v (.int .i64 0)),(.v (.int .i64 0)),(.v (.int .i64 0)),(.v (.int .i64 0)),(.v (.int .i64 0)),(.v (.int .i64 1)),.nilsl,.nilsl,.nilsl,.nilsl,.nilsl,.nilsl,.nilsl,(.v (.int .i64 0)),(.v (.int .i64 0)),(.v (.int .i64 0)),(.v (.int .i64 0)),(.v (.int .i64 0)),(.v (.int .i64 0)),(.v (.int .i64 0)),(.v (.int .i64 0)),(.v (.int .i64 0)),(.v (.int .i64 0)),(.v (.int .i64 0)),(.v (.int .i64 0)),(.v (.int .i64 947894)),(.v (.int .i64 0)),.nilsl,.nilsl,.nilsl,.nilsl,.nilsl,.nilsl,.nilsl,(.v (.int .i64 0)),(.v (.int .i64 0)),(.v (.int .i64 0)),(.v (.int .i64 0)),(.v (.int .i64 0)),(.v (.int .i64 0)),(.v (.int .i64 0)),(.v (.int .i64 0)),(.v (.int .i64 0)),(.v (.int .i64 0)),(.v (.int .i64 0)),(.v (.int .i64 0)),(.v (.int .i64 493827)),(.v (.int .i64 (-1)))])
def ke18:Ent:=⟨66,[],[Ay],⟨[],[],(.v (.bool true))⟩⟩
theorem S2:aP Tryd.prog ke18:=cP (F:=cQ) HB (by kernel_rfl)
def GY:List Ent:=ke18::GZ
theorem HA:∀ e∈GY,aP Tryd.prog e:=cO S2 HB
def R0:O:=(.box [(.v (.int .i64 1)),.nilsl,.nilsl,.nilsl,.nilsl,.nilsl,.nilsl,.nilsl,(.v (.int .i64 0)),(.v (.int .i64 0)),(.v (.int .i64 0)),(.v (.int .i64 0)),(.v (.int .i64 0)),(.v (.int .i64 0)),(.v (.int .i64 0)),(.v (.int .i64 0)),(.v (.int .i64 0)),(.v (.int .i64 0)),(.v (.int .i64 0)),(.v (.int .i64 0)),(.v (.int .i64 1)),.nilsl,.nilsl,.nilsl,.nilsl,.nilsl,.nilsl,.nilsl,(.v (.int .i64 0)),(.v (.int .i64 0)),(.v (.int .i64 0)),(.v (.int .i64 0)),(.v (.int .i64 0)),(.v (.int .i64 0)),(.v (.int .i64 0)),(.v (.int .i64 0)),(.v (.int .i64 0)),(.v (.int .i64 0)),(.v (.int .i64 0)),(.v (.int .i64 0)),(.v (.int .i64 947894)),(.v (.int .i64 0)),.nilsl,.nilsl,.nilsl,.nilsl,.nilsl,.nilsl,.nilsl,(.v (.int .i64 0)),(.v (.int .i64 0)),(.v (.int .i64 0)),(.v (.int .i64 0)),(.v (.int .i64 0)),(.v (.int .i64 0)),(.v (.int .i64 0)),(.v (.int .i64 0)),(.v (.int .i64 0)),(.v (.int .i64 0)),(.v (.int .i64 0)),(.v (.int .i64 0)),(.v (.int .i64 493827)),(.v (.int .i64 (-1)))])
def ke19:Ent:=⟨43,[],[Ay],⟨[],[([298,0],R0)],(.ref [298,0] 0)⟩⟩
theorem S1:aP Tryd.prog ke19:=cP (F:=cQ) HA (by kernel_rfl)
def GW:List Ent:=ke19::GY
theorem Hy:∀ e∈GW,aP Tryd.prog e:=cO S1 HA
def Sn:D:=(.agg [(.v (.int .i64 0)),(.v (.int .i64 1)),(.msl [0,1] 1),(.v (.int .i64 0))])
def Sm:D:=(.agg [(.v (.int .i64 1)),(.msl [595,0,83,0,175,0,104,0,743,0] 1),.nilsl,.nilsl,.nilsl,.nilsl,.nilsl,.nilsl,(.v (.int .i64 0)),(.v (.int .i64 0)),(.v (.int .i64 0)),(.v (.int .i64 0)),(.v (.int .i64 0)),(.v (.int .i64 0)),(.v (.int .i64 1)),(.v (.int .i64 0)),(.v (.int .i64 0)),(.v (.int .i64 0)),(.v (.int .i64 0)),(.v (.int .i64 0)),(.v (.int .i64 1)),.nilsl,.nilsl,.nilsl,.nilsl,.nilsl,.nilsl,.nilsl,(.v (.int .i64 0)),(.v (.int .i64 0)),(.v (.int .i64 0)),(.v (.int .i64 0)),(.v (.int .i64 0)),(.v (.int .i64 0)),(.v (.int .i64 0)),(.v (.int .i64 0)),(.v (.int .i64 0)),(.v (.int .i64 0)),(.v (.int .i64 0)),(.v (.int .i64 0)),(.v (.int .i64 947894)),(.v (.int .i64 0)),.nilsl,.nilsl,.nilsl,.nilsl,.nilsl,.nilsl,.nilsl,(.v (.int .i64 0)),(.v (.int .i64 0)),(.v (.int .i64 0)),(.v (.int .i64 0)),(.v (.int .i64 0)),(.v (.int .i64 0)),(.v (.int .i64 0)),(.v (.int .i64 0)),(.v (.int .i64 0)),(.v (.int .i64 0)),(.v (.int .i64 0)),(.v (.int .i64 0)),(.v (.int .i64 493827)),(.v (.int .i64 (-1)))])
def Sl:D:=(.tup [Sm,(.v (.int .i64 0))])
def ke20:Ent:=⟨18,[(.arr 2 [cp])],[Ay,Sn],⟨[],[([595,0,83,0,175,0,104,0,743,0],(.arr 1 [(.int .i64 7)]))],Sl⟩⟩
theorem SZ:aP Tryd.prog ke20:=cP (F:=cQ) Hy (by kernel_rfl)
def GV:List Ent:=ke20::GW
theorem Hw:∀ e∈GV,aP Tryd.prog e:=cO SZ Hy
def Sk:D:=(.agg [(.v (.int .i64 0)),(.msl [0,1] 1),.nilsl,(.msl [1,1] 1),.nilsl,.nilsl,.nilsl,.nilsl,(.v (.int .i64 0)),(.v (.int .i64 1)),(.v (.int .i64 0)),(.v (.int .i64 0)),(.v (.int .i64 0)),(.v (.int .i64 0)),(.v (.int .i64 0)),(.v (.int .i64 0)),(.v (.int .i64 0)),(.v (.int .i64 0)),(.v (.int .i64 0)),(.v (.int .i64 0)),(.v (.int .i64 1)),(.msl [2,1] 2),.nilsl,.nilsl,.nilsl,.nilsl,.nilsl,.nilsl,(.v (.int .i64 0)),(.v (.int .i64 0)),(.v (.int .i64 0)),(.v (.int .i64 0)),(.v (.int .i64 0)),(.v (.int .i64 0)),(.v (.int .i64 0)),(.v (.int .i64 0)),(.v (.int .i64 0)),(.v (.int .i64 0)),(.v (.int .i64 0)),(.v (.int .i64 0)),(.v (.int .i64 707989)),(.v (.int .i64 2)),(.msl [3,1] 1),.nilsl,(.msl [4,1] 1),.nilsl,.nilsl,.nilsl,.nilsl,(.v (.int .i64 0)),(.v (.int .i64 1)),(.v (.int .i64 0)),(.v (.int .i64 0)),(.v (.int .i64 0)),(.v (.int .i64 0)),(.v (.int .i64 0)),(.v (.int .i64 0)),(.v (.int .i64 0)),(.v (.int .i64 0)),(.v (.int .i64 0)),(.v (.int .i64 0)),(.v (.int .i64 288543)),(.v (.int .i64 (-1)))])
def ke21:Ent:=⟨45,[(.arr 1 [(.int .i64 9)]),(.arr 2 [cp]),cA,(.arr 1 [(.int .i64 9)]),(.arr 2 [cp])],[Sk],⟨[],[],(.v (.int .i64 0))⟩⟩
theorem SY:aP Tryd.prog ke21:=cP (F:=cQ) Hw (by kernel_rfl)
def GU:List Ent:=ke21::GV
theorem Hv:∀ e∈GU,aP Tryd.prog e:=cO SY Hw
def Sj:D:=(.agg [(.v (.int .i64 0)),(.msl [70,0,631,0] 2),.nilsl,.nilsl,.nilsl,.nilsl,.nilsl,.nilsl,(.v (.int .i64 0)),(.v (.int .i64 0)),(.v (.int .i64 0)),(.v (.int .i64 0)),(.v (.int .i64 0)),(.v (.int .i64 0)),(.v (.int .i64 0)),(.v (.int .i64 0)),(.v (.int .i64 0)),(.v (.int .i64 0)),(.v (.int .i64 0)),(.v (.int .i64 0)),(.v (.int .i64 1)),(.msl [70,0,130,0,229,0] 2),.nilsl,.nilsl,.nilsl,.nilsl,.nilsl,.nilsl,(.v (.int .i64 0)),(.v (.int .i64 0)),(.v (.int .i64 0)),(.v (.int .i64 0)),(.v (.int .i64 0)),(.v (.int .i64 0)),(.v (.int .i64 0)),(.v (.int .i64 0)),(.v (.int .i64 0)),(.v (.int .i64 0)),(.v (.int .i64 0)),(.v (.int .i64 0)),(.v (.int .i64 707989)),(.v (.int .i64 2)),(.msl [70,0,222,0,229,0] 1),.nilsl,(.msl [314,0,222,0,229,0] 1),.nilsl,.nilsl,.nilsl,.nilsl,(.v (.int .i64 0)),(.v (.int .i64 1)),(.v (.int .i64 0)),(.v (.int .i64 0)),(.v (.int .i64 0)),(.v (.int .i64 0)),(.v (.int .i64 0)),(.v (.int .i64 0)),(.v (.int .i64 0)),(.v (.int .i64 0)),(.v (.int .i64 0)),(.v (.int .i64 0)),(.v (.int .i64 288543)),(.v (.int .i64 (-1)))])
def Si:D:=(.tup [Sj,(.v (.int .i64 0))])
def ke22:Ent:=⟨31,[(.arr 1 [(.int .i64 9)]),(.arr 2 [cp]),cA,(.arr 1 [(.int .i64 9)]),(.arr 2 [cp])],[wQ,(.v (.int .i64 1))],⟨[(4,(.arr 2 [cp])),(3,(.arr 1 [(.int .i64 9)])),(2,cA),(1,(.arr 2 [cp])),(0,(.arr 1 [(.int .i64 9)]))],[([70,0,631,0],cA),([70,0,130,0,229,0],cA),([70,0,222,0,229,0],(.arr 1 [(.int .i64 9)])),([314,0,222,0,229,0],(.arr 2 [cp]))],Si⟩⟩
theorem SX:aP Tryd.prog ke22:=cP (F:=cQ) Hv (by kernel_rfl)
def GS:List Ent:=ke22::GU
theorem Hu:∀ e∈GS,aP Tryd.prog e:=cO SX Hv
end Go.Eng
