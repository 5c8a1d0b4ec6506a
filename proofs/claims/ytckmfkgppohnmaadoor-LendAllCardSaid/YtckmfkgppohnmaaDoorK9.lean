import Derived.Test.YtckmfkgppohnmaaDoorK8
import Derived.KernelRfl
/- Texts Sane2 to Sane2. -/
set_option linter.all false
namespace Go.Eng
open Go Go.Proofs
def wR:D:=(.agg [(.v (.int .i64 0)),(.v (.sl [(.int .i64 9)])),.nilsl,(.msl [0,1] 1),.nilsl,.nilsl,.nilsl,.nilsl,(.v (.int .i64 0)),(.v (.int .i64 1)),(.v (.int .i64 0)),(.v (.int .i64 0)),(.v (.int .i64 0)),(.v (.int .i64 0)),(.v (.int .i64 0)),(.v (.int .i64 0)),(.v (.int .i64 0)),(.v (.int .i64 0)),(.v (.int .i64 0)),(.v (.int .i64 0)),(.v (.int .i64 1)),(.msl [1,1] 2),.nilsl,.nilsl,.nilsl,.nilsl,.nilsl,.nilsl,(.v (.int .i64 0)),(.v (.int .i64 0)),(.v (.int .i64 0)),(.v (.int .i64 0)),(.v (.int .i64 0)),(.v (.int .i64 0)),(.v (.int .i64 0)),(.v (.int .i64 0)),(.v (.int .i64 0)),(.v (.int .i64 0)),(.v (.int .i64 0)),(.v (.int .i64 0)),(.v (.int .i64 707989)),(.v (.int .i64 0)),.nilsl,.nilsl,.nilsl,.nilsl,.nilsl,.nilsl,.nilsl,(.v (.int .i64 0)),(.v (.int .i64 0)),(.v (.int .i64 0)),(.v (.int .i64 0)),(.v (.int .i64 0)),(.v (.int .i64 0)),(.v (.int .i64 0)),(.v (.int .i64 0)),(.v (.int .i64 0)),(.v (.int .i64 0)),(.v (.int .i64 0)),(.v (.int .i64 0)),(.v (.int .i64 493827)),(.v (.int .i64 (-1)))])
def ke7:Ent:=⟨66,[(.arr 2 [cp]),cA],[wR],⟨[],[],(.v (.bool true))⟩⟩
theorem SF:aP Tryd.prog ke7:=cP (F:=cQ) Hd (by kernel_rfl)
def Gz:List Ent:=ke7::GA
theorem Hb:∀ e∈Gz,aP Tryd.prog e:=cO SF Hd
def R3:O:=(.box [(.v (.int .i64 0)),(.msl [70,0,28,0] 1),.nilsl,(.msl [314,0,28,0] 1),.nilsl,.nilsl,.nilsl,.nilsl,(.v (.int .i64 0)),(.v (.int .i64 1)),(.v (.int .i64 0)),(.v (.int .i64 0)),(.v (.int .i64 0)),(.v (.int .i64 0)),(.v (.int .i64 0)),(.v (.int .i64 0)),(.v (.int .i64 0)),(.v (.int .i64 0)),(.v (.int .i64 0)),(.v (.int .i64 0)),(.v (.int .i64 1)),(.msl [70,0,130,0] 2),.nilsl,.nilsl,.nilsl,.nilsl,.nilsl,.nilsl,(.v (.int .i64 0)),(.v (.int .i64 0)),(.v (.int .i64 0)),(.v (.int .i64 0)),(.v (.int .i64 0)),(.v (.int .i64 0)),(.v (.int .i64 0)),(.v (.int .i64 0)),(.v (.int .i64 0)),(.v (.int .i64 0)),(.v (.int .i64 0)),(.v (.int .i64 0)),(.v (.int .i64 707989)),(.v (.int .i64 0)),.nilsl,.nilsl,.nilsl,.nilsl,.nilsl,.nilsl,.nilsl,(.v (.int .i64 0)),(.v (.int .i64 0)),(.v (.int .i64 0)),(.v (.int .i64 0)),(.v (.int .i64 0)),(.v (.int .i64 0)),(.v (.int .i64 0)),(.v (.int .i64 0)),(.v (.int .i64 0)),(.v (.int .i64 0)),(.v (.int .i64 0)),(.v (.int .i64 0)),(.v (.int .i64 493827)),(.v (.int .i64 (-1)))])
def ke8:Ent:=⟨43,[(.arr 2 [cp]),cA],[wR],⟨[(1,cA),(0,(.arr 2 [cp]))],[([298,0],R3),([70,0,28,0],(.arr 1 [(.int .i64 9)])),([314,0,28,0],(.arr 2 [cp])),([70,0,130,0],cA)],(.ref [298,0] 0)⟩⟩
theorem SE:aP Tryd.prog ke8:=cP (F:=cQ) Hb (by kernel_rfl)
def Gy:List Ent:=ke8::Gz
theorem Ha:∀ e∈Gy,aP Tryd.prog e:=cO SE Hb
def ke9:Ent:=⟨45,[(.arr 2 [cp]),cA],[wR],⟨[],[],(.v (.int .i64 0))⟩⟩
theorem SD:aP Tryd.prog ke9:=cP (F:=cQ) Ha (by kernel_rfl)
def G7:List Ent:=ke9::Gy
theorem HK:∀ e∈G7,aP Tryd.prog e:=cO SD Ha
def Su:D:=(.agg [(.v (.int .i64 0)),(.msl [70,0,28,0,297,0] 1),.nilsl,(.msl [314,0,28,0,297,0] 1),.nilsl,.nilsl,.nilsl,.nilsl,(.v (.int .i64 0)),(.v (.int .i64 1)),(.v (.int .i64 0)),(.v (.int .i64 0)),(.v (.int .i64 0)),(.v (.int .i64 0)),(.v (.int .i64 0)),(.v (.int .i64 0)),(.v (.int .i64 0)),(.v (.int .i64 0)),(.v (.int .i64 0)),(.v (.int .i64 0)),(.v (.int .i64 1)),(.msl [70,0,130,0,297,0] 2),.nilsl,.nilsl,.nilsl,.nilsl,.nilsl,.nilsl,(.v (.int .i64 0)),(.v (.int .i64 0)),(.v (.int .i64 0)),(.v (.int .i64 0)),(.v (.int .i64 0)),(.v (.int .i64 0)),(.v (.int .i64 0)),(.v (.int .i64 0)),(.v (.int .i64 0)),(.v (.int .i64 0)),(.v (.int .i64 0)),(.v (.int .i64 0)),(.v (.int .i64 707989)),(.v (.int .i64 2)),(.msl [70,0,1015,0] 1),.nilsl,(.msl [314,0,1015,0] 1),.nilsl,.nilsl,.nilsl,.nilsl,(.v (.int .i64 0)),(.v (.int .i64 1)),(.v (.int .i64 0)),(.v (.int .i64 0)),(.v (.int .i64 0)),(.v (.int .i64 0)),(.v (.int .i64 0)),(.v (.int .i64 0)),(.v (.int .i64 0)),(.v (.int .i64 0)),(.v (.int .i64 0)),(.v (.int .i64 0)),(.v (.int .i64 288542)),(.v (.int .i64 1))])
def Ss:D:=(.tup [Su,(.v (.int .i64 0))])
def ke10:Ent:=⟨15,[(.arr 2 [cp]),cA],[wR],⟨[(1,cA),(0,(.arr 2 [cp]))],[([70,0,28,0,297,0],(.arr 1 [(.int .i64 9)])),([314,0,28,0,297,0],(.arr 2 [cp])),([70,0,130,0,297,0],cA),([70,0,1015,0],(.arr 1 [(.int .i64 9)])),([314,0,1015,0],(.arr 2 [cp]))],Ss⟩⟩
theorem Ta:aP Tryd.prog ke10:=cP (F:=cQ) HK (by kernel_rfl)
def G6:List Ent:=ke10::G7
theorem HJ:∀ e∈G6,aP Tryd.prog e:=cO Ta HK
def Sr:D:=(.agg [(.msl [0,1] 1),.nilsl,(.msl [1,1] 1),.nilsl,.nilsl,.nilsl,.nilsl,(.v (.int .i64 0)),(.v (.int .i64 1)),(.v (.int .i64 0)),(.v (.int .i64 0)),(.v (.int .i64 0)),(.v (.int .i64 0)),(.v (.int .i64 0)),(.v (.int .i64 0)),(.v (.int .i64 0)),(.v (.int .i64 0)),(.v (.int .i64 0)),(.v (.int .i64 0))])
def ke11:Ent:=⟨78,[(.arr 1 [(.int .i64 9)]),(.arr 2 [cp])],[(.v (.int .i64 0)),Sr],⟨[],[],(.v (.bool true))⟩⟩
theorem S':aP Tryd.prog ke11:=cP (F:=cQ) HJ (by kernel_rfl)
def G5:List Ent:=ke11::G6
theorem HI:∀ e∈G5,aP Tryd.prog e:=cO S' HJ
def wQ:D:=(.agg [(.v (.int .i64 0)),(.msl [0,1] 1),.nilsl,(.msl [1,1] 1),.nilsl,.nilsl,.nilsl,.nilsl,(.v (.int .i64 0)),(.v (.int .i64 1)),(.v (.int .i64 0)),(.v (.int .i64 0)),(.v (.int .i64 0)),(.v (.int .i64 0)),(.v (.int .i64 0)),(.v (.int .i64 0)),(.v (.int .i64 0)),(.v (.int .i64 0)),(.v (.int .i64 0)),(.v (.int .i64 0)),(.v (.int .i64 1)),(.msl [2,1] 2),.nilsl,.nilsl,.nilsl,.nilsl,.nilsl,.nilsl,(.v (.int .i64 0)),(.v (.int .i64 0)),(.v (.int .i64 0)),(.v (.int .i64 0)),(.v (.int .i64 0)),(.v (.int .i64 0)),(.v (.int .i64 0)),(.v (.int .i64 0)),(.v (.int .i64 0)),(.v (.int .i64 0)),(.v (.int .i64 0)),(.v (.int .i64 0)),(.v (.int .i64 707989)),(.v (.int .i64 2)),(.msl [3,1] 1),.nilsl,(.msl [4,1] 1),.nilsl,.nilsl,.nilsl,.nilsl,(.v (.int .i64 0)),(.v (.int .i64 1)),(.v (.int .i64 0)),(.v (.int .i64 0)),(.v (.int .i64 0)),(.v (.int .i64 0)),(.v (.int .i64 0)),(.v (.int .i64 0)),(.v (.int .i64 0)),(.v (.int .i64 0)),(.v (.int .i64 0)),(.v (.int .i64 0)),(.v (.int .i64 288542)),(.v (.int .i64 1))])
def ke12:Ent:=⟨66,[(.arr 1 [(.int .i64 9)]),(.arr 2 [cp]),cA,(.arr 1 [(.int .i64 9)]),(.arr 2 [cp])],[wQ],⟨[],[],(.v (.bool true))⟩⟩
theorem S9:aP Tryd.prog ke12:=cP (F:=cQ) HI (by kernel_rfl)
def G4:List Ent:=ke12::G5
theorem HH:∀ e∈G4,aP Tryd.prog e:=cO S9 HI
def Sq:D:=(.agg [(.v (.int .i64 0)),(.v (.int .i64 1)),.nilsl,(.v (.int .i64 0))])
def Sp:D:=(.tup [Sq,(.v (.int .i64 0))])
def ke13:Ent:=⟨17,[(.arr 1 [(.int .i64 9)]),(.arr 2 [cp]),cA,(.arr 1 [(.int .i64 9)]),(.arr 2 [cp])],[wQ,(.v (.int .i64 1))],⟨[],[],Sp⟩⟩
theorem S7:aP Tryd.prog ke13:=cP (F:=cQ) HH (by kernel_rfl)
def G3:List Ent:=ke13::G4
theorem HG:∀ e∈G3,aP Tryd.prog e:=cO S7 HH
def R1:O:=(.box [(.v (.int .i64 0)),(.msl [70,0,28,0] 1),.nilsl,(.msl [314,0,28,0] 1),.nilsl,.nilsl,.nilsl,.nilsl,(.v (.int .i64 0)),(.v (.int .i64 1)),(.v (.int .i64 0)),(.v (.int .i64 0)),(.v (.int .i64 0)),(.v (.int .i64 0)),(.v (.int .i64 0)),(.v (.int .i64 0)),(.v (.int .i64 0)),(.v (.int .i64 0)),(.v (.int .i64 0)),(.v (.int .i64 0)),(.v (.int .i64 1)),(.msl [70,0,130,0] 2),.nilsl,.nilsl,.nilsl,.nilsl,.nilsl,.nilsl,(.v (.int .i64 0)),(.v (.int .i64 0)),(.v (.int .i64 0)),(.v (.int .i64 0)),(.v (.int .i64 0)),(.v (.int .i64 0)),(.v (.int .i64 0)),(.v (.int .i64 0)),(.v (.int .i64 0)),(.v (.int .i64 0)),(.v (.int .i64 0)),(.v (.int .i64 0)),(.v (.int .i64 707989)),(.v (.int .i64 2)),(.msl [70,0,222,0] 1),.nilsl,(.msl [314,0,222,0] 1),.nilsl,.nilsl,.nilsl,.nilsl,(.v (.int .i64 0)),(.v (.int .i64 1)),(.v (.int .i64 0)),(.v (.int .i64 0)),(.v (.int .i64 0)),(.v (.int .i64 0)),(.v (.int .i64 0)),(.v (.int .i64 0)),(.v (.int .i64 0)),(.v (.int .i64 0)),(.v (.int .i64 0)),(.v (.int .i64 0)),(.v (.int .i64 288542)),(.v (.int .i64 1))])
def ke14:Ent:=⟨43,[(.arr 1 [(.int .i64 9)]),(.arr 2 [cp]),cA,(.arr 1 [(.int .i64 9)]),(.arr 2 [cp])],[wQ],⟨[(4,(.arr 2 [cp])),(3,(.arr 1 [(.int .i64 9)])),(2,cA),(1,(.arr 2 [cp])),(0,(.arr 1 [(.int .i64 9)]))],[([298,0],R1),([70,0,28,0],(.arr 1 [(.int .i64 9)])),([314,0,28,0],(.arr 2 [cp])),([70,0,130,0],cA),([70,0,222,0],(.arr 1 [(.int .i64 9)])),([314,0,222,0],(.arr 2 [cp]))],(.ref [298,0] 0)⟩⟩
theorem S6:aP Tryd.prog ke14:=cP (F:=cQ) HG (by kernel_rfl)
def G2:List Ent:=ke14::G3
theorem HE:∀ e∈G2,aP Tryd.prog e:=cO S6 HG
end Go.Eng
