import Derived.Test.YtckmfkgppohnmaaDoorK6
import Derived.KernelRfl
/- Texts Sane1 to Sane1. -/
set_option linter.all false
namespace Go.Eng
open Go Go.Proofs
def cW:List Nat:=[11,78,66,43,14,45,15,17,18,31,22,20,10]
def zb:V:=(.sl [(.int .i64 7),(.int .i64 9)])
def cI:O:=(.arr 1 [(.int .i64 7),(.int .i64 9)])
def VT:D:=(.agg [(.v (.int .i64 0)),(.msl [127,0] 2),.nilsl,.nilsl,.nilsl,.nilsl,.nilsl,.nilsl,(.v (.int .i64 0)),(.v (.int .i64 0)),(.v (.int .i64 0)),(.v (.int .i64 0)),(.v (.int .i64 0)),(.v (.int .i64 0)),(.v (.int .i64 0)),(.v (.int .i64 0)),(.v (.int .i64 0)),(.v (.int .i64 0)),(.v (.int .i64 0)),(.v (.int .i64 0)),(.v (.int .i64 1)),(.msl [70,0,167,0] 2),.nilsl,.nilsl,.nilsl,.nilsl,.nilsl,.nilsl,(.v (.int .i64 0)),(.v (.int .i64 0)),(.v (.int .i64 0)),(.v (.int .i64 0)),(.v (.int .i64 0)),(.v (.int .i64 0)),(.v (.int .i64 0)),(.v (.int .i64 0)),(.v (.int .i64 0)),(.v (.int .i64 0)),(.v (.int .i64 0)),(.v (.int .i64 0)),(.v (.int .i64 707989)),(.v (.int .i64 0)),.nilsl,.nilsl,.nilsl,.nilsl,.nilsl,.nilsl,.nilsl,(.v (.int .i64 0)),(.v (.int .i64 0)),(.v (.int .i64 0)),(.v (.int .i64 0)),(.v (.int .i64 0)),(.v (.int .i64 0)),(.v (.int .i64 0)),(.v (.int .i64 0)),(.v (.int .i64 0)),(.v (.int .i64 0)),(.v (.int .i64 0)),(.v (.int .i64 0)),(.v (.int .i64 493827)),(.v (.int .i64 (-1)))])
def VM:D:=(.tup [VT,(.v (.int .i64 0))])
def ke0:Ent:=⟨11,[],[(.v (.int .i64 0)),(.v zb)],⟨[],[([127,0],cI),([70,0,167,0],cI)],VM⟩⟩
theorem WH:aQ Tryd.prog ke0:=cV (F:=cW) KJ (by kernel_rfl)
def J':List Ent:=ke0::Ka
theorem KI:∀ e∈J',aQ Tryd.prog e:=c7 WH KJ
def VD:D:=(.agg [(.msl [0,1] 2),.nilsl,.nilsl,.nilsl,.nilsl,.nilsl,.nilsl,(.v (.int .i64 0)),(.v (.int .i64 0)),(.v (.int .i64 0)),(.v (.int .i64 0)),(.v (.int .i64 0)),(.v (.int .i64 0)),(.v (.int .i64 0)),(.v (.int .i64 0)),(.v (.int .i64 0)),(.v (.int .i64 0)),(.v (.int .i64 0)),(.v (.int .i64 0))])
def ke1:Ent:=⟨78,[cI],[(.v (.int .i64 0)),VD],⟨[],[],(.v (.bool true))⟩⟩
theorem WG:aQ Tryd.prog ke1:=cV (F:=cW) KI (by kernel_rfl)
def JZ:List Ent:=ke1::J'
theorem Kx:∀ e∈JZ,aQ Tryd.prog e:=c7 WG KI
def JA:D:=(.agg [.nilsl,.nilsl,.nilsl,.nilsl,.nilsl,.nilsl,.nilsl,(.v (.int .i64 0)),(.v (.int .i64 0)),(.v (.int .i64 0)),(.v (.int .i64 0)),(.v (.int .i64 0)),(.v (.int .i64 0)),(.v (.int .i64 0)),(.v (.int .i64 0)),(.v (.int .i64 0)),(.v (.int .i64 0)),(.v (.int .i64 0)),(.v (.int .i64 0))])
def ke2:Ent:=⟨78,[],[(.v (.int .i64 0)),JA],⟨[],[],(.v (.bool true))⟩⟩
theorem Wu:aQ Tryd.prog ke2:=cV (F:=cW) Kx (by kernel_rfl)
def JO:List Ent:=ke2::JZ
theorem Km:∀ e∈JO,aQ Tryd.prog e:=c7 Wu Kx
def CX:D:=(.agg [(.v (.int .i64 0)),(.msl [0,1] 2),.nilsl,.nilsl,.nilsl,.nilsl,.nilsl,.nilsl,(.v (.int .i64 0)),(.v (.int .i64 0)),(.v (.int .i64 0)),(.v (.int .i64 0)),(.v (.int .i64 0)),(.v (.int .i64 0)),(.v (.int .i64 0)),(.v (.int .i64 0)),(.v (.int .i64 0)),(.v (.int .i64 0)),(.v (.int .i64 0)),(.v (.int .i64 0)),(.v (.int .i64 1)),(.msl [1,1] 2),.nilsl,.nilsl,.nilsl,.nilsl,.nilsl,.nilsl,(.v (.int .i64 0)),(.v (.int .i64 0)),(.v (.int .i64 0)),(.v (.int .i64 0)),(.v (.int .i64 0)),(.v (.int .i64 0)),(.v (.int .i64 0)),(.v (.int .i64 0)),(.v (.int .i64 0)),(.v (.int .i64 0)),(.v (.int .i64 0)),(.v (.int .i64 0)),(.v (.int .i64 707989)),(.v (.int .i64 0)),.nilsl,.nilsl,.nilsl,.nilsl,.nilsl,.nilsl,.nilsl,(.v (.int .i64 0)),(.v (.int .i64 0)),(.v (.int .i64 0)),(.v (.int .i64 0)),(.v (.int .i64 0)),(.v (.int .i64 0)),(.v (.int .i64 0)),(.v (.int .i64 0)),(.v (.int .i64 0)),(.v (.int .i64 0)),(.v (.int .i64 0)),(.v (.int .i64 0)),(.v (.int .i64 493827)),(.v (.int .i64 (-1)))])
def ke3:Ent:=⟨66,[cI,cI],[CX],⟨[],[],(.v (.bool true))⟩⟩
theorem Wj:aQ Tryd.prog ke3:=cV (F:=cW) Km (by kernel_rfl)
def JI:List Ent:=ke3::JO
theorem Kg:∀ e∈JI,aQ Tryd.prog e:=c7 Wj Km
def Vu:O:=(.box [(.v (.int .i64 0)),(.msl [70,0,28,0] 2),.nilsl,.nilsl,.nilsl,.nilsl,.nilsl,.nilsl,(.v (.int .i64 0)),(.v (.int .i64 0)),(.v (.int .i64 0)),(.v (.int .i64 0)),(.v (.int .i64 0)),(.v (.int .i64 0)),(.v (.int .i64 0)),(.v (.int .i64 0)),(.v (.int .i64 0)),(.v (.int .i64 0)),(.v (.int .i64 0)),(.v (.int .i64 0)),(.v (.int .i64 1)),(.msl [70,0,130,0] 2),.nilsl,.nilsl,.nilsl,.nilsl,.nilsl,.nilsl,(.v (.int .i64 0)),(.v (.int .i64 0)),(.v (.int .i64 0)),(.v (.int .i64 0)),(.v (.int .i64 0)),(.v (.int .i64 0)),(.v (.int .i64 0)),(.v (.int .i64 0)),(.v (.int .i64 0)),(.v (.int .i64 0)),(.v (.int .i64 0)),(.v (.int .i64 0)),(.v (.int .i64 707989)),(.v (.int .i64 0)),.nilsl,.nilsl,.nilsl,.nilsl,.nilsl,.nilsl,.nilsl,(.v (.int .i64 0)),(.v (.int .i64 0)),(.v (.int .i64 0)),(.v (.int .i64 0)),(.v (.int .i64 0)),(.v (.int .i64 0)),(.v (.int .i64 0)),(.v (.int .i64 0)),(.v (.int .i64 0)),(.v (.int .i64 0)),(.v (.int .i64 0)),(.v (.int .i64 0)),(.v (.int .i64 493827)),(.v (.int .i64 (-1)))])
def ke4:Ent:=⟨43,[cI,cI],[CX],⟨[(1,cI),(0,cI)],[([298,0],Vu),([70,0,28,0],cI),([70,0,130,0],cI)],(.ref [298,0] 0)⟩⟩
theorem Wc:aQ Tryd.prog ke4:=cV (F:=cW) Kg (by kernel_rfl)
def JH:List Ent:=ke4::JI
theorem Kf:∀ e∈JH,aQ Tryd.prog e:=c7 Wc Kg
def cz:V:=(.agg [(.int .i64 1),(.int .i64 7)])
def Vy:D:=(.agg [(.v (.int .i64 0)),(.v (.sl [(.int .i64 9)])),.nilsl,(.msl [1563,0] 1),.nilsl,.nilsl,.nilsl,.nilsl,(.v (.int .i64 0)),(.v (.int .i64 1)),(.v (.int .i64 0)),(.v (.int .i64 0)),(.v (.int .i64 0)),(.v (.int .i64 0)),(.v (.int .i64 0)),(.v (.int .i64 0)),(.v (.int .i64 0)),(.v (.int .i64 0)),(.v (.int .i64 0)),(.v (.int .i64 0)),(.v (.int .i64 1)),(.msl [70,0,130,0,1149,0] 2),.nilsl,.nilsl,.nilsl,.nilsl,.nilsl,.nilsl,(.v (.int .i64 0)),(.v (.int .i64 0)),(.v (.int .i64 0)),(.v (.int .i64 0)),(.v (.int .i64 0)),(.v (.int .i64 0)),(.v (.int .i64 0)),(.v (.int .i64 0)),(.v (.int .i64 0)),(.v (.int .i64 0)),(.v (.int .i64 0)),(.v (.int .i64 0)),(.v (.int .i64 707989)),(.v (.int .i64 0)),.nilsl,.nilsl,.nilsl,.nilsl,.nilsl,.nilsl,.nilsl,(.v (.int .i64 0)),(.v (.int .i64 0)),(.v (.int .i64 0)),(.v (.int .i64 0)),(.v (.int .i64 0)),(.v (.int .i64 0)),(.v (.int .i64 0)),(.v (.int .i64 0)),(.v (.int .i64 0)),(.v (.int .i64 0)),(.v (.int .i64 0)),(.v (.int .i64 0)),(.v (.int .i64 493827)),(.v (.int .i64 (-1)))])
def V0:D:=(.tup [Vy,(.v (.int .i64 0))])
def ke5:Ent:=⟨14,[cI,cI],[CX,(.v (.int .i64 7)),(.v (.int .i64 1))],⟨[(1,cI),(0,cI)],[([1563,0],(.arr 2 [cz])),([70,0,130,0,1149,0],cI)],V0⟩⟩
theorem Wb:aQ Tryd.prog ke5:=cV (F:=cW) Kf (by kernel_rfl)
def JG:List Ent:=ke5::JH
theorem Ke:∀ e∈JG,aQ Tryd.prog e:=c7 Wb Kf
def VZ:D:=(.agg [(.v (.sl [(.int .i64 9)])),.nilsl,(.msl [0,1] 1),.nilsl,.nilsl,.nilsl,.nilsl,(.v (.int .i64 0)),(.v (.int .i64 1)),(.v (.int .i64 0)),(.v (.int .i64 0)),(.v (.int .i64 0)),(.v (.int .i64 0)),(.v (.int .i64 0)),(.v (.int .i64 0)),(.v (.int .i64 0)),(.v (.int .i64 0)),(.v (.int .i64 0)),(.v (.int .i64 0))])
def ke6:Ent:=⟨78,[(.arr 2 [cz])],[(.v (.int .i64 0)),VZ],⟨[],[],(.v (.bool true))⟩⟩
theorem Wa:aQ Tryd.prog ke6:=cV (F:=cW) Ke (by kernel_rfl)
def JF:List Ent:=ke6::JG
theorem Kd:∀ e∈JF,aQ Tryd.prog e:=c7 Wa Ke
end Go.Eng
