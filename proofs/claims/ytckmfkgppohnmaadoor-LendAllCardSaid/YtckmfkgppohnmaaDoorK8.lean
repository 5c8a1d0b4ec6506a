import Derived.Test.YtckmfkgppohnmaaDoorK7
import Derived.KernelRfl
/- Texts Sane1 to Sane1. -/
set_option linter.all false
namespace Go.Eng
open Go Go.Proofs
def cQ:List Nat:=[11,78,66,43,14,45,15,17,18,31,22,20,10]
def wP:V:=(.sl [(.int .i64 7),(.int .i64 9)])
def cA:O:=(.arr 1 [(.int .i64 7),(.int .i64 9)])
def So:D:=(.agg [(.v (.int .i64 0)),(.msl [127,0] 2),.nilsl,.nilsl,.nilsl,.nilsl,.nilsl,.nilsl,(.v (.int .i64 0)),(.v (.int .i64 0)),(.v (.int .i64 0)),(.v (.int .i64 0)),(.v (.int .i64 0)),(.v (.int .i64 0)),(.v (.int .i64 0)),(.v (.int .i64 0)),(.v (.int .i64 0)),(.v (.int .i64 0)),(.v (.int .i64 0)),(.v (.int .i64 0)),(.v (.int .i64 1)),(.msl [70,0,167,0] 2),.nilsl,.nilsl,.nilsl,.nilsl,.nilsl,.nilsl,(.v (.int .i64 0)),(.v (.int .i64 0)),(.v (.int .i64 0)),(.v (.int .i64 0)),(.v (.int .i64 0)),(.v (.int .i64 0)),(.v (.int .i64 0)),(.v (.int .i64 0)),(.v (.int .i64 0)),(.v (.int .i64 0)),(.v (.int .i64 0)),(.v (.int .i64 0)),(.v (.int .i64 707989)),(.v (.int .i64 0)),.nilsl,.nilsl,.nilsl,.nilsl,.nilsl,.nilsl,.nilsl,(.v (.int .i64 0)),(.v (.int .i64 0)),(.v (.int .i64 0)),(.v (.int .i64 0)),(.v (.int .i64 0)),(.v (.int .i64 0)),(.v (.int .i64 0)),(.v (.int .i64 0)),(.v (.int .i64 0)),(.v (.int .i64 0)),(.v (.int .i64 0)),(.v (.int .i64 0)),(.v (.int .i64 493827)),(.v (.int .i64 (-1)))])
def Sh:D:=(.tup [So,(.v (.int .i64 0))])
def ke0:Ent:=⟨11,[],[(.v (.int .i64 0)),(.v wP)],⟨[],[([127,0],cA),([70,0,167,0],cA)],Sh⟩⟩
theorem Tc:aP Tryd.prog ke0:=cP (F:=cQ) HM (by kernel_rfl)
def G8:List Ent:=ke0::G9
theorem HL:∀ e∈G8,aP Tryd.prog e:=cO Tc HM
def R9:D:=(.agg [(.msl [0,1] 2),.nilsl,.nilsl,.nilsl,.nilsl,.nilsl,.nilsl,(.v (.int .i64 0)),(.v (.int .i64 0)),(.v (.int .i64 0)),(.v (.int .i64 0)),(.v (.int .i64 0)),(.v (.int .i64 0)),(.v (.int .i64 0)),(.v (.int .i64 0)),(.v (.int .i64 0)),(.v (.int .i64 0)),(.v (.int .i64 0)),(.v (.int .i64 0))])
def ke1:Ent:=⟨78,[cA],[(.v (.int .i64 0)),R9],⟨[],[],(.v (.bool true))⟩⟩
theorem Tb:aP Tryd.prog ke1:=cP (F:=cQ) HL (by kernel_rfl)
def GX:List Ent:=ke1::G8
theorem Hz:∀ e∈GX,aP Tryd.prog e:=cO Tb HL
def Gv:D:=(.agg [.nilsl,.nilsl,.nilsl,.nilsl,.nilsl,.nilsl,.nilsl,(.v (.int .i64 0)),(.v (.int .i64 0)),(.v (.int .i64 0)),(.v (.int .i64 0)),(.v (.int .i64 0)),(.v (.int .i64 0)),(.v (.int .i64 0)),(.v (.int .i64 0)),(.v (.int .i64 0)),(.v (.int .i64 0)),(.v (.int .i64 0)),(.v (.int .i64 0))])
def ke2:Ent:=⟨78,[],[(.v (.int .i64 0)),Gv],⟨[],[],(.v (.bool true))⟩⟩
theorem S0:aP Tryd.prog ke2:=cP (F:=cQ) Hz (by kernel_rfl)
def GL:List Ent:=ke2::GX
theorem Hn:∀ e∈GL,aP Tryd.prog e:=cO S0 Hz
def Ax:D:=(.agg [(.v (.int .i64 0)),(.msl [0,1] 2),.nilsl,.nilsl,.nilsl,.nilsl,.nilsl,.nilsl,(.v (.int .i64 0)),(.v (.int .i64 0)),(.v (.int .i64 0)),(.v (.int .i64 0)),(.v (.int .i64 0)),(.v (.int .i64 0)),(.v (.int .i64 0)),(.v (.int .i64 0)),(.v (.int .i64 0)),(.v (.int .i64 0)),(.v (.int .i64 0)),(.v (.int .i64 0)),(.v (.int .i64 1)),(.msl [1,1] 2),.nilsl,.nilsl,.nilsl,.nilsl,.nilsl,.nilsl,(.v (.int .i64 0)),(.v (.int .i64 0)),(.v (.int .i64 0)),(.v (.int .i64 0)),(.v (.int .i64 0)),(.v (.int .i64 0)),(.v (.int .i64 0)),(.v (.int .i64 0)),(.v (.int .i64 0)),(.v (.int .i64 0)),(.v (.int .i64 0)),(.v (.int .i64 0)),(.v (.int .i64 707989)),(.v (.int .i64 0)),.nilsl,.nilsl,.nilsl,.nilsl,.nilsl,.nilsl,.nilsl,(.v (.int .i64 0)),(.v (.int .i64 0)),(.v (.int .i64 0)),(.v (.int .i64 0)),(.v (.int .i64 0)),(.v (.int .i64 0)),(.v (.int .i64 0)),(.v (.int .i64 0)),(.v (.int .i64 0)),(.v (.int .i64 0)),(.v (.int .i64 0)),(.v (.int .i64 0)),(.v (.int .i64 493827)),(.v (.int .i64 (-1)))])
def ke3:Ent:=⟨66,[cA,cA],[Ax],⟨[],[],(.v (.bool true))⟩⟩
theorem SO:aP Tryd.prog ke3:=cP (F:=cQ) Hn (by kernel_rfl)
def GD:List Ent:=ke3::GL
theorem Hg:∀ e∈GD,aP Tryd.prog e:=cO SO Hn
def RZ:O:=(.box [(.v (.int .i64 0)),(.msl [70,0,28,0] 2),.nilsl,.nilsl,.nilsl,.nilsl,.nilsl,.nilsl,(.v (.int .i64 0)),(.v (.int .i64 0)),(.v (.int .i64 0)),(.v (.int .i64 0)),(.v (.int .i64 0)),(.v (.int .i64 0)),(.v (.int .i64 0)),(.v (.int .i64 0)),(.v (.int .i64 0)),(.v (.int .i64 0)),(.v (.int .i64 0)),(.v (.int .i64 0)),(.v (.int .i64 1)),(.msl [70,0,130,0] 2),.nilsl,.nilsl,.nilsl,.nilsl,.nilsl,.nilsl,(.v (.int .i64 0)),(.v (.int .i64 0)),(.v (.int .i64 0)),(.v (.int .i64 0)),(.v (.int .i64 0)),(.v (.int .i64 0)),(.v (.int .i64 0)),(.v (.int .i64 0)),(.v (.int .i64 0)),(.v (.int .i64 0)),(.v (.int .i64 0)),(.v (.int .i64 0)),(.v (.int .i64 707989)),(.v (.int .i64 0)),.nilsl,.nilsl,.nilsl,.nilsl,.nilsl,.nilsl,.nilsl,(.v (.int .i64 0)),(.v (.int .i64 0)),(.v (.int .i64 0)),(.v (.int .i64 0)),(.v (.int .i64 0)),(.v (.int .i64 0)),(.v (.int .i64 0)),(.v (.int .i64 0)),(.v (.int .i64 0)),(.v (.int .i64 0)),(.v (.int .i64 0)),(.v (.int .i64 0)),(.v (.int .i64 493827)),(.v (.int .i64 (-1)))])
def ke4:Ent:=⟨43,[cA,cA],[Ax],⟨[(1,cA),(0,cA)],[([298,0],RZ),([70,0,28,0],cA),([70,0,130,0],cA)],(.ref [298,0] 0)⟩⟩
theorem SI:aP Tryd.prog ke4:=cP (F:=cQ) Hg (by kernel_rfl)
def GC:List Ent:=ke4::GD
theorem Hf:∀ e∈GC,aP Tryd.prog e:=cO SI Hg
def cp:V:=(.agg [(.int .i64 1),(.int .i64 7)])
def R4:D:=(.agg [(.v (.int .i64 0)),(.v (.sl [(.int .i64 9)])),.nilsl,(.msl [1563,0] 1),.nilsl,.nilsl,.nilsl,.nilsl,(.v (.int .i64 0)),(.v (.int .i64 1)),(.v (.int .i64 0)),(.v (.int .i64 0)),(.v (.int .i64 0)),(.v (.int .i64 0)),(.v (.int .i64 0)),(.v (.int .i64 0)),(.v (.int .i64 0)),(.v (.int .i64 0)),(.v (.int .i64 0)),(.v (.int .i64 0)),(.v (.int .i64 1)),(.msl [70,0,130,0,1149,0] 2),.nilsl,.nilsl,.nilsl,.nilsl,.nilsl,.nilsl,(.v (.int .i64 0)),(.v (.int .i64 0)),(.v (.int .i64 0)),(.v (.int .i64 0)),(.v (.int .i64 0)),(.v (.int .i64 0)),(.v (.int .i64 0)),(.v (.int .i64 0)),(.v (.int .i64 0)),(.v (.int .i64 0)),(.v (.int .i64 0)),(.v (.int .i64 0)),(.v (.int .i64 707989)),(.v (.int .i64 0)),.nilsl,.nilsl,.nilsl,.nilsl,.nilsl,.nilsl,.nilsl,(.v (.int .i64 0)),(.v (.int .i64 0)),(.v (.int .i64 0)),(.v (.int .i64 0)),(.v (.int .i64 0)),(.v (.int .i64 0)),(.v (.int .i64 0)),(.v (.int .i64 0)),(.v (.int .i64 0)),(.v (.int .i64 0)),(.v (.int .i64 0)),(.v (.int .i64 0)),(.v (.int .i64 493827)),(.v (.int .i64 (-1)))])
def Sw:D:=(.tup [R4,(.v (.int .i64 0))])
def ke5:Ent:=⟨14,[cA,cA],[Ax,(.v (.int .i64 7)),(.v (.int .i64 1))],⟨[(1,cA),(0,cA)],[([1563,0],(.arr 2 [cp])),([70,0,130,0,1149,0],cA)],Sw⟩⟩
theorem SH:aP Tryd.prog ke5:=cP (F:=cQ) Hf (by kernel_rfl)
def GB:List Ent:=ke5::GC
theorem He:∀ e∈GB,aP Tryd.prog e:=cO SH Hf
def Sv:D:=(.agg [(.v (.sl [(.int .i64 9)])),.nilsl,(.msl [0,1] 1),.nilsl,.nilsl,.nilsl,.nilsl,(.v (.int .i64 0)),(.v (.int .i64 1)),(.v (.int .i64 0)),(.v (.int .i64 0)),(.v (.int .i64 0)),(.v (.int .i64 0)),(.v (.int .i64 0)),(.v (.int .i64 0)),(.v (.int .i64 0)),(.v (.int .i64 0)),(.v (.int .i64 0)),(.v (.int .i64 0))])
def ke6:Ent:=⟨78,[(.arr 2 [cp])],[(.v (.int .i64 0)),Sv],⟨[],[],(.v (.bool true))⟩⟩
theorem SG:aP Tryd.prog ke6:=cP (F:=cQ) He (by kernel_rfl)
def GA:List Ent:=ke6::GB
theorem Hd:∀ e∈GA,aP Tryd.prog e:=cO SG He
end Go.Eng
