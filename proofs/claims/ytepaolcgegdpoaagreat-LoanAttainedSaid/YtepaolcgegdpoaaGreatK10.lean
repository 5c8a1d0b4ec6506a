import Derived.Test.YtepaolcgegdpoaaGreatK9
import Derived.KernelRfl
/- Texts Sane1 to Sane1. -/
set_option linter.all false
namespace Go.Eng
open Go Go.Proofs
def cA:List Nat:=[63,111,65,115,37,76,42,120,187,78,27,119,128,43,80,23,17,16,104,118,39,121,21,38,18]
def HJ:V:=(.sl [(.int .i64 1),(.int .i64 2),(.int .i64 3)])
def HQ:D:=(.agg [(.v (.int .i64 10)),(.v (.int .i64 5)),(.v (.int .i64 1)),(.v HJ),(.v (.int .i64 10)),(.v (.int .i64 10)),(.v (.int .i64 0))])
def ke0:Ent:=⟨63,[],[HQ],⟨[],[],(.v (.int .i64 0))⟩⟩
theorem TK:aT Tryz.prog ke0:=cz (F:=cA) Ji (by kernel_rfl)
def IB:List Ent:=ke0::IC
theorem Jh:∀ e∈IB,aT Tryz.prog e:=cF TK Ji
def dW:V:=(.agg [(.int .i64 10),(.int .i64 5),(.int .i64 1),HJ,(.int .i64 10),(.int .i64 10),(.int .i64 0)])
def dV:V:=(.agg [(.int .i64 11),(.int .i64 6),(.int .i64 1),(.sl [(.int .i64 2)]),(.int .i64 40),(.int .i64 40),(.int .i64 0)])
def ke1:Ent:=⟨111,[],[(.v (.sl [dW,dV])),(.v (.int .i64 60)),(.v (.clo (.func 63) [] [])),(.v (.clo (.func 112) [] []))],⟨[],[],(.v (.bool true))⟩⟩
theorem TJ:aT Tryz.prog ke1:=cz (F:=cA) Jh (by kernel_rfl)
def Iq:List Ent:=ke1::IB
theorem I7:∀ e∈Iq,aT Tryz.prog e:=cF TJ Jh
def HG:V:=(.sl [(.int .i64 1),(.int .i64 2)])
def SQ:D:=(.agg [(.v (.int .i64 20)),(.v (.int .i64 10)),(.v (.int .i64 7)),(.v HG),(.v (.int .i64 20)),(.v (.int .i64 50)),(.v (.int .i64 60)),(.v (.int .i64 0))])
def ke2:Ent:=⟨65,[],[SQ],⟨[],[],(.v (.int .i64 0))⟩⟩
theorem Ty:aT Tryz.prog ke2:=cz (F:=cA) I7 (by kernel_rfl)
def Ie:List Ent:=ke2::Iq
theorem IW:∀ e∈Ie,aT Tryz.prog e:=cF Ty I7
def SL:D:=(.agg [(.v (.int .i64 21)),(.v (.int .i64 10)),(.v (.int .i64 5)),(.v (.sl [(.int .i64 3)])),(.v (.int .i64 5)),(.v (.int .i64 30)),(.v (.int .i64 60)),(.v (.int .i64 0))])
def ke3:Ent:=⟨65,[],[SL],⟨[],[],(.v (.int .i64 0))⟩⟩
theorem Tn:aT Tryz.prog ke3:=cz (F:=cA) IW (by kernel_rfl)
def HZ:List Ent:=ke3::Ie
theorem IJ:∀ e∈HZ,aT Tryz.prog e:=cF Tn IW
def sX:V:=(.agg [(.int .i64 30),(.int .i64 5),(.int .i64 1),(.int .i64 1),(.int .i64 25),(.int .i64 70),(.int .i64 0)])
def qy:V:=(.agg [(.int .i64 31),(.int .i64 0),(.int .i64 1),(.int .i64 2),(.int .i64 22),(.int .i64 80),(.int .i64 0)])
def ke4:Ent:=⟨115,[],[(.v (.sl [sX,qy])),(.v (.int .i64 60)),(.v (.clo (.func 67) [] [])),(.v (.clo (.func 116) [] []))],⟨[],[],(.v (.bool true))⟩⟩
theorem Tc:aT Tryz.prog ke4:=cz (F:=cA) IJ (by kernel_rfl)
def HX:List Ent:=ke4::HZ
theorem IH:∀ e∈HX,aT Tryz.prog e:=cF Tc IJ
def vj:V:=(.agg [(.int .i64 1),(.int .i64 3)])
def vl:V:=(.agg [(.int .i64 2),(.int .i64 1)])
def HI:V:=(.agg [(.int .i64 20),(.int .i64 10),(.int .i64 7),HG,(.int .i64 20),(.int .i64 50),(.int .i64 60),(.int .i64 0)])
def BS:V:=(.agg [(.int .i64 21),(.int .i64 10),(.int .i64 5),(.sl [(.int .i64 3)]),(.int .i64 5),(.int .i64 30),(.int .i64 60),(.int .i64 0)])
def mg:D:=(.agg [(.v (.sl [vj,vl])),(.v (.sl [dW,dV])),(.v (.sl [HI,BS])),(.v (.sl [sX,qy]))])
def ke5:Ent:=⟨37,[],[mg],⟨[],[],(.v (.int .i64 0))⟩⟩
theorem S':aT Tryz.prog ke5:=cz (F:=cA) IH (by kernel_rfl)
def HW:List Ent:=ke5::HX
theorem IG:∀ e∈HW,aT Tryz.prog e:=cF S' IH
def fo:O:=(.box [(.v (.sl [vj,vl])),(.v (.sl [dW,dV])),(.v (.sl [HI,BS])),(.v (.sl [sX,qy]))])
def SI:O:=(.box [(.ref [0,1] 0),(.msl [1135,0] 2),.nilsl,(.map [204,0]),(.map [205,0])])
def ke6:Ent:=⟨76,[fo],[(.ref [0,1] 0),(.v (.int .i64 50))],⟨[],[([207,0],SI),([1135,0],(.arr 7 [dW,dV])),([204,0],(.map 2 [])),([205,0],(.map 0 []))],(.ref [207,0] 0)⟩⟩
theorem S8:aT Tryz.prog ke6:=cz (F:=cA) IG (by kernel_rfl)
def HV:List Ent:=ke6::HW
theorem IF:∀ e∈HV,aT Tryz.prog e:=cF S8 IG
def Sz:V:=(.sl [(.int .i64 10),(.int .i64 11)])
def SY:D:=(.tup [(.v Sz),(.v (.int .i64 0))])
def ke7:Ent:=⟨42,[],[mg,(.v (.int .i64 50))],⟨[],[],SY⟩⟩
theorem S7:aT Tryz.prog ke7:=cz (F:=cA) IF (by kernel_rfl)
def HU:List Ent:=ke7::HV
theorem IE:∀ e∈HU,aT Tryz.prog e:=cF S7 IF
end Go.Eng
