import Derived.Test.YtepaolcgegdpoaaGreatK8
import Derived.KernelRfl
/- Texts Sane1 to Sane1. -/
set_option linter.all false
namespace Go.Eng
open Go Go.Proofs
def cm:List Nat:=[63,111,65,115,37,76,42,120,187,78,27,119,128,43,80,23,17,16,104,118,39,121,21,38,18]
def GC:V:=(.sl [(.int .i64 1),(.int .i64 2),(.int .i64 3)])
def GN:D:=(.agg [(.v (.int .i64 10)),(.v (.int .i64 5)),(.v (.int .i64 1)),(.v GC),(.v (.int .i64 10)),(.v (.int .i64 10)),(.v (.int .i64 0))])
def ke0:Ent:=⟨63,[],[GN],⟨[],[],(.v (.int .i64 0))⟩⟩
theorem Se:aR Tryz.prog ke0:=cl (F:=cm) Ig (by kernel_rfl)
def Hu:List Ent:=ke0::Hv
theorem If:∀ e∈Hu,aR Tryz.prog e:=cw Se Ig
def dN:V:=(.agg [(.int .i64 10),(.int .i64 5),(.int .i64 1),GC,(.int .i64 10),(.int .i64 10),(.int .i64 0)])
def dM:V:=(.agg [(.int .i64 11),(.int .i64 6),(.int .i64 1),(.sl [(.int .i64 2)]),(.int .i64 40),(.int .i64 40),(.int .i64 0)])
def ke1:Ent:=⟨111,[],[(.v (.sl [dN,dM])),(.v (.int .i64 60)),(.v (.clo (.func 63) [] [])),(.v (.clo (.func 112) [] []))],⟨[],[],(.v (.bool true))⟩⟩
theorem Sd:aR Tryz.prog ke1:=cl (F:=cm) If (by kernel_rfl)
def Hj:List Ent:=ke1::Hu
theorem H0:∀ e∈Hj,aR Tryz.prog e:=cw Sd If
def Gz:V:=(.sl [(.int .i64 1),(.int .i64 2)])
def Rh:D:=(.agg [(.v (.int .i64 20)),(.v (.int .i64 10)),(.v (.int .i64 7)),(.v Gz),(.v (.int .i64 20)),(.v (.int .i64 50)),(.v (.int .i64 60)),(.v (.int .i64 0))])
def ke2:Ent:=⟨65,[],[Rh],⟨[],[],(.v (.int .i64 0))⟩⟩
theorem R1:aR Tryz.prog ke2:=cl (F:=cm) H0 (by kernel_rfl)
def G8:List Ent:=ke2::Hj
theorem HP:∀ e∈G8,aR Tryz.prog e:=cw R1 H0
def Rb:D:=(.agg [(.v (.int .i64 21)),(.v (.int .i64 10)),(.v (.int .i64 5)),(.v (.sl [(.int .i64 3)])),(.v (.int .i64 5)),(.v (.int .i64 30)),(.v (.int .i64 60)),(.v (.int .i64 0))])
def ke3:Ent:=⟨65,[],[Rb],⟨[],[],(.v (.int .i64 0))⟩⟩
theorem RP:aR Tryz.prog ke3:=cl (F:=cm) HP (by kernel_rfl)
def GX:List Ent:=ke3::G8
theorem HE:∀ e∈GX,aR Tryz.prog e:=cw RP HP
def sh:V:=(.agg [(.int .i64 30),(.int .i64 5),(.int .i64 1),(.int .i64 1),(.int .i64 25),(.int .i64 70),(.int .i64 0)])
def pX:V:=(.agg [(.int .i64 31),(.int .i64 0),(.int .i64 1),(.int .i64 2),(.int .i64 22),(.int .i64 80),(.int .i64 0)])
def ke4:Ent:=⟨115,[],[(.v (.sl [sh,pX])),(.v (.int .i64 60)),(.v (.clo (.func 67) [] [])),(.v (.clo (.func 116) [] []))],⟨[],[],(.v (.bool true))⟩⟩
theorem RE:aR Tryz.prog ke4:=cl (F:=cm) HE (by kernel_rfl)
def GV:List Ent:=ke4::GX
theorem HC:∀ e∈GV,aR Tryz.prog e:=cw RE HE
def ue:V:=(.agg [(.int .i64 1),(.int .i64 3)])
def ug:V:=(.agg [(.int .i64 2),(.int .i64 1)])
def GB:V:=(.agg [(.int .i64 20),(.int .i64 10),(.int .i64 7),Gz,(.int .i64 20),(.int .i64 50),(.int .i64 60),(.int .i64 0)])
def A4:V:=(.agg [(.int .i64 21),(.int .i64 10),(.int .i64 5),(.sl [(.int .i64 3)]),(.int .i64 5),(.int .i64 30),(.int .i64 60),(.int .i64 0)])
def lE:D:=(.agg [(.v (.sl [ue,ug])),(.v (.sl [dN,dM])),(.v (.sl [GB,A4])),(.v (.sl [sh,pX]))])
def ke5:Ent:=⟨37,[],[lE],⟨[],[],(.v (.int .i64 0))⟩⟩
theorem RB:aR Tryz.prog ke5:=cl (F:=cm) HC (by kernel_rfl)
def GU:List Ent:=ke5::GV
theorem HB:∀ e∈GU,aR Tryz.prog e:=cw RB HC
def eV:O:=(.box [(.v (.sl [ue,ug])),(.v (.sl [dN,dM])),(.v (.sl [GB,A4])),(.v (.sl [sh,pX]))])
def Q9:O:=(.box [(.ref [0,1] 0),(.msl [1135,0] 2),.nilsl,(.map [204,0]),(.map [205,0])])
def ke6:Ent:=⟨76,[eV],[(.ref [0,1] 0),(.v (.int .i64 50))],⟨[],[([207,0],Q9),([1135,0],(.arr 7 [dN,dM])),([204,0],(.map 2 [])),([205,0],(.map 0 []))],(.ref [207,0] 0)⟩⟩
theorem RA:aR Tryz.prog ke6:=cl (F:=cm) HB (by kernel_rfl)
def GS:List Ent:=ke6::GU
theorem HA:∀ e∈GS,aR Tryz.prog e:=cw RA HB
def Q0:V:=(.sl [(.int .i64 10),(.int .i64 11)])
def Rq:D:=(.tup [(.v Q0),(.v (.int .i64 0))])
def ke7:Ent:=⟨42,[],[lE,(.v (.int .i64 50))],⟨[],[],Rq⟩⟩
theorem Rz:aR Tryz.prog ke7:=cl (F:=cm) HA (by kernel_rfl)
def GR:List Ent:=ke7::GS
theorem Hz:∀ e∈GR,aR Tryz.prog e:=cw Rz HA
end Go.Eng
