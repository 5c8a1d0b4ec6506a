import Derived.Test.YtepaolcgegdpoaaGreatK8
import Derived.KernelRfl
/- Texts Sane1 to Sane1. -/
set_option linter.all false
namespace Go.Eng
open Go Go.Proofs
def ct:List Nat:=[63,111,65,115,37,76,42,120,187,78,27,119,128,43,80,23,17,16,104,118,39,121,21,38,18]
def GL:V:=(.sl [(.int .i64 1),(.int .i64 2),(.int .i64 3)])
def GS:D:=(.agg [(.v (.int .i64 10)),(.v (.int .i64 5)),(.v (.int .i64 1)),(.v GL),(.v (.int .i64 10)),(.v (.int .i64 10)),(.v (.int .i64 0))])
def ke0:Ent:=⟨63,[],[GS],⟨[],[],(.v (.int .i64 0))⟩⟩
theorem Si:aO Tryz.prog ke0:=cr (F:=ct) Ik (by kernel_rfl)
def HA:List Ent:=ke0::HB
theorem Ij:∀ e∈HA,aO Tryz.prog e:=cz Si Ik
def dT:V:=(.agg [(.int .i64 10),(.int .i64 5),(.int .i64 1),GL,(.int .i64 10),(.int .i64 10),(.int .i64 0)])
def dS:V:=(.agg [(.int .i64 11),(.int .i64 6),(.int .i64 1),(.sl [(.int .i64 2)]),(.int .i64 40),(.int .i64 40),(.int .i64 0)])
def ke1:Ent:=⟨111,[],[(.v (.sl [dT,dS])),(.v (.int .i64 60)),(.v (.clo (.func 63) [] [])),(.v (.clo (.func 112) [] []))],⟨[],[],(.v (.bool true))⟩⟩
theorem Sh:aO Tryz.prog ke1:=cr (F:=ct) Ij (by kernel_rfl)
def Ho:List Ent:=ke1::HA
theorem H7:∀ e∈Ho,aO Tryz.prog e:=cz Sh Ij
def GI:V:=(.sl [(.int .i64 1),(.int .i64 2)])
def Rl:D:=(.agg [(.v (.int .i64 20)),(.v (.int .i64 10)),(.v (.int .i64 7)),(.v GI),(.v (.int .i64 20)),(.v (.int .i64 50)),(.v (.int .i64 60)),(.v (.int .i64 0))])
def ke2:Ent:=⟨65,[],[Rl],⟨[],[],(.v (.int .i64 0))⟩⟩
theorem R6:aO Tryz.prog ke2:=cr (F:=ct) H7 (by kernel_rfl)
def Hd:List Ent:=ke2::Ho
theorem HT:∀ e∈Hd,aO Tryz.prog e:=cz R6 H7
def Rf:D:=(.agg [(.v (.int .i64 21)),(.v (.int .i64 10)),(.v (.int .i64 5)),(.v (.sl [(.int .i64 3)])),(.v (.int .i64 5)),(.v (.int .i64 30)),(.v (.int .i64 60)),(.v (.int .i64 0))])
def ke3:Ent:=⟨65,[],[Rf],⟨[],[],(.v (.int .i64 0))⟩⟩
theorem RT:aO Tryz.prog ke3:=cr (F:=ct) HT (by kernel_rfl)
def G2:List Ent:=ke3::Hd
theorem HI:∀ e∈G2,aO Tryz.prog e:=cz RT HT
def sm:V:=(.agg [(.int .i64 30),(.int .i64 5),(.int .i64 1),(.int .i64 1),(.int .i64 25),(.int .i64 70),(.int .i64 0)])
def p9:V:=(.agg [(.int .i64 31),(.int .i64 0),(.int .i64 1),(.int .i64 2),(.int .i64 22),(.int .i64 80),(.int .i64 0)])
def ke4:Ent:=⟨115,[],[(.v (.sl [sm,p9])),(.v (.int .i64 60)),(.v (.clo (.func 67) [] [])),(.v (.clo (.func 116) [] []))],⟨[],[],(.v (.bool true))⟩⟩
theorem RI:aO Tryz.prog ke4:=cr (F:=ct) HI (by kernel_rfl)
def G0:List Ent:=ke4::G2
theorem HG:∀ e∈G0,aO Tryz.prog e:=cz RI HI
def uq:V:=(.agg [(.int .i64 1),(.int .i64 3)])
def uv:V:=(.agg [(.int .i64 2),(.int .i64 1)])
def GK:V:=(.agg [(.int .i64 20),(.int .i64 10),(.int .i64 7),GI,(.int .i64 20),(.int .i64 50),(.int .i64 60),(.int .i64 0)])
def A2:V:=(.agg [(.int .i64 21),(.int .i64 10),(.int .i64 5),(.sl [(.int .i64 3)]),(.int .i64 5),(.int .i64 30),(.int .i64 60),(.int .i64 0)])
def lM:D:=(.agg [(.v (.sl [uq,uv])),(.v (.sl [dT,dS])),(.v (.sl [GK,A2])),(.v (.sl [sm,p9]))])
def ke5:Ent:=⟨37,[],[lM],⟨[],[],(.v (.int .i64 0))⟩⟩
theorem RF:aO Tryz.prog ke5:=cr (F:=ct) HG (by kernel_rfl)
def GZ:List Ent:=ke5::G0
theorem HF:∀ e∈GZ,aO Tryz.prog e:=cz RF HG
def eV:O:=(.box [(.v (.sl [uq,uv])),(.v (.sl [dT,dS])),(.v (.sl [GK,A2])),(.v (.sl [sm,p9]))])
def Rc:O:=(.box [(.ref [0,1] 0),(.msl [1135,0] 2),.nilsl,(.map [204,0]),(.map [205,0])])
def ke6:Ent:=⟨76,[eV],[(.ref [0,1] 0),(.v (.int .i64 50))],⟨[],[([207,0],Rc),([1135,0],(.arr 7 [dT,dS])),([204,0],(.map 2 [])),([205,0],(.map 0 []))],(.ref [207,0] 0)⟩⟩
theorem RE:aO Tryz.prog ke6:=cr (F:=ct) HF (by kernel_rfl)
def GY:List Ent:=ke6::GZ
theorem HE:∀ e∈GY,aO Tryz.prog e:=cz RE HF
def Q4:V:=(.sl [(.int .i64 10),(.int .i64 11)])
def Ru:D:=(.tup [(.v Q4),(.v (.int .i64 0))])
def ke7:Ent:=⟨42,[],[lM,(.v (.int .i64 50))],⟨[],[],Ru⟩⟩
theorem RD:aO Tryz.prog ke7:=cr (F:=ct) HE (by kernel_rfl)
def GX:List Ent:=ke7::GY
theorem HD:∀ e∈GX,aO Tryz.prog e:=cz RD HE
end Go.Eng
