import Derived.Test.YtepaolcgegdpoaaGreatK10
import Derived.KernelRfl
/- Texts Sane1 to Sane1. -/
set_option linter.all false
namespace Go.Eng
open Go Go.Proofs
def c0:List Nat:=[63,111,65,115,37,76,42,120,187,78,27,119,128,43,80,23,17,16,104,118,39,121,21,38,18]
def Mv:V:=(.sl [(.int .i64 1),(.int .i64 2),(.int .i64 3)])
def MC:D:=(.agg [(.v (.int .i64 10)),(.v (.int .i64 5)),(.v (.int .i64 1)),(.v Mv),(.v (.int .i64 10)),(.v (.int .i64 10)),(.v (.int .i64 0))])
def ke0:Ent:=⟨63,[],[MC],⟨[],[],(.v (.int .i64 0))⟩⟩
theorem ZL:a8 Tryz.prog ke0:=cZ (F:=c0) N0 (by kernel_rfl)
def Ni:List Ent:=ke0::Nj
theorem NZ:∀ e∈Ni,a8 Tryz.prog e:=c9 ZL N0
def fb:V:=(.agg [(.int .i64 10),(.int .i64 5),(.int .i64 1),Mv,(.int .i64 10),(.int .i64 10),(.int .i64 0)])
def fa:V:=(.agg [(.int .i64 11),(.int .i64 6),(.int .i64 1),(.sl [(.int .i64 2)]),(.int .i64 40),(.int .i64 40),(.int .i64 0)])
def ke1:Ent:=⟨111,[],[(.v (.sl [fb,fa])),(.v (.int .i64 60)),(.v (.clo (.func 63) [] [])),(.v (.clo (.func 112) [] []))],⟨[],[],(.v (.bool true))⟩⟩
theorem ZK:a8 Tryz.prog ke1:=cZ (F:=c0) NZ (by kernel_rfl)
def M7:List Ent:=ke1::Ni
theorem NN:∀ e∈M7,a8 Tryz.prog e:=c9 ZK NZ
def Ms:V:=(.sl [(.int .i64 1),(.int .i64 2)])
def YT:D:=(.agg [(.v (.int .i64 20)),(.v (.int .i64 10)),(.v (.int .i64 7)),(.v Ms),(.v (.int .i64 20)),(.v (.int .i64 50)),(.v (.int .i64 60)),(.v (.int .i64 0))])
def ke2:Ent:=⟨65,[],[YT],⟨[],[],(.v (.int .i64 0))⟩⟩
theorem Zz:a8 Tryz.prog ke2:=cZ (F:=c0) NN (by kernel_rfl)
def MW:List Ent:=ke2::M7
theorem NB:∀ e∈MW,a8 Tryz.prog e:=c9 Zz NN
def YO:D:=(.agg [(.v (.int .i64 21)),(.v (.int .i64 10)),(.v (.int .i64 5)),(.v (.sl [(.int .i64 3)])),(.v (.int .i64 5)),(.v (.int .i64 30)),(.v (.int .i64 60)),(.v (.int .i64 0))])
def ke3:Ent:=⟨65,[],[YO],⟨[],[],(.v (.int .i64 0))⟩⟩
theorem Zo:a8 Tryz.prog ke3:=cZ (F:=c0) NB (by kernel_rfl)
def ML:List Ent:=ke3::MW
theorem Nq:∀ e∈ML,a8 Tryz.prog e:=c9 Zo NB
def wc:V:=(.agg [(.int .i64 30),(.int .i64 5),(.int .i64 1),(.int .i64 1),(.int .i64 25),(.int .i64 70),(.int .i64 0)])
def th:V:=(.agg [(.int .i64 31),(.int .i64 0),(.int .i64 1),(.int .i64 2),(.int .i64 22),(.int .i64 80),(.int .i64 0)])
def ke4:Ent:=⟨115,[],[(.v (.sl [wc,th])),(.v (.int .i64 60)),(.v (.clo (.func 67) [] [])),(.v (.clo (.func 116) [] []))],⟨[],[],(.v (.bool true))⟩⟩
theorem Zd:a8 Tryz.prog ke4:=cZ (F:=c0) Nq (by kernel_rfl)
def MJ:List Ent:=ke4::ML
theorem No:∀ e∈MJ,a8 Tryz.prog e:=c9 Zd Nq
def yg:V:=(.agg [(.int .i64 1),(.int .i64 3)])
def yi:V:=(.agg [(.int .i64 2),(.int .i64 1)])
def Mu:V:=(.agg [(.int .i64 20),(.int .i64 10),(.int .i64 7),Ms,(.int .i64 20),(.int .i64 50),(.int .i64 60),(.int .i64 0)])
def Fm:V:=(.agg [(.int .i64 21),(.int .i64 10),(.int .i64 5),(.sl [(.int .i64 3)]),(.int .i64 5),(.int .i64 30),(.int .i64 60),(.int .i64 0)])
def oy:D:=(.agg [(.v (.sl [yg,yi])),(.v (.sl [fb,fa])),(.v (.sl [Mu,Fm])),(.v (.sl [wc,th]))])
def ke5:Ent:=⟨37,[],[oy],⟨[],[],(.v (.int .i64 0))⟩⟩
theorem Za:a8 Tryz.prog ke5:=cZ (F:=c0) No (by kernel_rfl)
def MI:List Ent:=ke5::MJ
theorem Nn:∀ e∈MI,a8 Tryz.prog e:=c9 Za No
def gm:O:=(.box [(.v (.sl [yg,yi])),(.v (.sl [fb,fa])),(.v (.sl [Mu,Fm])),(.v (.sl [wc,th]))])
def YL:O:=(.box [(.ref [0,1] 0),(.msl [1135,0] 2),.nilsl,(.map [204,0]),(.map [205,0])])
def ke6:Ent:=⟨76,[gm],[(.ref [0,1] 0),(.v (.int .i64 50))],⟨[],[([207,0],YL),([1135,0],(.arr 7 [fb,fa])),([204,0],(.map 2 [])),([205,0],(.map 0 []))],(.ref [207,0] 0)⟩⟩
theorem Y':a8 Tryz.prog ke6:=cZ (F:=c0) Nn (by kernel_rfl)
def MH:List Ent:=ke6::MI
theorem Nm:∀ e∈MH,a8 Tryz.prog e:=c9 Y' Nn
def YC:V:=(.sl [(.int .i64 10),(.int .i64 11)])
def Y0:D:=(.tup [(.v YC),(.v (.int .i64 0))])
def ke7:Ent:=⟨42,[],[oy,(.v (.int .i64 50))],⟨[],[],Y0⟩⟩
theorem Y9:a8 Tryz.prog ke7:=cZ (F:=c0) Nm (by kernel_rfl)
def MG:List Ent:=ke7::MH
theorem Nl:∀ e∈MG,a8 Tryz.prog e:=c9 Y9 Nm
end Go.Eng
