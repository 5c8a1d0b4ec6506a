import Derived.Test.YtepaolcgegdpoaaGreatK9
import Derived.KernelRfl
/- Texts Sane1 to Sane1. -/
set_option linter.all false
namespace Go.Eng
open Go Go.Proofs
def cG:List Nat:=[63,111,65,115,37,76,42,120,187,78,27,119,128,43,80,23,17,16,104,118,39,121,21,38,18]
def H8:V:=(.sl [(.int .i64 1),(.int .i64 2),(.int .i64 3)])
def Ig:D:=(.agg [(.v (.int .i64 10)),(.v (.int .i64 5)),(.v (.int .i64 1)),(.v H8),(.v (.int .i64 10)),(.v (.int .i64 10)),(.v (.int .i64 0))])
def ke0:Ent:=⟨63,[],[Ig],⟨[],[],(.v (.int .i64 0))⟩⟩
theorem TS:aV Tryz.prog ke0:=cF (F:=cG) JE (by kernel_rfl)
def IZ:List Ent:=ke0::I0
theorem JD:∀ e∈IZ,aV Tryz.prog e:=cL TS JE
def eg:V:=(.agg [(.int .i64 10),(.int .i64 5),(.int .i64 1),H8,(.int .i64 10),(.int .i64 10),(.int .i64 0)])
def ef:V:=(.agg [(.int .i64 11),(.int .i64 6),(.int .i64 1),(.sl [(.int .i64 2)]),(.int .i64 40),(.int .i64 40),(.int .i64 0)])
def ke1:Ent:=⟨111,[],[(.v (.sl [eg,ef])),(.v (.int .i64 60)),(.v (.clo (.func 63) [] [])),(.v (.clo (.func 112) [] []))],⟨[],[],(.v (.bool true))⟩⟩
theorem TR:aV Tryz.prog ke1:=cF (F:=cG) JD (by kernel_rfl)
def IM:List Ent:=ke1::IZ
theorem Js:∀ e∈IM,aV Tryz.prog e:=cL TR JD
def H5:V:=(.sl [(.int .i64 1),(.int .i64 2)])
def S0:D:=(.agg [(.v (.int .i64 20)),(.v (.int .i64 10)),(.v (.int .i64 7)),(.v H5),(.v (.int .i64 20)),(.v (.int .i64 50)),(.v (.int .i64 60)),(.v (.int .i64 0))])
def ke2:Ent:=⟨65,[],[S0],⟨[],[],(.v (.int .i64 0))⟩⟩
theorem TG:aV Tryz.prog ke2:=cF (F:=cG) Js (by kernel_rfl)
def IB:List Ent:=ke2::IM
theorem Jh:∀ e∈IB,aV Tryz.prog e:=cL TG Js
def SV:D:=(.agg [(.v (.int .i64 21)),(.v (.int .i64 10)),(.v (.int .i64 5)),(.v (.sl [(.int .i64 3)])),(.v (.int .i64 5)),(.v (.int .i64 30)),(.v (.int .i64 60)),(.v (.int .i64 0))])
def ke3:Ent:=⟨65,[],[SV],⟨[],[],(.v (.int .i64 0))⟩⟩
theorem Tv:aV Tryz.prog ke3:=cF (F:=cG) Jh (by kernel_rfl)
def Iq:List Ent:=ke3::IB
theorem I7:∀ e∈Iq,aV Tryz.prog e:=cL Tv Jh
def tF:V:=(.agg [(.int .i64 30),(.int .i64 5),(.int .i64 1),(.int .i64 1),(.int .i64 25),(.int .i64 70),(.int .i64 0)])
def ri:V:=(.agg [(.int .i64 31),(.int .i64 0),(.int .i64 1),(.int .i64 2),(.int .i64 22),(.int .i64 80),(.int .i64 0)])
def ke4:Ent:=⟨115,[],[(.v (.sl [tF,ri])),(.v (.int .i64 60)),(.v (.clo (.func 67) [] [])),(.v (.clo (.func 116) [] []))],⟨[],[],(.v (.bool true))⟩⟩
theorem Tk:aV Tryz.prog ke4:=cF (F:=cG) I7 (by kernel_rfl)
def Io:List Ent:=ke4::Iq
theorem I5:∀ e∈Io,aV Tryz.prog e:=cL Tk I7
def vw:V:=(.agg [(.int .i64 1),(.int .i64 3)])
def vy:V:=(.agg [(.int .i64 2),(.int .i64 1)])
def H7:V:=(.agg [(.int .i64 20),(.int .i64 10),(.int .i64 7),H5,(.int .i64 20),(.int .i64 50),(.int .i64 60),(.int .i64 0)])
def Bz:V:=(.agg [(.int .i64 21),(.int .i64 10),(.int .i64 5),(.sl [(.int .i64 3)]),(.int .i64 5),(.int .i64 30),(.int .i64 60),(.int .i64 0)])
def mo:D:=(.agg [(.v (.sl [vw,vy])),(.v (.sl [eg,ef])),(.v (.sl [H7,Bz])),(.v (.sl [tF,ri]))])
def ke5:Ent:=⟨37,[],[mo],⟨[],[],(.v (.int .i64 0))⟩⟩
theorem Th:aV Tryz.prog ke5:=cF (F:=cG) I5 (by kernel_rfl)
def Im:List Ent:=ke5::Io
theorem I4:∀ e∈Im,aV Tryz.prog e:=cL Th I5
def fz:O:=(.box [(.v (.sl [vw,vy])),(.v (.sl [eg,ef])),(.v (.sl [H7,Bz])),(.v (.sl [tF,ri]))])
def SR:O:=(.box [(.ref [0,1] 0),(.msl [1135,0] 2),.nilsl,(.map [204,0]),(.map [205,0])])
def ke6:Ent:=⟨76,[fz],[(.ref [0,1] 0),(.v (.int .i64 50))],⟨[],[([207,0],SR),([1135,0],(.arr 7 [eg,ef])),([204,0],(.map 2 [])),([205,0],(.map 0 []))],(.ref [207,0] 0)⟩⟩
theorem Tg:aV Tryz.prog ke6:=cF (F:=cG) I4 (by kernel_rfl)
def Il:List Ent:=ke6::Im
theorem I3:∀ e∈Il,aV Tryz.prog e:=cL Tg I4
def SI:V:=(.sl [(.int .i64 10),(.int .i64 11)])
def S7:D:=(.tup [(.v SI),(.v (.int .i64 0))])
def ke7:Ent:=⟨42,[],[mo,(.v (.int .i64 50))],⟨[],[],S7⟩⟩
theorem Tf:aV Tryz.prog ke7:=cF (F:=cG) I3 (by kernel_rfl)
def Ik:List Ent:=ke7::Il
theorem I2:∀ e∈Ik,aV Tryz.prog e:=cL Tf I3
end Go.Eng
