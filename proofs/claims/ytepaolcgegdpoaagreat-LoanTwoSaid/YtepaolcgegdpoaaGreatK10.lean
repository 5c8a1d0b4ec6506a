import Derived.Test.YtepaolcgegdpoaaGreatK9
import Derived.KernelRfl
/- Texts Sane2 to Sane2. -/
set_option linter.all false
namespace Go.Eng
open Go Go.Proofs
def A4:O:=(.box [(.ref [0,1] 0),(.msl [1135,0] 2),(.msl [5916,0] 2),(.map [204,0]),(.map [205,0])])
def fm:O:=(.arr 1 [(.int .i64 0),(.int .i64 1)])
def Q3:V:=(.agg [(.int .i64 10),(.int .i64 1)])
def Q2:V:=(.agg [(.int .i64 10),(.int .i64 2)])
def GJ:V:=(.agg [(.int .i64 10),(.int .i64 3)])
def fk:O:=(.map 2 [(Q3,(.int .i64 0)),(Q2,(.int .i64 0)),(GJ,(.int .i64 1))])
def Q1:V:=(.agg [(.int .i64 20),(.int .i64 40)])
def uu:V:=(.agg [(.int .i64 11),(.int .i64 30)])
def fS:O:=(.map 0 [((.int .i64 0),Q1),((.int .i64 1),uu)])
def ke8:Ent:=⟨76,[eV],[(.ref [0,1] 0),(.v (.int .i64 70))],⟨[],[([207,0],A4),([1135,0],(.arr 7 [dT,dS])),([5916,0],fm),([204,0],fk),([205,0],fS)],(.ref [207,0] 0)⟩⟩
theorem RC:aO Tryz.prog ke8:=cr (F:=ct) HD (by kernel_rfl)
def GW:List Ent:=ke8::GX
theorem HC:∀ e∈GW,aO Tryz.prog e:=cz RC HD
def hM:O:=(.box [(.ref [1,1] 0),(.msl [2,1] 2),(.msl [3,1] 2),(.map [4,1]),(.map [5,1])])
def Rt:D:=(.tup [.nilsl,(.v (.bool false))])
def ke9:Ent:=⟨120,[hM,eV,(.arr 7 [dT,dS]),fm,fk,fS],[(.ref [0,1] 0)],⟨[(2,(.farr 7 [dT,dS]))],[],Rt⟩⟩
theorem RB:aO Tryz.prog ke9:=cr (F:=ct) HC (by kernel_rfl)
def Hz:List Ent:=ke9::GW
theorem Ii:∀ e∈Hz,aO Tryz.prog e:=cz RB HC
def GR:D:=(.agg [(.v (.int .i64 30)),(.v (.int .i64 5)),(.v (.int .i64 1)),(.v (.int .i64 1)),(.v (.int .i64 25)),(.v (.int .i64 70)),(.v (.int .i64 0))])
def Rs:D:=(.agg [(.v (.int .i64 26)),(.v (.int .i64 100000))])
def GQ:D:=(.tup [(.v (.int .i64 0)),Rs])
def ke10:Ent:=⟨187,[hM,eV,(.farr 7 [dT,dS]),fm,fk,fS],[(.ref [0,1] 0),GR],⟨[],[],GQ⟩⟩
theorem Sg:aO Tryz.prog ke10:=cr (F:=ct) Ii (by kernel_rfl)
def Hy:List Ent:=ke10::Hz
theorem Ih:∀ e∈Hy,aO Tryz.prog e:=cz Sg Ii
def GO:O:=(.box [(.ref [0,1] 0),(.msl [1135,0,30,0,35,0] 2),(.msl [5916,0,30,0,35,0] 2),(.map [204,0,30,0,35,0]),(.map [205,0,30,0,35,0])])
def Q0:V:=(.agg [(.int .i64 26),(.int .i64 40)])
def GN:O:=(.map 0 [((.int .i64 0),Q0),((.int .i64 1),uu)])
def GP:D:=(.tup [(.ref [207,0,30,0,35,0] 0),(.v (.int .i64 0))])
def ke11:Ent:=⟨78,[eV],[(.ref [0,1] 0),(.v (.int .i64 70))],⟨[],[([207,0,30,0,35,0],GO),([1135,0,30,0,35,0],(.farr 7 [dT,dS])),([5916,0,30,0,35,0],fm),([204,0,30,0,35,0],fk),([205,0,30,0,35,0],GN)],GP⟩⟩
theorem Sf:aO Tryz.prog ke11:=cr (F:=ct) Ih (by kernel_rfl)
def Hw:List Ent:=ke11::Hy
theorem Ig:∀ e∈Hw,aO Tryz.prog e:=cz Sf Ih
def Rr:D:=(.agg [(.v (.int .i64 26)),(.v (.int .i64 40))])
def Rq:D:=(.tup [Rr,(.v (.int .i64 0))])
def ke12:Ent:=⟨27,[],[lM,(.v (.int .i64 20)),(.v (.int .i64 70))],⟨[],[],Rq⟩⟩
theorem Se:aO Tryz.prog ke12:=cr (F:=ct) Ig (by kernel_rfl)
def Hv:List Ent:=ke12::Hw
theorem If:∀ e∈Hv,aO Tryz.prog e:=cz Se Ig
def ke13:Ent:=⟨76,[eV],[(.ref [0,1] 0),(.v (.int .i64 80))],⟨[],[([207,0],A4),([1135,0],(.arr 7 [dT,dS])),([5916,0],fm),([204,0],fk),([205,0],fS)],(.ref [207,0] 0)⟩⟩
theorem Sd:aO Tryz.prog ke13:=cr (F:=ct) If (by kernel_rfl)
def Hu:List Ent:=ke13::Hv
theorem Ie:∀ e∈Hu,aO Tryz.prog e:=cz Sd If
end Go.Eng
