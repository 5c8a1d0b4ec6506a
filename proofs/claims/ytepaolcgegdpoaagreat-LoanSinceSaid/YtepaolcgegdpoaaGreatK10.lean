import Derived.Test.YtepaolcgegdpoaaGreatK9
import Derived.KernelRfl
/- Texts Sane2 to Sane2. -/
set_option linter.all false
namespace Go.Eng
open Go Go.Proofs
def A6:O:=(.box [(.ref [0,1] 0),(.msl [1135,0] 2),(.msl [5916,0] 2),(.map [204,0]),(.map [205,0])])
def fi:O:=(.arr 1 [(.int .i64 0),(.int .i64 1)])
def QZ:V:=(.agg [(.int .i64 10),(.int .i64 1)])
def QY:V:=(.agg [(.int .i64 10),(.int .i64 2)])
def GA:V:=(.agg [(.int .i64 10),(.int .i64 3)])
def fh:O:=(.map 2 [(QZ,(.int .i64 0)),(QY,(.int .i64 0)),(GA,(.int .i64 1))])
def QX:V:=(.agg [(.int .i64 20),(.int .i64 40)])
def uf:V:=(.agg [(.int .i64 11),(.int .i64 30)])
def fR:O:=(.map 0 [((.int .i64 0),QX),((.int .i64 1),uf)])
def ke8:Ent:=⟨76,[eV],[(.ref [0,1] 0),(.v (.int .i64 70))],⟨[],[([207,0],A6),([1135,0],(.arr 7 [dN,dM])),([5916,0],fi),([204,0],fh),([205,0],fR)],(.ref [207,0] 0)⟩⟩
theorem Ry:aR Tryz.prog ke8:=cl (F:=cm) Hz (by kernel_rfl)
def GQ:List Ent:=ke8::GR
theorem Hy:∀ e∈GQ,aR Tryz.prog e:=cw Ry Hz
def gW:O:=(.box [(.ref [1,1] 0),(.msl [2,1] 2),(.msl [3,1] 2),(.map [4,1]),(.map [5,1])])
def Rp:D:=(.tup [.nilsl,(.v (.bool false))])
def ke9:Ent:=⟨120,[gW,eV,(.arr 7 [dN,dM]),fi,fh,fR],[(.ref [0,1] 0)],⟨[(2,(.farr 7 [dN,dM]))],[],Rp⟩⟩
theorem Rx:aR Tryz.prog ke9:=cl (F:=cm) Hy (by kernel_rfl)
def Ht:List Ent:=ke9::GQ
theorem Ie:∀ e∈Ht,aR Tryz.prog e:=cw Rx Hy
def GM:D:=(.agg [(.v (.int .i64 30)),(.v (.int .i64 5)),(.v (.int .i64 1)),(.v (.int .i64 1)),(.v (.int .i64 25)),(.v (.int .i64 70)),(.v (.int .i64 0))])
def Rm:D:=(.agg [(.v (.int .i64 26)),(.v (.int .i64 100000))])
def GL:D:=(.tup [(.v (.int .i64 0)),Rm])
def ke10:Ent:=⟨187,[gW,eV,(.farr 7 [dN,dM]),fi,fh,fR],[(.ref [0,1] 0),GM],⟨[],[],GL⟩⟩
theorem Sc:aR Tryz.prog ke10:=cl (F:=cm) Ie (by kernel_rfl)
def Hs:List Ent:=ke10::Ht
theorem Ic:∀ e∈Hs,aR Tryz.prog e:=cw Sc Ie
def GG:O:=(.box [(.ref [0,1] 0),(.msl [1135,0,30,0,35,0] 2),(.msl [5916,0,30,0,35,0] 2),(.map [204,0,30,0,35,0]),(.map [205,0,30,0,35,0])])
def QW:V:=(.agg [(.int .i64 26),(.int .i64 40)])
def GF:O:=(.map 0 [((.int .i64 0),QW),((.int .i64 1),uf)])
def GK:D:=(.tup [(.ref [207,0,30,0,35,0] 0),(.v (.int .i64 0))])
def ke11:Ent:=⟨78,[eV],[(.ref [0,1] 0),(.v (.int .i64 70))],⟨[],[([207,0,30,0,35,0],GG),([1135,0,30,0,35,0],(.farr 7 [dN,dM])),([5916,0,30,0,35,0],fi),([204,0,30,0,35,0],fh),([205,0,30,0,35,0],GF)],GK⟩⟩
theorem Sb:aR Tryz.prog ke11:=cl (F:=cm) Ic (by kernel_rfl)
def Hr:List Ent:=ke11::Hs
theorem Ib:∀ e∈Hr,aR Tryz.prog e:=cw Sb Ic
def Rl:D:=(.agg [(.v (.int .i64 26)),(.v (.int .i64 40))])
def Rk:D:=(.tup [Rl,(.v (.int .i64 0))])
def ke12:Ent:=⟨27,[],[lE,(.v (.int .i64 20)),(.v (.int .i64 70))],⟨[],[],Rk⟩⟩
theorem Sa:aR Tryz.prog ke12:=cl (F:=cm) Ib (by kernel_rfl)
def Hq:List Ent:=ke12::Hr
theorem Ia:∀ e∈Hq,aR Tryz.prog e:=cw Sa Ib
def ke13:Ent:=⟨76,[eV],[(.ref [0,1] 0),(.v (.int .i64 80))],⟨[],[([207,0],A6),([1135,0],(.arr 7 [dN,dM])),([5916,0],fi),([204,0],fh),([205,0],fR)],(.ref [207,0] 0)⟩⟩
theorem R':aR Tryz.prog ke13:=cl (F:=cm) Ia (by kernel_rfl)
def Hp:List Ent:=ke13::Hq
theorem H9:∀ e∈Hp,aR Tryz.prog e:=cw R' Ia
end Go.Eng
