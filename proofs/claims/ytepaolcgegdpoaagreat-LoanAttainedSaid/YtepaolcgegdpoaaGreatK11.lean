import Derived.Test.YtepaolcgegdpoaaGreatK10
import Derived.KernelRfl
/- Texts Sane2 to Sane2. -/
set_option linter.all false
namespace Go.Eng
open Go Go.Proofs
def BU:O:=(.box [(.ref [0,1] 0),(.msl [1135,0] 2),(.msl [5916,0] 2),(.map [204,0]),(.map [205,0])])
def fN:O:=(.arr 1 [(.int .i64 0),(.int .i64 1)])
def Sy:V:=(.agg [(.int .i64 10),(.int .i64 1)])
def Sx:V:=(.agg [(.int .i64 10),(.int .i64 2)])
def HH:V:=(.agg [(.int .i64 10),(.int .i64 3)])
def fM:O:=(.map 2 [(Sy,(.int .i64 0)),(Sx,(.int .i64 0)),(HH,(.int .i64 1))])
def Sw:V:=(.agg [(.int .i64 20),(.int .i64 40)])
def vk:V:=(.agg [(.int .i64 11),(.int .i64 30)])
def gu:O:=(.map 0 [((.int .i64 0),Sw),((.int .i64 1),vk)])
def ke8:Ent:=⟨76,[fo],[(.ref [0,1] 0),(.v (.int .i64 70))],⟨[],[([207,0],BU),([1135,0],(.arr 7 [dW,dV])),([5916,0],fN),([204,0],fM),([205,0],gu)],(.ref [207,0] 0)⟩⟩
theorem S6:aT Tryz.prog ke8:=cz (F:=cA) IE (by kernel_rfl)
def HT:List Ent:=ke8::HU
theorem ID:∀ e∈HT,aT Tryz.prog e:=cF S6 IE
def iD:O:=(.box [(.ref [1,1] 0),(.msl [2,1] 2),(.msl [3,1] 2),(.map [4,1]),(.map [5,1])])
def SX:D:=(.tup [.nilsl,(.v (.bool false))])
def ke9:Ent:=⟨120,[iD,fo,(.arr 7 [dW,dV]),fN,fM,gu],[(.ref [0,1] 0)],⟨[(2,(.farr 7 [dW,dV]))],[],SX⟩⟩
theorem S5:aT Tryz.prog ke9:=cz (F:=cA) ID (by kernel_rfl)
def IA:List Ent:=ke9::HT
theorem Jg:∀ e∈IA,aT Tryz.prog e:=cF S5 ID
def HP:D:=(.agg [(.v (.int .i64 30)),(.v (.int .i64 5)),(.v (.int .i64 1)),(.v (.int .i64 1)),(.v (.int .i64 25)),(.v (.int .i64 70)),(.v (.int .i64 0))])
def SW:D:=(.agg [(.v (.int .i64 26)),(.v (.int .i64 100000))])
def HO:D:=(.tup [(.v (.int .i64 0)),SW])
def ke10:Ent:=⟨187,[iD,fo,(.farr 7 [dW,dV]),fN,fM,gu],[(.ref [0,1] 0),HP],⟨[],[],HO⟩⟩
theorem TI:aT Tryz.prog ke10:=cz (F:=cA) Jg (by kernel_rfl)
def Iz:List Ent:=ke10::IA
theorem Jf:∀ e∈Iz,aT Tryz.prog e:=cF TI Jg
def HM:O:=(.box [(.ref [0,1] 0),(.msl [1135,0,30,0,35,0] 2),(.msl [5916,0,30,0,35,0] 2),(.map [204,0,30,0,35,0]),(.map [205,0,30,0,35,0])])
def Sv:V:=(.agg [(.int .i64 26),(.int .i64 40)])
def HL:O:=(.map 0 [((.int .i64 0),Sv),((.int .i64 1),vk)])
def HN:D:=(.tup [(.ref [207,0,30,0,35,0] 0),(.v (.int .i64 0))])
def ke11:Ent:=⟨78,[fo],[(.ref [0,1] 0),(.v (.int .i64 70))],⟨[],[([207,0,30,0,35,0],HM),([1135,0,30,0,35,0],(.farr 7 [dW,dV])),([5916,0,30,0,35,0],fN),([204,0,30,0,35,0],fM),([205,0,30,0,35,0],HL)],HN⟩⟩
theorem TH:aT Tryz.prog ke11:=cz (F:=cA) Jf (by kernel_rfl)
def Iy:List Ent:=ke11::Iz
theorem Je:∀ e∈Iy,aT Tryz.prog e:=cF TH Jf
def SV:D:=(.agg [(.v (.int .i64 26)),(.v (.int .i64 40))])
def SU:D:=(.tup [SV,(.v (.int .i64 0))])
def ke12:Ent:=⟨27,[],[mg,(.v (.int .i64 20)),(.v (.int .i64 70))],⟨[],[],SU⟩⟩
theorem TG:aT Tryz.prog ke12:=cz (F:=cA) Je (by kernel_rfl)
def Ix:List Ent:=ke12::Iy
theorem Jd:∀ e∈Ix,aT Tryz.prog e:=cF TG Je
def ke13:Ent:=⟨76,[fo],[(.ref [0,1] 0),(.v (.int .i64 80))],⟨[],[([207,0],BU),([1135,0],(.arr 7 [dW,dV])),([5916,0],fN),([204,0],fM),([205,0],gu)],(.ref [207,0] 0)⟩⟩
theorem TF:aT Tryz.prog ke13:=cz (F:=cA) Jd (by kernel_rfl)
def Iw:List Ent:=ke13::Ix
theorem Jc:∀ e∈Iw,aT Tryz.prog e:=cF TF Jd
end Go.Eng
