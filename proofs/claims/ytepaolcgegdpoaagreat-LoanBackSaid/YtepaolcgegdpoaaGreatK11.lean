import Derived.Test.YtepaolcgegdpoaaGreatK10
import Derived.KernelRfl
/- Texts Sane2 to Sane2. -/
set_option linter.all false
namespace Go.Eng
open Go Go.Proofs
def DA:O:=(.box [(.ref [0,1] 0),(.msl [1135,0] 2),(.msl [5916,0] 2),(.map [204,0]),(.map [205,0])])
def gl:O:=(.arr 1 [(.int .i64 0),(.int .i64 1)])
def Ve:V:=(.agg [(.int .i64 10),(.int .i64 1)])
def Vd:V:=(.agg [(.int .i64 10),(.int .i64 2)])
def J4:V:=(.agg [(.int .i64 10),(.int .i64 3)])
def gk:O:=(.map 2 [(Ve,(.int .i64 0)),(Vd,(.int .i64 0)),(J4,(.int .i64 1))])
def Vc:V:=(.agg [(.int .i64 20),(.int .i64 40)])
def wN:V:=(.agg [(.int .i64 11),(.int .i64 30)])
def gU:O:=(.map 0 [((.int .i64 0),Vc),((.int .i64 1),wN)])
def ke8:Ent:=⟨76,[fH],[(.ref [0,1] 0),(.v (.int .i64 70))],⟨[],[([207,0],DA),([1135,0],(.arr 7 [eF,eE])),([5916,0],gl),([204,0],gk),([205,0],gU)],(.ref [207,0] 0)⟩⟩
theorem VM:aW Tryz.prog ke8:=cJ (F:=cK) KX (by kernel_rfl)
def Kf:List Ent:=ke8::Kg
theorem KW:∀ e∈Kf,aW Tryz.prog e:=cP VM KX
def jr:O:=(.box [(.ref [1,1] 0),(.msl [2,1] 2),(.msl [3,1] 2),(.map [4,1]),(.map [5,1])])
def VD:D:=(.tup [.nilsl,(.v (.bool false))])
def ke9:Ent:=⟨120,[jr,fH,(.arr 7 [eF,eE]),gl,gk,gU],[(.ref [0,1] 0)],⟨[(2,(.farr 7 [eF,eE]))],[],VD⟩⟩
theorem VL:aW Tryz.prog ke9:=cJ (F:=cK) KW (by kernel_rfl)
def KT:List Ent:=ke9::Kf
theorem LL:∀ e∈KT,aW Tryz.prog e:=cP VL KW
def Kb:D:=(.agg [(.v (.int .i64 30)),(.v (.int .i64 5)),(.v (.int .i64 1)),(.v (.int .i64 1)),(.v (.int .i64 25)),(.v (.int .i64 70)),(.v (.int .i64 0))])
def VC:D:=(.agg [(.v (.int .i64 26)),(.v (.int .i64 100000))])
def Ka:D:=(.tup [(.v (.int .i64 0)),VC])
def ke10:Ent:=⟨187,[jr,fH,(.farr 7 [eF,eE]),gl,gk,gU],[(.ref [0,1] 0),Kb],⟨[],[],Ka⟩⟩
theorem Wn:aW Tryz.prog ke10:=cJ (F:=cK) LL (by kernel_rfl)
def KR:List Ent:=ke10::KT
theorem LK:∀ e∈KR,aW Tryz.prog e:=cP Wn LL
def J9:O:=(.box [(.ref [0,1] 0),(.msl [1135,0,30,0,35,0] 2),(.msl [5916,0,30,0,35,0] 2),(.map [204,0,30,0,35,0]),(.map [205,0,30,0,35,0])])
def Vb:V:=(.agg [(.int .i64 26),(.int .i64 40)])
def J8:O:=(.map 0 [((.int .i64 0),Vb),((.int .i64 1),wN)])
def J':D:=(.tup [(.ref [207,0,30,0,35,0] 0),(.v (.int .i64 0))])
def ke11:Ent:=⟨78,[fH],[(.ref [0,1] 0),(.v (.int .i64 70))],⟨[],[([207,0,30,0,35,0],J9),([1135,0,30,0,35,0],(.farr 7 [eF,eE])),([5916,0,30,0,35,0],gl),([204,0,30,0,35,0],gk),([205,0,30,0,35,0],J8)],J'⟩⟩
theorem Wm:aW Tryz.prog ke11:=cJ (F:=cK) LK (by kernel_rfl)
def KQ:List Ent:=ke11::KR
theorem LJ:∀ e∈KQ,aW Tryz.prog e:=cP Wm LK
def VB:D:=(.agg [(.v (.int .i64 26)),(.v (.int .i64 40))])
def VA:D:=(.tup [VB,(.v (.int .i64 0))])
def ke12:Ent:=⟨27,[],[nk,(.v (.int .i64 20)),(.v (.int .i64 70))],⟨[],[],VA⟩⟩
theorem Wl:aW Tryz.prog ke12:=cJ (F:=cK) LJ (by kernel_rfl)
def KP:List Ent:=ke12::KQ
theorem LH:∀ e∈KP,aW Tryz.prog e:=cP Wl LJ
def ke13:Ent:=⟨76,[fH],[(.ref [0,1] 0),(.v (.int .i64 80))],⟨[],[([207,0],DA),([1135,0],(.arr 7 [eF,eE])),([5916,0],gl),([204,0],gk),([205,0],gU)],(.ref [207,0] 0)⟩⟩
theorem Wk:aW Tryz.prog ke13:=cJ (F:=cK) LH (by kernel_rfl)
def KO:List Ent:=ke13::KP
theorem LG:∀ e∈KO,aW Tryz.prog e:=cP Wk LH
end Go.Eng
