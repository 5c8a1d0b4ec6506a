import Derived.Test.YtepaolcgegdpoaaGreatK10
import Derived.KernelRfl
/- Texts Sane2 to Sane2. -/
set_option linter.all false
namespace Go.Eng
open Go Go.Proofs
def Eh:O:=(.box [(.ref [0,1] 0),(.msl [1135,0] 2),(.msl [5916,0] 2),(.map [204,0]),(.map [205,0])])
def gJ:O:=(.arr 1 [(.int .i64 0),(.int .i64 1)])
def WK:V:=(.agg [(.int .i64 10),(.int .i64 1)])
def WJ:V:=(.agg [(.int .i64 10),(.int .i64 2)])
def Lf:V:=(.agg [(.int .i64 10),(.int .i64 3)])
def gI:O:=(.map 2 [(WK,(.int .i64 0)),(WJ,(.int .i64 0)),(Lf,(.int .i64 1))])
def WI:V:=(.agg [(.int .i64 20),(.int .i64 40)])
def xq:V:=(.agg [(.int .i64 11),(.int .i64 30)])
def iv:O:=(.map 0 [((.int .i64 0),WI),((.int .i64 1),xq)])
def ke8:Ent:=⟨76,[gf],[(.ref [0,1] 0),(.v (.int .i64 70))],⟨[],[([207,0],Eh),([1135,0],(.arr 7 [eN,eM])),([5916,0],gJ),([204,0],gI),([205,0],iv)],(.ref [207,0] 0)⟩⟩
theorem Xi:aX Tryz.prog ke8:=cR (F:=cS) Mf (by kernel_rfl)
def Lt:List Ent:=ke8::Lu
theorem Me:∀ e∈Lt,aX Tryz.prog e:=cX Xi Mf
def jJ:O:=(.box [(.ref [1,1] 0),(.msl [2,1] 2),(.msl [3,1] 2),(.map [4,1]),(.map [5,1])])
def W9:D:=(.tup [.nilsl,(.v (.bool false))])
def ke9:Ent:=⟨120,[jJ,gf,(.arr 7 [eN,eM]),gJ,gI,iv],[(.ref [0,1] 0)],⟨[(2,(.farr 7 [eN,eM]))],[],W9⟩⟩
theorem Xh:aX Tryz.prog ke9:=cR (F:=cS) Me (by kernel_rfl)
def Mb:List Ent:=ke9::Lt
theorem MQ:∀ e∈Mb,aX Tryz.prog e:=cX Xh Me
def Ln:D:=(.agg [(.v (.int .i64 30)),(.v (.int .i64 5)),(.v (.int .i64 1)),(.v (.int .i64 1)),(.v (.int .i64 25)),(.v (.int .i64 70)),(.v (.int .i64 0))])
def W8:D:=(.agg [(.v (.int .i64 26)),(.v (.int .i64 100000))])
def Lm:D:=(.tup [(.v (.int .i64 0)),W8])
def ke10:Ent:=⟨187,[jJ,gf,(.farr 7 [eN,eM]),gJ,gI,iv],[(.ref [0,1] 0),Ln],⟨[],[],Lm⟩⟩
theorem XU:aX Tryz.prog ke10:=cR (F:=cS) MQ (by kernel_rfl)
def Ma:List Ent:=ke10::Mb
theorem MP:∀ e∈Ma,aX Tryz.prog e:=cX XU MQ
def Lk:O:=(.box [(.ref [0,1] 0),(.msl [1135,0,30,0,35,0] 2),(.msl [5916,0,30,0,35,0] 2),(.map [204,0,30,0,35,0]),(.map [205,0,30,0,35,0])])
def WH:V:=(.agg [(.int .i64 26),(.int .i64 40)])
def Lj:O:=(.map 0 [((.int .i64 0),WH),((.int .i64 1),xq)])
def Ll:D:=(.tup [(.ref [207,0,30,0,35,0] 0),(.v (.int .i64 0))])
def ke11:Ent:=⟨78,[gf],[(.ref [0,1] 0),(.v (.int .i64 70))],⟨[],[([207,0,30,0,35,0],Lk),([1135,0,30,0,35,0],(.farr 7 [eN,eM])),([5916,0,30,0,35,0],gJ),([204,0,30,0,35,0],gI),([205,0,30,0,35,0],Lj)],Ll⟩⟩
theorem XT:aX Tryz.prog ke11:=cR (F:=cS) MP (by kernel_rfl)
def L':List Ent:=ke11::Ma
theorem MO:∀ e∈L',aX Tryz.prog e:=cX XT MP
def W7:D:=(.agg [(.v (.int .i64 26)),(.v (.int .i64 40))])
def W6:D:=(.tup [W7,(.v (.int .i64 0))])
def ke12:Ent:=⟨27,[],[nW,(.v (.int .i64 20)),(.v (.int .i64 70))],⟨[],[],W6⟩⟩
theorem XS:aX Tryz.prog ke12:=cR (F:=cS) MO (by kernel_rfl)
def L9:List Ent:=ke12::L'
theorem MN:∀ e∈L9,aX Tryz.prog e:=cX XS MO
def ke13:Ent:=⟨76,[gf],[(.ref [0,1] 0),(.v (.int .i64 80))],⟨[],[([207,0],Eh),([1135,0],(.arr 7 [eN,eM])),([5916,0],gJ),([204,0],gI),([205,0],iv)],(.ref [207,0] 0)⟩⟩
theorem XR:aX Tryz.prog ke13:=cR (F:=cS) MN (by kernel_rfl)
def L8:List Ent:=ke13::L9
theorem MM:∀ e∈L8,aX Tryz.prog e:=cX XR MN
end Go.Eng
