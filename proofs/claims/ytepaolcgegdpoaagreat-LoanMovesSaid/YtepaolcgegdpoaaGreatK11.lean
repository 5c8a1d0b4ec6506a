import Derived.Test.YtepaolcgegdpoaaGreatK10
import Derived.KernelRfl
/- Texts Sane2 to Sane2. -/
set_option linter.all false
namespace Go.Eng
open Go Go.Proofs
def B4:O:=(.box [(.ref [0,1] 0),(.msl [1135,0] 2),(.msl [5916,0] 2),(.map [204,0]),(.map [205,0])])
def fS:O:=(.arr 1 [(.int .i64 0),(.int .i64 1)])
def Tn:V:=(.agg [(.int .i64 10),(.int .i64 1)])
def Tm:V:=(.agg [(.int .i64 10),(.int .i64 2)])
def HN:V:=(.agg [(.int .i64 10),(.int .i64 3)])
def fR:O:=(.map 2 [(Tn,(.int .i64 0)),(Tm,(.int .i64 0)),(HN,(.int .i64 1))])
def Tl:V:=(.agg [(.int .i64 20),(.int .i64 40)])
def vd:V:=(.agg [(.int .i64 11),(.int .i64 30)])
def gu:O:=(.map 0 [((.int .i64 0),Tl),((.int .i64 1),vd)])
def ke8:Ent:=⟨76,[fw],[(.ref [0,1] 0),(.v (.int .i64 70))],⟨[],[([207,0],B4),([1135,0],(.arr 7 [eh,eg])),([5916,0],fS),([204,0],fR),([205,0],gu)],(.ref [207,0] 0)⟩⟩
theorem TX:aX Tryz.prog ke8:=cJ (F:=cK) IK (by kernel_rfl)
def HZ:List Ent:=ke8::H0
theorem IJ:∀ e∈HZ,aX Tryz.prog e:=cP TX IK
def iV:O:=(.box [(.ref [1,1] 0),(.msl [2,1] 2),(.msl [3,1] 2),(.map [4,1]),(.map [5,1])])
def TL:D:=(.tup [.nilsl,(.v (.bool false))])
def ke9:Ent:=⟨120,[iV,fw,(.arr 7 [eh,eg]),fS,fR,gu],[(.ref [0,1] 0)],⟨[(2,(.farr 7 [eh,eg]))],[],TL⟩⟩
theorem TW:aX Tryz.prog ke9:=cJ (F:=cK) IJ (by kernel_rfl)
def IG:List Ent:=ke9::HZ
theorem Jm:∀ e∈IG,aX Tryz.prog e:=cP TW IJ
def HV:D:=(.agg [(.v (.int .i64 30)),(.v (.int .i64 5)),(.v (.int .i64 1)),(.v (.int .i64 1)),(.v (.int .i64 25)),(.v (.int .i64 70)),(.v (.int .i64 0))])
def TK:D:=(.agg [(.v (.int .i64 26)),(.v (.int .i64 100000))])
def HU:D:=(.tup [(.v (.int .i64 0)),TK])
def ke10:Ent:=⟨187,[iV,fw,(.farr 7 [eh,eg]),fS,fR,gu],[(.ref [0,1] 0),HV],⟨[],[],HU⟩⟩
theorem UC:aX Tryz.prog ke10:=cJ (F:=cK) Jm (by kernel_rfl)
def IF:List Ent:=ke10::IG
theorem Jl:∀ e∈IF,aX Tryz.prog e:=cP UC Jm
def HS:O:=(.box [(.ref [0,1] 0),(.msl [1135,0,30,0,35,0] 2),(.msl [5916,0,30,0,35,0] 2),(.map [204,0,30,0,35,0]),(.map [205,0,30,0,35,0])])
def Tk:V:=(.agg [(.int .i64 26),(.int .i64 40)])
def HR:O:=(.map 0 [((.int .i64 0),Tk),((.int .i64 1),vd)])
def HT:D:=(.tup [(.ref [207,0,30,0,35,0] 0),(.v (.int .i64 0))])
def ke11:Ent:=⟨78,[fw],[(.ref [0,1] 0),(.v (.int .i64 70))],⟨[],[([207,0,30,0,35,0],HS),([1135,0,30,0,35,0],(.farr 7 [eh,eg])),([5916,0,30,0,35,0],fS),([204,0,30,0,35,0],fR),([205,0,30,0,35,0],HR)],HT⟩⟩
theorem UB:aX Tryz.prog ke11:=cJ (F:=cK) Jl (by kernel_rfl)
def IE:List Ent:=ke11::IF
theorem Jk:∀ e∈IE,aX Tryz.prog e:=cP UB Jl
def TJ:D:=(.agg [(.v (.int .i64 26)),(.v (.int .i64 40))])
def TI:D:=(.tup [TJ,(.v (.int .i64 0))])
def ke12:Ent:=⟨27,[],[mg,(.v (.int .i64 20)),(.v (.int .i64 70))],⟨[],[],TI⟩⟩
theorem UA:aX Tryz.prog ke12:=cJ (F:=cK) Jk (by kernel_rfl)
def ID:List Ent:=ke12::IE
theorem Jj:∀ e∈ID,aX Tryz.prog e:=cP UA Jk
def ke13:Ent:=⟨76,[fw],[(.ref [0,1] 0),(.v (.int .i64 80))],⟨[],[([207,0],B4),([1135,0],(.arr 7 [eh,eg])),([5916,0],fS),([204,0],fR),([205,0],gu)],(.ref [207,0] 0)⟩⟩
theorem Uz:aX Tryz.prog ke13:=cJ (F:=cK) Jj (by kernel_rfl)
def IC:List Ent:=ke13::ID
theorem Ji:∀ e∈IC,aX Tryz.prog e:=cP Uz Jj
end Go.Eng
