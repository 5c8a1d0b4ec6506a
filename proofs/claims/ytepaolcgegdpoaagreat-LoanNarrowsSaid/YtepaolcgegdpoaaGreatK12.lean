import Derived.Test.YtepaolcgegdpoaaGreatK11
import Derived.KernelRfl
/- Texts Sane2 to Sane2. -/
set_option linter.all false
namespace Go.Eng
open Go Go.Proofs
def Fp:O:=(.box [(.ref [0,1] 0),(.msl [1135,0] 2),(.msl [5916,0] 2),(.map [204,0]),(.map [205,0])])
def gR:O:=(.arr 1 [(.int .i64 0),(.int .i64 1)])
def YB:V:=(.agg [(.int .i64 10),(.int .i64 1)])
def YA:V:=(.agg [(.int .i64 10),(.int .i64 2)])
def Mt:V:=(.agg [(.int .i64 10),(.int .i64 3)])
def gQ:O:=(.map 2 [(YB,(.int .i64 0)),(YA,(.int .i64 0)),(Mt,(.int .i64 1))])
def Yz:V:=(.agg [(.int .i64 20),(.int .i64 40)])
def yh:V:=(.agg [(.int .i64 11),(.int .i64 30)])
def iK:O:=(.map 0 [((.int .i64 0),Yz),((.int .i64 1),yh)])
def ke8:Ent:=⟨76,[gm],[(.ref [0,1] 0),(.v (.int .i64 70))],⟨[],[([207,0],Fp),([1135,0],(.arr 7 [fb,fa])),([5916,0],gR),([204,0],gQ),([205,0],iK)],(.ref [207,0] 0)⟩⟩
theorem Y8:a8 Tryz.prog ke8:=cZ (F:=c0) Nl (by kernel_rfl)
def MF:List Ent:=ke8::MG
theorem Nk:∀ e∈MF,a8 Tryz.prog e:=c9 Y8 Nl
def jZ:O:=(.box [(.ref [1,1] 0),(.msl [2,1] 2),(.msl [3,1] 2),(.map [4,1]),(.map [5,1])])
def YZ:D:=(.tup [.nilsl,(.v (.bool false))])
def ke9:Ent:=⟨120,[jZ,gm,(.arr 7 [fb,fa]),gR,gQ,iK],[(.ref [0,1] 0)],⟨[(2,(.farr 7 [fb,fa]))],[],YZ⟩⟩
theorem Y7:a8 Tryz.prog ke9:=cZ (F:=c0) Nk (by kernel_rfl)
def Nh:List Ent:=ke9::MF
theorem NY:∀ e∈Nh,a8 Tryz.prog e:=c9 Y7 Nk
def MB:D:=(.agg [(.v (.int .i64 30)),(.v (.int .i64 5)),(.v (.int .i64 1)),(.v (.int .i64 1)),(.v (.int .i64 25)),(.v (.int .i64 70)),(.v (.int .i64 0))])
def YY:D:=(.agg [(.v (.int .i64 26)),(.v (.int .i64 100000))])
def MA:D:=(.tup [(.v (.int .i64 0)),YY])
def ke10:Ent:=⟨187,[jZ,gm,(.farr 7 [fb,fa]),gR,gQ,iK],[(.ref [0,1] 0),MB],⟨[],[],MA⟩⟩
theorem ZJ:a8 Tryz.prog ke10:=cZ (F:=c0) NY (by kernel_rfl)
def Ng:List Ent:=ke10::Nh
theorem NX:∀ e∈Ng,a8 Tryz.prog e:=c9 ZJ NY
def My:O:=(.box [(.ref [0,1] 0),(.msl [1135,0,30,0,35,0] 2),(.msl [5916,0,30,0,35,0] 2),(.map [204,0,30,0,35,0]),(.map [205,0,30,0,35,0])])
def Yy:V:=(.agg [(.int .i64 26),(.int .i64 40)])
def Mx:O:=(.map 0 [((.int .i64 0),Yy),((.int .i64 1),yh)])
def Mz:D:=(.tup [(.ref [207,0,30,0,35,0] 0),(.v (.int .i64 0))])
def ke11:Ent:=⟨78,[gm],[(.ref [0,1] 0),(.v (.int .i64 70))],⟨[],[([207,0,30,0,35,0],My),([1135,0,30,0,35,0],(.farr 7 [fb,fa])),([5916,0,30,0,35,0],gR),([204,0,30,0,35,0],gQ),([205,0,30,0,35,0],Mx)],Mz⟩⟩
theorem ZI:a8 Tryz.prog ke11:=cZ (F:=c0) NX (by kernel_rfl)
def Nf:List Ent:=ke11::Ng
theorem NW:∀ e∈Nf,a8 Tryz.prog e:=c9 ZI NX
def YX:D:=(.agg [(.v (.int .i64 26)),(.v (.int .i64 40))])
def YW:D:=(.tup [YX,(.v (.int .i64 0))])
def ke12:Ent:=⟨27,[],[oy,(.v (.int .i64 20)),(.v (.int .i64 70))],⟨[],[],YW⟩⟩
theorem ZH:a8 Tryz.prog ke12:=cZ (F:=c0) NW (by kernel_rfl)
def Nd:List Ent:=ke12::Nf
theorem NV:∀ e∈Nd,a8 Tryz.prog e:=c9 ZH NW
def ke13:Ent:=⟨76,[gm],[(.ref [0,1] 0),(.v (.int .i64 80))],⟨[],[([207,0],Fp),([1135,0],(.arr 7 [fb,fa])),([5916,0],gR),([204,0],gQ),([205,0],iK)],(.ref [207,0] 0)⟩⟩
theorem ZG:a8 Tryz.prog ke13:=cZ (F:=c0) NV (by kernel_rfl)
def Nc:List Ent:=ke13::Nd
theorem NU:∀ e∈Nc,a8 Tryz.prog e:=c9 ZG NV
end Go.Eng
