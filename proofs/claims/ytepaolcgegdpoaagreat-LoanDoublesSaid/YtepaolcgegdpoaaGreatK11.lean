import Derived.Test.YtepaolcgegdpoaaGreatK10
import Derived.KernelRfl
/- Texts Sane2 to Sane2. -/
set_option linter.all false
namespace Go.Eng
open Go Go.Proofs
def BB:O:=(.box [(.ref [0,1] 0),(.msl [1135,0] 2),(.msl [5916,0] 2),(.map [204,0]),(.map [205,0])])
def fU:O:=(.arr 1 [(.int .i64 0),(.int .i64 1)])
def SH:V:=(.agg [(.int .i64 10),(.int .i64 1)])
def SG:V:=(.agg [(.int .i64 10),(.int .i64 2)])
def H6:V:=(.agg [(.int .i64 10),(.int .i64 3)])
def fT:O:=(.map 2 [(SH,(.int .i64 0)),(SG,(.int .i64 0)),(H6,(.int .i64 1))])
def SF:V:=(.agg [(.int .i64 20),(.int .i64 40)])
def vx:V:=(.agg [(.int .i64 11),(.int .i64 30)])
def gD:O:=(.map 0 [((.int .i64 0),SF),((.int .i64 1),vx)])
def ke8:Ent:=⟨76,[fz],[(.ref [0,1] 0),(.v (.int .i64 70))],⟨[],[([207,0],BB),([1135,0],(.arr 7 [eg,ef])),([5916,0],fU),([204,0],fT),([205,0],gD)],(.ref [207,0] 0)⟩⟩
theorem Te:aV Tryz.prog ke8:=cF (F:=cG) I2 (by kernel_rfl)
def Ij:List Ent:=ke8::Ik
theorem I1:∀ e∈Ij,aV Tryz.prog e:=cL Te I2
def iY:O:=(.box [(.ref [1,1] 0),(.msl [2,1] 2),(.msl [3,1] 2),(.map [4,1]),(.map [5,1])])
def S6:D:=(.tup [.nilsl,(.v (.bool false))])
def ke9:Ent:=⟨120,[iY,fz,(.arr 7 [eg,ef]),fU,fT,gD],[(.ref [0,1] 0)],⟨[(2,(.farr 7 [eg,ef]))],[],S6⟩⟩
theorem Td:aV Tryz.prog ke9:=cF (F:=cG) I1 (by kernel_rfl)
def IY:List Ent:=ke9::Ij
theorem JC:∀ e∈IY,aV Tryz.prog e:=cL Td I1
def If:D:=(.agg [(.v (.int .i64 30)),(.v (.int .i64 5)),(.v (.int .i64 1)),(.v (.int .i64 1)),(.v (.int .i64 25)),(.v (.int .i64 70)),(.v (.int .i64 0))])
def S5:D:=(.agg [(.v (.int .i64 26)),(.v (.int .i64 100000))])
def Ie:D:=(.tup [(.v (.int .i64 0)),S5])
def ke10:Ent:=⟨187,[iY,fz,(.farr 7 [eg,ef]),fU,fT,gD],[(.ref [0,1] 0),If],⟨[],[],Ie⟩⟩
theorem TQ:aV Tryz.prog ke10:=cF (F:=cG) JC (by kernel_rfl)
def IX:List Ent:=ke10::IY
theorem JB:∀ e∈IX,aV Tryz.prog e:=cL TQ JC
def Ib:O:=(.box [(.ref [0,1] 0),(.msl [1135,0,30,0,35,0] 2),(.msl [5916,0,30,0,35,0] 2),(.map [204,0,30,0,35,0]),(.map [205,0,30,0,35,0])])
def SE:V:=(.agg [(.int .i64 26),(.int .i64 40)])
def Ia:O:=(.map 0 [((.int .i64 0),SE),((.int .i64 1),vx)])
def Ic:D:=(.tup [(.ref [207,0,30,0,35,0] 0),(.v (.int .i64 0))])
def ke11:Ent:=⟨78,[fz],[(.ref [0,1] 0),(.v (.int .i64 70))],⟨[],[([207,0,30,0,35,0],Ib),([1135,0,30,0,35,0],(.farr 7 [eg,ef])),([5916,0,30,0,35,0],fU),([204,0,30,0,35,0],fT),([205,0,30,0,35,0],Ia)],Ic⟩⟩
theorem TP:aV Tryz.prog ke11:=cF (F:=cG) JB (by kernel_rfl)
def IW:List Ent:=ke11::IX
theorem JA:∀ e∈IW,aV Tryz.prog e:=cL TP JB
def S4:D:=(.agg [(.v (.int .i64 26)),(.v (.int .i64 40))])
def S3:D:=(.tup [S4,(.v (.int .i64 0))])
def ke12:Ent:=⟨27,[],[mo,(.v (.int .i64 20)),(.v (.int .i64 70))],⟨[],[],S3⟩⟩
theorem TO:aV Tryz.prog ke12:=cF (F:=cG) JA (by kernel_rfl)
def IV:List Ent:=ke12::IW
theorem Jz:∀ e∈IV,aV Tryz.prog e:=cL TO JA
def ke13:Ent:=⟨76,[fz],[(.ref [0,1] 0),(.v (.int .i64 80))],⟨[],[([207,0],BB),([1135,0],(.arr 7 [eg,ef])),([5916,0],fU),([204,0],fT),([205,0],gD)],(.ref [207,0] 0)⟩⟩
theorem TN:aV Tryz.prog ke13:=cF (F:=cG) Jz (by kernel_rfl)
def IU:List Ent:=ke13::IV
theorem Jy:∀ e∈IU,aV Tryz.prog e:=cL TN Jz
end Go.Eng
