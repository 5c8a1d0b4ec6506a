import Derived.Test.YtepaolcgegdpoaaGreatK11
import Derived.KernelRfl
/- Texts Sane2 to Sane2. -/
set_option linter.all false
namespace Go.Eng
open Go Go.Proofs
def C7:O:=(.box [(.ref [0,1] 0),(.msl [1135,0] 2),(.msl [5916,0] 2),(.map [204,0]),(.map [205,0])])
def gC:O:=(.arr 1 [(.int .i64 0),(.int .i64 1)])
def Vt:V:=(.agg [(.int .i64 10),(.int .i64 1)])
def Vs:V:=(.agg [(.int .i64 10),(.int .i64 2)])
def JH:V:=(.agg [(.int .i64 10),(.int .i64 3)])
def gB:O:=(.map 2 [(Vt,(.int .i64 0)),(Vs,(.int .i64 0)),(JH,(.int .i64 1))])
def Vr:V:=(.agg [(.int .i64 20),(.int .i64 40)])
def wF:V:=(.agg [(.int .i64 11),(.int .i64 30)])
def ib:O:=(.map 0 [((.int .i64 0),Vr),((.int .i64 1),wF)])
def ke8:Ent:=⟨76,[fZ],[(.ref [0,1] 0),(.v (.int .i64 70))],⟨[],[([207,0],C7),([1135,0],(.arr 7 [eM,eK])),([5916,0],gC),([204,0],gB),([205,0],ib)],(.ref [207,0] 0)⟩⟩
theorem V4:bb Tryz.prog ke8:=c9 (F:=db) Ky (by kernel_rfl)
def JT:List Ent:=ke8::JU
theorem Kx:∀ e∈JT,bb Tryz.prog e:=dg V4 Ky
def jO:O:=(.box [(.ref [1,1] 0),(.msl [2,1] 2),(.msl [3,1] 2),(.map [4,1]),(.map [5,1])])
def VS:D:=(.tup [.nilsl,(.v (.bool false))])
def ke9:Ent:=⟨120,[jO,fZ,(.arr 7 [eM,eK]),gC,gB,ib],[(.ref [0,1] 0)],⟨[(2,(.farr 7 [eM,eK]))],[],VS⟩⟩
theorem V3:bb Tryz.prog ke9:=c9 (F:=db) Kx (by kernel_rfl)
def Ku:List Ent:=ke9::JT
theorem Lj:∀ e∈Ku,bb Tryz.prog e:=dg V3 Kx
def JP:D:=(.agg [(.v (.int .i64 30)),(.v (.int .i64 5)),(.v (.int .i64 1)),(.v (.int .i64 1)),(.v (.int .i64 25)),(.v (.int .i64 70)),(.v (.int .i64 0))])
def VR:D:=(.agg [(.v (.int .i64 26)),(.v (.int .i64 100000))])
def JO:D:=(.tup [(.v (.int .i64 0)),VR])
def ke10:Ent:=⟨187,[jO,fZ,(.farr 7 [eM,eK]),gC,gB,ib],[(.ref [0,1] 0),JP],⟨[],[],JO⟩⟩
theorem WG:bb Tryz.prog ke10:=c9 (F:=db) Lj (by kernel_rfl)
def Kt:List Ent:=ke10::Ku
theorem Li:∀ e∈Kt,bb Tryz.prog e:=dg WG Lj
def JM:O:=(.box [(.ref [0,1] 0),(.msl [1135,0,30,0,35,0] 2),(.msl [5916,0,30,0,35,0] 2),(.map [204,0,30,0,35,0]),(.map [205,0,30,0,35,0])])
def Vq:V:=(.agg [(.int .i64 26),(.int .i64 40)])
def JL:O:=(.map 0 [((.int .i64 0),Vq),((.int .i64 1),wF)])
def JN:D:=(.tup [(.ref [207,0,30,0,35,0] 0),(.v (.int .i64 0))])
def ke11:Ent:=⟨78,[fZ],[(.ref [0,1] 0),(.v (.int .i64 70))],⟨[],[([207,0,30,0,35,0],JM),([1135,0,30,0,35,0],(.farr 7 [eM,eK])),([5916,0,30,0,35,0],gC),([204,0,30,0,35,0],gB),([205,0,30,0,35,0],JL)],JN⟩⟩
theorem WE:bb Tryz.prog ke11:=c9 (F:=db) Li (by kernel_rfl)
def Ks:List Ent:=ke11::Kt
theorem Lh:∀ e∈Ks,bb Tryz.prog e:=dg WE Li
def VQ:D:=(.agg [(.v (.int .i64 26)),(.v (.int .i64 40))])
def VP:D:=(.tup [VQ,(.v (.int .i64 0))])
def ke12:Ent:=⟨27,[],[nw,(.v (.int .i64 20)),(.v (.int .i64 70))],⟨[],[],VP⟩⟩
theorem WD:bb Tryz.prog ke12:=c9 (F:=db) Lh (by kernel_rfl)
def Kr:List Ent:=ke12::Ks
theorem Lg:∀ e∈Kr,bb Tryz.prog e:=dg WD Lh
def ke13:Ent:=⟨76,[fZ],[(.ref [0,1] 0),(.v (.int .i64 80))],⟨[],[([207,0],C7),([1135,0],(.arr 7 [eM,eK])),([5916,0],gC),([204,0],gB),([205,0],ib)],(.ref [207,0] 0)⟩⟩
theorem WC:bb Tryz.prog ke13:=c9 (F:=db) Lg (by kernel_rfl)
def Kq:List Ent:=ke13::Kr
theorem Lf:∀ e∈Kq,bb Tryz.prog e:=dg WC Lg
end Go.Eng
