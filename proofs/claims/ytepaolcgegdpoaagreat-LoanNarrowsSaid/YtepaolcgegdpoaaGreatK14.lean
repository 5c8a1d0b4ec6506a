import Derived.Test.YtepaolcgegdpoaaGreatK13
import Derived.KernelRfl
/- Texts Sane4 to Sane4. -/
set_option linter.all false
namespace Go.Eng
open Go Go.Proofs
def ke21:Ent:=⟨78,[gm],[(.ref [0,1] 0),(.v (.int .i64 60))],⟨[],[([207,0,30,0,35,0],My),([1135,0,30,0,35,0],(.farr 7 [fb,fa])),([5916,0,30,0,35,0],gR),([204,0,30,0,35,0],gQ),([205,0,30,0,35,0],iK)],Mz⟩⟩
theorem Zx:a8 Tryz.prog ke21:=cZ (F:=c0) NL (by kernel_rfl)
def M4:List Ent:=ke21::M5
theorem NK:∀ e∈M4,a8 Tryz.prog e:=c9 Zx NL
def Bd:D:=(.agg [(.v (.int .i64 1)),(.v (.int .i64 1))])
def Fo:O:=(.arr 1 [(.int .i64 0),(.int .i64 5)])
def ke22:Ent:=⟨80,[jZ,gm,(.farr 7 [fb,fa]),gR,gQ,iK],[(.ref [0,1] 0),Bd,(.v (.int .i64 24))],⟨[],[([520,0],Fo)],(.msl [520,0] 2)⟩⟩
theorem Zw:a8 Tryz.prog ke22:=cZ (F:=c0) NK (by kernel_rfl)
def M3:List Ent:=ke22::M4
theorem NJ:∀ e∈M3,a8 Tryz.prog e:=c9 Zw NK
def YU:D:=(.tup [(.msl [520,0,279,0] 2),(.v (.int .i64 0))])
def ke23:Ent:=⟨23,[],[oy,Bd,(.v (.int .i64 24)),(.v (.int .i64 60))],⟨[],[([520,0,279,0],Fo)],YU⟩⟩
theorem Zv:a8 Tryz.prog ke23:=cZ (F:=c0) NJ (by kernel_rfl)
def M2:List Ent:=ke23::M3
theorem NI:∀ e∈M2,a8 Tryz.prog e:=c9 Zv NJ
def ke24:Ent:=⟨80,[jZ,gm,(.farr 7 [fb,fa]),gR,gQ,iK],[(.ref [0,1] 0),Bd,(.v (.int .i64 30))],⟨[],[([520,0],Fo)],(.msl [520,0] 2)⟩⟩
theorem Zu:a8 Tryz.prog ke24:=cZ (F:=c0) NI (by kernel_rfl)
def M1:List Ent:=ke24::M2
theorem NH:∀ e∈M1,a8 Tryz.prog e:=c9 Zu NI
def ke25:Ent:=⟨119,[jZ,gm,(.farr 7 [fb,fa]),gR,gQ,iK],[(.ref [0,1] 0),yj,(.v (.int .i64 30))],⟨[],[],rN⟩⟩
theorem Zt:a8 Tryz.prog ke25:=cZ (F:=c0) NH (by kernel_rfl)
def M0:List Ent:=ke25::M1
theorem NG:∀ e∈M0,a8 Tryz.prog e:=c9 Zt NH
def Fq:D:=(.agg [(.v (.int .i64 1)),(.v (.int .i64 3))])
def ke26:Ent:=⟨119,[jZ,gm,(.farr 7 [fb,fa]),gR,gQ,iK],[(.ref [0,1] 0),Fq,(.v (.int .i64 30))],⟨[],[],rN⟩⟩
theorem Zs:a8 Tryz.prog ke26:=cZ (F:=c0) NG (by kernel_rfl)
def MZ:List Ent:=ke26::M0
theorem NF:∀ e∈MZ,a8 Tryz.prog e:=c9 Zs NG
def YS:D:=(.tup [(.v (.int .i64 2)),(.v (.int .i64 0))])
def ke27:Ent:=⟨17,[],[oy,(.v (.int .i64 1)),(.v (.int .i64 30)),(.v (.int .i64 60))],⟨[],[],YS⟩⟩
theorem Zr:a8 Tryz.prog ke27:=cZ (F:=c0) NF (by kernel_rfl)
def MY:List Ent:=ke27::MZ
theorem ND:∀ e∈MY,a8 Tryz.prog e:=c9 Zr NF
def YR:D:=(.tup [(.v (.int .i64 0)),(.v (.int .i64 0))])
def ke28:Ent:=⟨16,[],[oy,(.v (.int .i64 10)),(.v (.int .i64 40)),(.v (.int .i64 60))],⟨[],[],YR⟩⟩
theorem Zq:a8 Tryz.prog ke28:=cZ (F:=c0) ND (by kernel_rfl)
def MX:List Ent:=ke28::MY
theorem NC:∀ e∈MX,a8 Tryz.prog e:=c9 Zq ND
def ke29:Ent:=⟨80,[jZ,gm,(.farr 7 [fb,fa]),gR,gQ,iK],[(.ref [0,1] 0),Bd,(.v (.int .i64 19))],⟨[],[([601,0],(.arr 1 [(.int .i64 5)]))],(.msl [601,0] 1)⟩⟩
theorem Zp:a8 Tryz.prog ke29:=cZ (F:=c0) NC (by kernel_rfl)
def MV:List Ent:=ke29::MX
theorem NA:∀ e∈MV,a8 Tryz.prog e:=c9 Zp NC
end Go.Eng
