import Derived.Test.YtepaolcgegdpoaaGreatK12
import Derived.KernelRfl
/- Texts Sane4 to Sane4. -/
set_option linter.all false
namespace Go.Eng
open Go Go.Proofs
def ke21:Ent:=⟨78,[fz],[(.ref [0,1] 0),(.v (.int .i64 60))],⟨[],[([207,0,30,0,35,0],Ib),([1135,0,30,0,35,0],(.farr 7 [eg,ef])),([5916,0,30,0,35,0],fU),([204,0,30,0,35,0],fT),([205,0,30,0,35,0],gD)],Ic⟩⟩
theorem TE:aV Tryz.prog ke21:=cF (F:=cG) Jq (by kernel_rfl)
def IJ:List Ent:=ke21::IK
theorem Jp:∀ e∈IJ,aV Tryz.prog e:=cL TE Jq
def xK:D:=(.agg [(.v (.int .i64 1)),(.v (.int .i64 1))])
def BA:O:=(.arr 1 [(.int .i64 0),(.int .i64 5)])
def ke22:Ent:=⟨80,[iY,fz,(.farr 7 [eg,ef]),fU,fT,gD],[(.ref [0,1] 0),xK,(.v (.int .i64 24))],⟨[],[([520,0],BA)],(.msl [520,0] 2)⟩⟩
theorem TD:aV Tryz.prog ke22:=cF (F:=cG) Jp (by kernel_rfl)
def II:List Ent:=ke22::IJ
theorem Jo:∀ e∈II,aV Tryz.prog e:=cL TD Jp
def S1:D:=(.tup [(.msl [520,0,279,0] 2),(.v (.int .i64 0))])
def ke23:Ent:=⟨23,[],[mo,xK,(.v (.int .i64 24)),(.v (.int .i64 60))],⟨[],[([520,0,279,0],BA)],S1⟩⟩
theorem TC:aV Tryz.prog ke23:=cF (F:=cG) Jo (by kernel_rfl)
def IH:List Ent:=ke23::II
theorem Jn:∀ e∈IH,aV Tryz.prog e:=cL TC Jo
def ke24:Ent:=⟨80,[iY,fz,(.farr 7 [eg,ef]),fU,fT,gD],[(.ref [0,1] 0),xK,(.v (.int .i64 30))],⟨[],[([520,0],BA)],(.msl [520,0] 2)⟩⟩
theorem TB:aV Tryz.prog ke24:=cF (F:=cG) Jn (by kernel_rfl)
def IG:List Ent:=ke24::IH
theorem Jm:∀ e∈IG,aV Tryz.prog e:=cL TB Jn
def ke25:Ent:=⟨119,[iY,fz,(.farr 7 [eg,ef]),fU,fT,gD],[(.ref [0,1] 0),vz,(.v (.int .i64 30))],⟨[],[],pT⟩⟩
theorem TA:aV Tryz.prog ke25:=cF (F:=cG) Jm (by kernel_rfl)
def IF:List Ent:=ke25::IG
theorem Jl:∀ e∈IF,aV Tryz.prog e:=cL TA Jm
def BC:D:=(.agg [(.v (.int .i64 1)),(.v (.int .i64 3))])
def ke26:Ent:=⟨119,[iY,fz,(.farr 7 [eg,ef]),fU,fT,gD],[(.ref [0,1] 0),BC,(.v (.int .i64 30))],⟨[],[],pT⟩⟩
theorem Tz:aV Tryz.prog ke26:=cF (F:=cG) Jl (by kernel_rfl)
def IE:List Ent:=ke26::IF
theorem Jk:∀ e∈IE,aV Tryz.prog e:=cL Tz Jl
def SZ:D:=(.tup [(.v (.int .i64 2)),(.v (.int .i64 0))])
def ke27:Ent:=⟨17,[],[mo,(.v (.int .i64 1)),(.v (.int .i64 30)),(.v (.int .i64 60))],⟨[],[],SZ⟩⟩
theorem Ty:aV Tryz.prog ke27:=cF (F:=cG) Jk (by kernel_rfl)
def ID:List Ent:=ke27::IE
theorem Jj:∀ e∈ID,aV Tryz.prog e:=cL Ty Jk
def SY:D:=(.tup [(.v (.int .i64 0)),(.v (.int .i64 0))])
def ke28:Ent:=⟨16,[],[mo,(.v (.int .i64 10)),(.v (.int .i64 40)),(.v (.int .i64 60))],⟨[],[],SY⟩⟩
theorem Tx:aV Tryz.prog ke28:=cF (F:=cG) Jj (by kernel_rfl)
def IC:List Ent:=ke28::ID
theorem Ji:∀ e∈IC,aV Tryz.prog e:=cL Tx Jj
def ke29:Ent:=⟨80,[iY,fz,(.farr 7 [eg,ef]),fU,fT,gD],[(.ref [0,1] 0),xK,(.v (.int .i64 19))],⟨[],[([601,0],(.arr 1 [(.int .i64 5)]))],(.msl [601,0] 1)⟩⟩
theorem Tw:aV Tryz.prog ke29:=cF (F:=cG) Ji (by kernel_rfl)
def IA:List Ent:=ke29::IC
theorem Jg:∀ e∈IA,aV Tryz.prog e:=cL Tw Ji
end Go.Eng
