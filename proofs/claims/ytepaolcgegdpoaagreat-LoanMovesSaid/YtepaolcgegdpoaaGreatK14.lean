import Derived.Test.YtepaolcgegdpoaaGreatK13
import Derived.KernelRfl
/- Texts Sane5 to Sane5. -/
set_option linter.all false
namespace Go.Eng
open Go Go.Proofs
def ke30:Ent:=⟨119,[iV,fw,(.farr 7 [eh,eg]),fS,fR,gu],[(.ref [0,1] 0),vf,(.v (.int .i64 19))],⟨[],[],pE⟩⟩
theorem Ug:aX Tryz.prog ke30:=cJ (F:=cK) I1 (by kernel_rfl)
def Ii:List Ent:=ke30::Ij
theorem I0:∀ e∈Ii,aX Tryz.prog e:=cP Ug I1
def ke31:Ent:=⟨119,[iV,fw,(.farr 7 [eh,eg]),fS,fR,gu],[(.ref [0,1] 0),B5,(.v (.int .i64 19))],⟨[],[],pE⟩⟩
theorem Uf:aX Tryz.prog ke31:=cJ (F:=cK) I0 (by kernel_rfl)
def Ih:List Ent:=ke31::Ii
theorem IZ:∀ e∈Ih,aX Tryz.prog e:=cP Uf I0
def Tu:O:=(.box [(.v (.int .i64 5))])
def HL:V:=(.agg [(.int .i64 1),(.int .i64 1)])
def HK:V:=(.agg [(.int .i64 1),(.int .i64 2)])
def TC:D:=(.tup [(.msl [163,0,171,0,551,0] 2),(.v (.int .i64 0))])
def ke32:Ent:=⟨104,[Tu],[mg,(.v (.int .i64 5)),(.v (.int .i64 19)),(.v (.int .i64 60)),(.clo (.func 105) [] [(.ref [0,1] 0)])],⟨[],[([163,0,171,0,551,0],(.arr 2 [HL,HK]))],TC⟩⟩
theorem Ue:aX Tryz.prog ke32:=cJ (F:=cK) IZ (by kernel_rfl)
def Ig:List Ent:=ke32::Ih
theorem IY:∀ e∈Ig,aX Tryz.prog e:=cP Ue IZ
def HJ:V:=(.sl [(.int .i64 25),(.int .i64 30)])
def ke33:Ent:=⟨118,[fw],[(.ref [0,1] 0),(.v (.int .i64 60)),(.v HJ)],⟨[],[],(.v (.bool true))⟩⟩
theorem Ud:aX Tryz.prog ke33:=cJ (F:=cK) IY (by kernel_rfl)
def If:List Ent:=ke33::Ig
theorem IX:∀ e∈If,aX Tryz.prog e:=cP Ud IY
def ke34:Ent:=⟨119,[iV,fw,(.arr 7 [eh,eg]),fS,fR,gu],[(.ref [0,1] 0),vf,(.v (.int .i64 27))],⟨[],[],pE⟩⟩
theorem Uc:aX Tryz.prog ke34:=cJ (F:=cK) IX (by kernel_rfl)
def Ie:List Ent:=ke34::If
theorem IW:∀ e∈Ie,aX Tryz.prog e:=cP Uc IX
def ke35:Ent:=⟨119,[iV,fw,(.arr 7 [eh,eg]),fS,fR,gu],[(.ref [0,1] 0),B5,(.v (.int .i64 27))],⟨[],[],pE⟩⟩
theorem Ub:aX Tryz.prog ke35:=cJ (F:=cK) IW (by kernel_rfl)
def Ic:List Ent:=ke35::Ie
theorem IV:∀ e∈Ic,aX Tryz.prog e:=cP Ub IW
def Tt:O:=(.arr 1 [(.int .i64 0),(.int .i64 0),(.int .i64 5)])
def TB:D:=(.tup [(.msl [649,0] 3),(.v (.int .i64 0))])
def ke36:Ent:=⟨39,[],[mg,(.v HJ),(.v (.int .i64 1)),(.v (.int .i64 27)),(.v (.int .i64 60))],⟨[],[([649,0],Tt)],TB⟩⟩
theorem Ua:aX Tryz.prog ke36:=cJ (F:=cK) IV (by kernel_rfl)
def Ib:List Ent:=ke36::Ic
theorem IU:∀ e∈Ib,aX Tryz.prog e:=cP Ua IV
def HQ:O:=(.box [(.msl [1,1] 2),(.msl [2,1] 2),(.v (.sl [B2])),(.msl [3,1] 2)])
def Ts:O:=(.box [(.ref [0,1] 0),(.msl [1135,0] 2),(.msl [5192,0] 1),(.map [204,0]),(.map [205,0])])
def Tr:O:=(.map 2 [(HN,(.int .i64 0))])
def Tq:O:=(.map 0 [((.int .i64 0),vd)])
def ke37:Ent:=⟨76,[HQ,(.arr 2 [va,ve]),(.arr 7 [eh,eg]),(.arr 7 [te,qL])],[(.ref [0,1] 0),(.v (.int .i64 60))],⟨[],[([207,0],Ts),([1135,0],(.arr 7 [eh,eg])),([5192,0],(.arr 1 [(.int .i64 0)])),([204,0],Tr),([205,0],Tq)],(.ref [207,0] 0)⟩⟩
theorem T9:aX Tryz.prog ke37:=cJ (F:=cK) IU (by kernel_rfl)
def Ia:List Ent:=ke37::Ib
theorem IT:∀ e∈Ia,aX Tryz.prog e:=cP T9 IU
end Go.Eng
