import Derived.Test.YtepaolcgegdpoaaGreatK13
import Derived.KernelRfl
/- Texts Sane5 to Sane5. -/
set_option linter.all false
namespace Go.Eng
open Go Go.Proofs
def ke30:Ent:=⟨119,[jr,fH,(.farr 7 [eF,eE]),gl,gk,gU],[(.ref [0,1] 0),wP,(.v (.int .i64 19))],⟨[],[],qp⟩⟩
theorem V2:aW Tryz.prog ke30:=cJ (F:=cK) Lk (by kernel_rfl)
def Ku:List Ent:=ke30::Kv
theorem Lj:∀ e∈Ku,aW Tryz.prog e:=cP V2 Lk
def ke31:Ent:=⟨119,[jr,fH,(.farr 7 [eF,eE]),gl,gk,gU],[(.ref [0,1] 0),DB,(.v (.int .i64 19))],⟨[],[],qp⟩⟩
theorem V1:aW Tryz.prog ke31:=cJ (F:=cK) Lj (by kernel_rfl)
def Kt:List Ent:=ke31::Ku
theorem Li:∀ e∈Kt,aW Tryz.prog e:=cP V1 Lj
def Vl:O:=(.box [(.v (.int .i64 5))])
def J2:V:=(.agg [(.int .i64 1),(.int .i64 1)])
def J1:V:=(.agg [(.int .i64 1),(.int .i64 2)])
def Vt:D:=(.tup [(.msl [163,0,171,0,551,0] 2),(.v (.int .i64 0))])
def ke32:Ent:=⟨104,[Vl],[nk,(.v (.int .i64 5)),(.v (.int .i64 19)),(.v (.int .i64 60)),(.clo (.func 105) [] [(.ref [0,1] 0)])],⟨[],[([163,0,171,0,551,0],(.arr 2 [J2,J1]))],Vt⟩⟩
theorem V0:aW Tryz.prog ke32:=cJ (F:=cK) Li (by kernel_rfl)
def Ks:List Ent:=ke32::Kt
theorem Lh:∀ e∈Ks,aW Tryz.prog e:=cP V0 Li
def J0:V:=(.sl [(.int .i64 25),(.int .i64 30)])
def ke33:Ent:=⟨118,[fH],[(.ref [0,1] 0),(.v (.int .i64 60)),(.v J0)],⟨[],[],(.v (.bool true))⟩⟩
theorem VZ:aW Tryz.prog ke33:=cJ (F:=cK) Lh (by kernel_rfl)
def Kr:List Ent:=ke33::Ks
theorem Lg:∀ e∈Kr,aW Tryz.prog e:=cP VZ Lh
def ke34:Ent:=⟨119,[jr,fH,(.arr 7 [eF,eE]),gl,gk,gU],[(.ref [0,1] 0),wP,(.v (.int .i64 27))],⟨[],[],qp⟩⟩
theorem VY:aW Tryz.prog ke34:=cJ (F:=cK) Lg (by kernel_rfl)
def Kq:List Ent:=ke34::Kr
theorem Lf:∀ e∈Kq,aW Tryz.prog e:=cP VY Lg
def ke35:Ent:=⟨119,[jr,fH,(.arr 7 [eF,eE]),gl,gk,gU],[(.ref [0,1] 0),DB,(.v (.int .i64 27))],⟨[],[],qp⟩⟩
theorem VX:aW Tryz.prog ke35:=cJ (F:=cK) Lf (by kernel_rfl)
def Kp:List Ent:=ke35::Kq
theorem Le:∀ e∈Kp,aW Tryz.prog e:=cP VX Lf
def Vk:O:=(.arr 1 [(.int .i64 0),(.int .i64 0),(.int .i64 5)])
def Vs:D:=(.tup [(.msl [649,0] 3),(.v (.int .i64 0))])
def ke36:Ent:=⟨39,[],[nk,(.v J0),(.v (.int .i64 1)),(.v (.int .i64 27)),(.v (.int .i64 60))],⟨[],[([649,0],Vk)],Vs⟩⟩
theorem VW:aW Tryz.prog ke36:=cJ (F:=cK) Le (by kernel_rfl)
def Ko:List Ent:=ke36::Kp
theorem Ld:∀ e∈Ko,aW Tryz.prog e:=cP VW Le
def J7:O:=(.box [(.msl [1,1] 2),(.msl [2,1] 2),(.v (.sl [Dy])),(.msl [3,1] 2)])
def Vj:O:=(.box [(.ref [0,1] 0),(.msl [1135,0] 2),(.msl [5192,0] 1),(.map [204,0]),(.map [205,0])])
def Vi:O:=(.map 2 [(J4,(.int .i64 0))])
def Vh:O:=(.map 0 [((.int .i64 0),wN)])
def ke37:Ent:=⟨76,[J7,(.arr 2 [wM,wO]),(.arr 7 [eF,eE]),(.arr 7 [uO,r9])],[(.ref [0,1] 0),(.v (.int .i64 60))],⟨[],[([207,0],Vj),([1135,0],(.arr 7 [eF,eE])),([5192,0],(.arr 1 [(.int .i64 0)])),([204,0],Vi),([205,0],Vh)],(.ref [207,0] 0)⟩⟩
theorem VV:aW Tryz.prog ke37:=cJ (F:=cK) Ld (by kernel_rfl)
def Kn:List Ent:=ke37::Ko
theorem Lc:∀ e∈Kn,aW Tryz.prog e:=cP VV Ld
end Go.Eng
