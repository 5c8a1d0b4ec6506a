import Derived.Test.YtckmfkgppohnmaaGreatDoorK10
import Derived.KernelRfl
/- Texts Sane2 to Sane2. -/
set_option linter.all false
namespace Go.Eng
open Go Go.Proofs
def yb:D:=(.agg [(.v (.int .i64 0)),(.v (.sl [(.int .i64 9)])),.nilsl,(.msl [0,1] 1),.nilsl,.nilsl,.nilsl,.nilsl,(.v (.int .i64 0)),(.v (.int .i64 1)),(.v (.int .i64 0)),(.v (.int .i64 0)),(.v (.int .i64 0)),(.v (.int .i64 0)),(.v (.int .i64 0)),(.v (.int .i64 0)),(.v (.int .i64 0)),(.v (.int .i64 0)),(.v (.int .i64 0)),(.v (.int .i64 0)),(.v (.int .i64 1)),(.msl [1,1] 2),.nilsl,.nilsl,.nilsl,.nilsl,.nilsl,.nilsl,(.v (.int .i64 0)),(.v (.int .i64 0)),(.v (.int .i64 0)),(.v (.int .i64 0)),(.v (.int .i64 0)),(.v (.int .i64 0)),(.v (.int .i64 0)),(.v (.int .i64 0)),(.v (.int .i64 0)),(.v (.int .i64 0)),(.v (.int .i64 0)),(.v (.int .i64 0)),(.v (.int .i64 707989)),(.v (.int .i64 0)),.nilsl,.nilsl,.nilsl,.nilsl,.nilsl,.nilsl,.nilsl,(.v (.int .i64 0)),(.v (.int .i64 0)),(.v (.int .i64 0)),(.v (.int .i64 0)),(.v (.int .i64 0)),(.v (.int .i64 0)),(.v (.int .i64 0)),(.v (.int .i64 0)),(.v (.int .i64 0)),(.v (.int .i64 0)),(.v (.int .i64 0)),(.v (.int .i64 0)),(.v (.int .i64 493827)),(.v (.int .i64 (-1)))])
def ke7:Ent:=⟨74,[(.arr 2 [ct]),cF],[yb],⟨[],[],(.v (.bool true))⟩⟩
theorem TS:aR Tryz.prog ke7:=cT (F:=cU) IU (by kernel_rfl)
def If:List Ent:=ke7::Ig
theorem IT:∀ e∈If,aR Tryz.prog e:=cQ TS IU
def Tf:O:=(.box [(.v (.int .i64 0)),(.msl [70,0,28,0] 1),.nilsl,(.msl [314,0,28,0] 1),.nilsl,.nilsl,.nilsl,.nilsl,(.v (.int .i64 0)),(.v (.int .i64 1)),(.v (.int .i64 0)),(.v (.int .i64 0)),(.v (.int .i64 0)),(.v (.int .i64 0)),(.v (.int .i64 0)),(.v (.int .i64 0)),(.v (.int .i64 0)),(.v (.int .i64 0)),(.v (.int .i64 0)),(.v (.int .i64 0)),(.v (.int .i64 1)),(.msl [70,0,130,0] 2),.nilsl,.nilsl,.nilsl,.nilsl,.nilsl,.nilsl,(.v (.int .i64 0)),(.v (.int .i64 0)),(.v (.int .i64 0)),(.v (.int .i64 0)),(.v (.int .i64 0)),(.v (.int .i64 0)),(.v (.int .i64 0)),(.v (.int .i64 0)),(.v (.int .i64 0)),(.v (.int .i64 0)),(.v (.int .i64 0)),(.v (.int .i64 0)),(.v (.int .i64 707989)),(.v (.int .i64 0)),.nilsl,.nilsl,.nilsl,.nilsl,.nilsl,.nilsl,.nilsl,(.v (.int .i64 0)),(.v (.int .i64 0)),(.v (.int .i64 0)),(.v (.int .i64 0)),(.v (.int .i64 0)),(.v (.int .i64 0)),(.v (.int .i64 0)),(.v (.int .i64 0)),(.v (.int .i64 0)),(.v (.int .i64 0)),(.v (.int .i64 0)),(.v (.int .i64 0)),(.v (.int .i64 493827)),(.v (.int .i64 (-1)))])
def ke8:Ent:=⟨53,[(.arr 2 [ct]),cF],[yb],⟨[(1,cF),(0,(.arr 2 [ct]))],[([298,0],Tf),([70,0,28,0],(.arr 1 [(.int .i64 9)])),([314,0,28,0],(.arr 2 [ct])),([70,0,130,0],cF)],(.ref [298,0] 0)⟩⟩
theorem TR:aR Tryz.prog ke8:=cT (F:=cU) IT (by kernel_rfl)
def Ie:List Ent:=ke8::If
theorem IS:∀ e∈Ie,aR Tryz.prog e:=cQ TR IT
def ke9:Ent:=⟨58,[(.arr 2 [ct]),cF],[yb],⟨[],[],(.v (.int .i64 0))⟩⟩
theorem TQ:aR Tryz.prog ke9:=cT (F:=cU) IS (by kernel_rfl)
def IM:List Ent:=ke9::Ie
theorem Jo:∀ e∈IM,aR Tryz.prog e:=cQ TQ IS
def TG:D:=(.agg [(.v (.int .i64 0)),(.msl [70,0,28,0,297,0] 1),.nilsl,(.msl [314,0,28,0,297,0] 1),.nilsl,.nilsl,.nilsl,.nilsl,(.v (.int .i64 0)),(.v (.int .i64 1)),(.v (.int .i64 0)),(.v (.int .i64 0)),(.v (.int .i64 0)),(.v (.int .i64 0)),(.v (.int .i64 0)),(.v (.int .i64 0)),(.v (.int .i64 0)),(.v (.int .i64 0)),(.v (.int .i64 0)),(.v (.int .i64 0)),(.v (.int .i64 1)),(.msl [70,0,130,0,297,0] 2),.nilsl,.nilsl,.nilsl,.nilsl,.nilsl,.nilsl,(.v (.int .i64 0)),(.v (.int .i64 0)),(.v (.int .i64 0)),(.v (.int .i64 0)),(.v (.int .i64 0)),(.v (.int .i64 0)),(.v (.int .i64 0)),(.v (.int .i64 0)),(.v (.int .i64 0)),(.v (.int .i64 0)),(.v (.int .i64 0)),(.v (.int .i64 0)),(.v (.int .i64 707989)),(.v (.int .i64 2)),(.msl [70,0,1015,0] 1),.nilsl,(.msl [314,0,1015,0] 1),.nilsl,.nilsl,.nilsl,.nilsl,(.v (.int .i64 0)),(.v (.int .i64 1)),(.v (.int .i64 0)),(.v (.int .i64 0)),(.v (.int .i64 0)),(.v (.int .i64 0)),(.v (.int .i64 0)),(.v (.int .i64 0)),(.v (.int .i64 0)),(.v (.int .i64 0)),(.v (.int .i64 0)),(.v (.int .i64 0)),(.v (.int .i64 288542)),(.v (.int .i64 1))])
def TF:D:=(.tup [TG,(.v (.int .i64 0))])
def ke10:Ent:=⟨10,[(.arr 2 [ct]),cF],[yb],⟨[(1,cF),(0,(.arr 2 [ct]))],[([70,0,28,0,297,0],(.arr 1 [(.int .i64 9)])),([314,0,28,0,297,0],(.arr 2 [ct])),([70,0,130,0,297,0],cF),([70,0,1015,0],(.arr 1 [(.int .i64 9)])),([314,0,1015,0],(.arr 2 [ct]))],TF⟩⟩
theorem Up:aR Tryz.prog ke10:=cT (F:=cU) Jo (by kernel_rfl)
def IL:List Ent:=ke10::IM
theorem Jn:∀ e∈IL,aR Tryz.prog e:=cQ Up Jo
def TE:D:=(.agg [(.msl [0,1] 1),.nilsl,(.msl [1,1] 1),.nilsl,.nilsl,.nilsl,.nilsl,(.v (.int .i64 0)),(.v (.int .i64 1)),(.v (.int .i64 0)),(.v (.int .i64 0)),(.v (.int .i64 0)),(.v (.int .i64 0)),(.v (.int .i64 0)),(.v (.int .i64 0)),(.v (.int .i64 0)),(.v (.int .i64 0)),(.v (.int .i64 0)),(.v (.int .i64 0))])
def ke11:Ent:=⟨89,[(.arr 1 [(.int .i64 9)]),(.arr 2 [ct])],[(.v (.int .i64 0)),TE],⟨[],[],(.v (.bool true))⟩⟩
theorem Uo:aR Tryz.prog ke11:=cT (F:=cU) Jn (by kernel_rfl)
def IK:List Ent:=ke11::IL
theorem Jm:∀ e∈IK,aR Tryz.prog e:=cQ Uo Jn
def ya:D:=(.agg [(.v (.int .i64 0)),(.msl [0,1] 1),.nilsl,(.msl [1,1] 1),.nilsl,.nilsl,.nilsl,.nilsl,(.v (.int .i64 0)),(.v (.int .i64 1)),(.v (.int .i64 0)),(.v (.int .i64 0)),(.v (.int .i64 0)),(.v (.int .i64 0)),(.v (.int .i64 0)),(.v (.int .i64 0)),(.v (.int .i64 0)),(.v (.int .i64 0)),(.v (.int .i64 0)),(.v (.int .i64 0)),(.v (.int .i64 1)),(.msl [2,1] 2),.nilsl,.nilsl,.nilsl,.nilsl,.nilsl,.nilsl,(.v (.int .i64 0)),(.v (.int .i64 0)),(.v (.int .i64 0)),(.v (.int .i64 0)),(.v (.int .i64 0)),(.v (.int .i64 0)),(.v (.int .i64 0)),(.v (.int .i64 0)),(.v (.int .i64 0)),(.v (.int .i64 0)),(.v (.int .i64 0)),(.v (.int .i64 0)),(.v (.int .i64 707989)),(.v (.int .i64 2)),(.msl [3,1] 1),.nilsl,(.msl [4,1] 1),.nilsl,.nilsl,.nilsl,.nilsl,(.v (.int .i64 0)),(.v (.int .i64 1)),(.v (.int .i64 0)),(.v (.int .i64 0)),(.v (.int .i64 0)),(.v (.int .i64 0)),(.v (.int .i64 0)),(.v (.int .i64 0)),(.v (.int .i64 0)),(.v (.int .i64 0)),(.v (.int .i64 0)),(.v (.int .i64 0)),(.v (.int .i64 288542)),(.v (.int .i64 1))])
def ke12:Ent:=⟨74,[(.arr 1 [(.int .i64 9)]),(.arr 2 [ct]),cF,(.arr 1 [(.int .i64 9)]),(.arr 2 [ct])],[ya],⟨[],[],(.v (.bool true))⟩⟩
theorem Un:aR Tryz.prog ke12:=cT (F:=cU) Jm (by kernel_rfl)
def IJ:List Ent:=ke12::IK
theorem Jl:∀ e∈IJ,aR Tryz.prog e:=cQ Un Jm
def TD:D:=(.agg [(.v (.int .i64 0)),(.v (.int .i64 1)),.nilsl,(.v (.int .i64 0))])
def TC:D:=(.tup [TD,(.v (.int .i64 0))])
def ke13:Ent:=⟨26,[(.arr 1 [(.int .i64 9)]),(.arr 2 [ct]),cF,(.arr 1 [(.int .i64 9)]),(.arr 2 [ct])],[ya,(.v (.int .i64 1))],⟨[],[],TC⟩⟩
theorem Um:aR Tryz.prog ke13:=cT (F:=cU) Jl (by kernel_rfl)
def II:List Ent:=ke13::IJ
theorem Jk:∀ e∈II,aR Tryz.prog e:=cQ Um Jl
def Te:O:=(.box [(.v (.int .i64 0)),(.msl [70,0,28,0] 1),.nilsl,(.msl [314,0,28,0] 1),.nilsl,.nilsl,.nilsl,.nilsl,(.v (.int .i64 0)),(.v (.int .i64 1)),(.v (.int .i64 0)),(.v (.int .i64 0)),(.v (.int .i64 0)),(.v (.int .i64 0)),(.v (.int .i64 0)),(.v (.int .i64 0)),(.v (.int .i64 0)),(.v (.int .i64 0)),(.v (.int .i64 0)),(.v (.int .i64 0)),(.v (.int .i64 1)),(.msl [70,0,130,0] 2),.nilsl,.nilsl,.nilsl,.nilsl,.nilsl,.nilsl,(.v (.int .i64 0)),(.v (.int .i64 0)),(.v (.int .i64 0)),(.v (.int .i64 0)),(.v (.int .i64 0)),(.v (.int .i64 0)),(.v (.int .i64 0)),(.v (.int .i64 0)),(.v (.int .i64 0)),(.v (.int .i64 0)),(.v (.int .i64 0)),(.v (.int .i64 0)),(.v (.int .i64 707989)),(.v (.int .i64 2)),(.msl [70,0,222,0] 1),.nilsl,(.msl [314,0,222,0] 1),.nilsl,.nilsl,.nilsl,.nilsl,(.v (.int .i64 0)),(.v (.int .i64 1)),(.v (.int .i64 0)),(.v (.int .i64 0)),(.v (.int .i64 0)),(.v (.int .i64 0)),(.v (.int .i64 0)),(.v (.int .i64 0)),(.v (.int .i64 0)),(.v (.int .i64 0)),(.v (.int .i64 0)),(.v (.int .i64 0)),(.v (.int .i64 288542)),(.v (.int .i64 1))])
def ke14:Ent:=⟨53,[(.arr 1 [(.int .i64 9)]),(.arr 2 [ct]),cF,(.arr 1 [(.int .i64 9)]),(.arr 2 [ct])],[ya],⟨[(4,(.arr 2 [ct])),(3,(.arr 1 [(.int .i64 9)])),(2,cF),(1,(.arr 2 [ct])),(0,(.arr 1 [(.int .i64 9)]))],[([298,0],Te),([70,0,28,0],(.arr 1 [(.int .i64 9)])),([314,0,28,0],(.arr 2 [ct])),([70,0,130,0],cF),([70,0,222,0],(.arr 1 [(.int .i64 9)])),([314,0,222,0],(.arr 2 [ct]))],(.ref [298,0] 0)⟩⟩
theorem Ul:aR Tryz.prog ke14:=cT (F:=cU) Jk (by kernel_rfl)
def IH:List Ent:=ke14::II
theorem Jj:∀ e∈IH,aR Tryz.prog e:=cQ Ul Jk
end Go.Eng
