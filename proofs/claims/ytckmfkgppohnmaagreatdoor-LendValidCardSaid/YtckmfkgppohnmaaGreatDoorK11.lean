import Derived.Test.YtckmfkgppohnmaaGreatDoorK10
import Derived.KernelRfl
/- Texts Sane2 to Sane2. -/
set_option linter.all false
namespace Go.Eng
open Go Go.Proofs
def yH:D:=(.agg [(.v (.int .i64 0)),(.v (.sl [(.int .i64 9)])),.nilsl,(.msl [0,1] 1),.nilsl,.nilsl,.nilsl,.nilsl,(.v (.int .i64 0)),(.v (.int .i64 1)),(.v (.int .i64 0)),(.v (.int .i64 0)),(.v (.int .i64 0)),(.v (.int .i64 0)),(.v (.int .i64 0)),(.v (.int .i64 0)),(.v (.int .i64 0)),(.v (.int .i64 0)),(.v (.int .i64 0)),(.v (.int .i64 0)),(.v (.int .i64 1)),(.msl [1,1] 2),.nilsl,.nilsl,.nilsl,.nilsl,.nilsl,.nilsl,(.v (.int .i64 0)),(.v (.int .i64 0)),(.v (.int .i64 0)),(.v (.int .i64 0)),(.v (.int .i64 0)),(.v (.int .i64 0)),(.v (.int .i64 0)),(.v (.int .i64 0)),(.v (.int .i64 0)),(.v (.int .i64 0)),(.v (.int .i64 0)),(.v (.int .i64 0)),(.v (.int .i64 707989)),(.v (.int .i64 0)),.nilsl,.nilsl,.nilsl,.nilsl,.nilsl,.nilsl,.nilsl,(.v (.int .i64 0)),(.v (.int .i64 0)),(.v (.int .i64 0)),(.v (.int .i64 0)),(.v (.int .i64 0)),(.v (.int .i64 0)),(.v (.int .i64 0)),(.v (.int .i64 0)),(.v (.int .i64 0)),(.v (.int .i64 0)),(.v (.int .i64 0)),(.v (.int .i64 0)),(.v (.int .i64 493827)),(.v (.int .i64 (-1)))])
def ke7:Ent:=⟨74,[(.arr 2 [cp]),cC],[yH],⟨[],[],(.v (.bool true))⟩⟩
theorem U':aT Tryz.prog ke7:=cP (F:=cQ) JE (by kernel_rfl)
def I5:List Ent:=ke7::I6
theorem JD:∀ e∈I5,aT Tryz.prog e:=cS U' JE
def Uw:O:=(.box [(.v (.int .i64 0)),(.msl [70,0,28,0] 1),.nilsl,(.msl [314,0,28,0] 1),.nilsl,.nilsl,.nilsl,.nilsl,(.v (.int .i64 0)),(.v (.int .i64 1)),(.v (.int .i64 0)),(.v (.int .i64 0)),(.v (.int .i64 0)),(.v (.int .i64 0)),(.v (.int .i64 0)),(.v (.int .i64 0)),(.v (.int .i64 0)),(.v (.int .i64 0)),(.v (.int .i64 0)),(.v (.int .i64 0)),(.v (.int .i64 1)),(.msl [70,0,130,0] 2),.nilsl,.nilsl,.nilsl,.nilsl,.nilsl,.nilsl,(.v (.int .i64 0)),(.v (.int .i64 0)),(.v (.int .i64 0)),(.v (.int .i64 0)),(.v (.int .i64 0)),(.v (.int .i64 0)),(.v (.int .i64 0)),(.v (.int .i64 0)),(.v (.int .i64 0)),(.v (.int .i64 0)),(.v (.int .i64 0)),(.v (.int .i64 0)),(.v (.int .i64 707989)),(.v (.int .i64 0)),.nilsl,.nilsl,.nilsl,.nilsl,.nilsl,.nilsl,.nilsl,(.v (.int .i64 0)),(.v (.int .i64 0)),(.v (.int .i64 0)),(.v (.int .i64 0)),(.v (.int .i64 0)),(.v (.int .i64 0)),(.v (.int .i64 0)),(.v (.int .i64 0)),(.v (.int .i64 0)),(.v (.int .i64 0)),(.v (.int .i64 0)),(.v (.int .i64 0)),(.v (.int .i64 493827)),(.v (.int .i64 (-1)))])
def ke8:Ent:=⟨53,[(.arr 2 [cp]),cC],[yH],⟨[(1,cC),(0,(.arr 2 [cp]))],[([298,0],Uw),([70,0,28,0],(.arr 1 [(.int .i64 9)])),([314,0,28,0],(.arr 2 [cp])),([70,0,130,0],cC)],(.ref [298,0] 0)⟩⟩
theorem U9:aT Tryz.prog ke8:=cP (F:=cQ) JD (by kernel_rfl)
def I4:List Ent:=ke8::I5
theorem JC:∀ e∈I4,aT Tryz.prog e:=cS U9 JD
def ke9:Ent:=⟨58,[(.arr 2 [cp]),cC],[yH],⟨[],[],(.v (.int .i64 0))⟩⟩
theorem U8:aT Tryz.prog ke9:=cP (F:=cQ) JC (by kernel_rfl)
def Jz:List Ent:=ke9::I4
theorem J8:∀ e∈Jz,aT Tryz.prog e:=cS U8 JC
def UY:D:=(.agg [(.v (.int .i64 0)),(.msl [70,0,28,0,297,0] 1),.nilsl,(.msl [314,0,28,0,297,0] 1),.nilsl,.nilsl,.nilsl,.nilsl,(.v (.int .i64 0)),(.v (.int .i64 1)),(.v (.int .i64 0)),(.v (.int .i64 0)),(.v (.int .i64 0)),(.v (.int .i64 0)),(.v (.int .i64 0)),(.v (.int .i64 0)),(.v (.int .i64 0)),(.v (.int .i64 0)),(.v (.int .i64 0)),(.v (.int .i64 0)),(.v (.int .i64 1)),(.msl [70,0,130,0,297,0] 2),.nilsl,.nilsl,.nilsl,.nilsl,.nilsl,.nilsl,(.v (.int .i64 0)),(.v (.int .i64 0)),(.v (.int .i64 0)),(.v (.int .i64 0)),(.v (.int .i64 0)),(.v (.int .i64 0)),(.v (.int .i64 0)),(.v (.int .i64 0)),(.v (.int .i64 0)),(.v (.int .i64 0)),(.v (.int .i64 0)),(.v (.int .i64 0)),(.v (.int .i64 707989)),(.v (.int .i64 2)),(.msl [70,0,1015,0] 1),.nilsl,(.msl [314,0,1015,0] 1),.nilsl,.nilsl,.nilsl,.nilsl,(.v (.int .i64 0)),(.v (.int .i64 1)),(.v (.int .i64 0)),(.v (.int .i64 0)),(.v (.int .i64 0)),(.v (.int .i64 0)),(.v (.int .i64 0)),(.v (.int .i64 0)),(.v (.int .i64 0)),(.v (.int .i64 0)),(.v (.int .i64 0)),(.v (.int .i64 0)),(.v (.int .i64 288542)),(.v (.int .i64 1))])
def UX:D:=(.tup [UY,(.v (.int .i64 0))])
def ke10:Ent:=⟨10,[(.arr 2 [cp]),cC],[yH],⟨[(1,cC),(0,(.arr 2 [cp]))],[([70,0,28,0,297,0],(.arr 1 [(.int .i64 9)])),([314,0,28,0,297,0],(.arr 2 [cp])),([70,0,130,0,297,0],cC),([70,0,1015,0],(.arr 1 [(.int .i64 9)])),([314,0,1015,0],(.arr 2 [cp]))],UX⟩⟩
theorem VE:aT Tryz.prog ke10:=cP (F:=cQ) J8 (by kernel_rfl)
def Jy:List Ent:=ke10::Jz
theorem J7:∀ e∈Jy,aT Tryz.prog e:=cS VE J8
def UW:D:=(.agg [(.msl [0,1] 1),.nilsl,(.msl [1,1] 1),.nilsl,.nilsl,.nilsl,.nilsl,(.v (.int .i64 0)),(.v (.int .i64 1)),(.v (.int .i64 0)),(.v (.int .i64 0)),(.v (.int .i64 0)),(.v (.int .i64 0)),(.v (.int .i64 0)),(.v (.int .i64 0)),(.v (.int .i64 0)),(.v (.int .i64 0)),(.v (.int .i64 0)),(.v (.int .i64 0))])
def ke11:Ent:=⟨89,[(.arr 1 [(.int .i64 9)]),(.arr 2 [cp])],[(.v (.int .i64 0)),UW],⟨[],[],(.v (.bool true))⟩⟩
theorem VD:aT Tryz.prog ke11:=cP (F:=cQ) J7 (by kernel_rfl)
def Jx:List Ent:=ke11::Jy
theorem J6:∀ e∈Jx,aT Tryz.prog e:=cS VD J7
def yG:D:=(.agg [(.v (.int .i64 0)),(.msl [0,1] 1),.nilsl,(.msl [1,1] 1),.nilsl,.nilsl,.nilsl,.nilsl,(.v (.int .i64 0)),(.v (.int .i64 1)),(.v (.int .i64 0)),(.v (.int .i64 0)),(.v (.int .i64 0)),(.v (.int .i64 0)),(.v (.int .i64 0)),(.v (.int .i64 0)),(.v (.int .i64 0)),(.v (.int .i64 0)),(.v (.int .i64 0)),(.v (.int .i64 0)),(.v (.int .i64 1)),(.msl [2,1] 2),.nilsl,.nilsl,.nilsl,.nilsl,.nilsl,.nilsl,(.v (.int .i64 0)),(.v (.int .i64 0)),(.v (.int .i64 0)),(.v (.int .i64 0)),(.v (.int .i64 0)),(.v (.int .i64 0)),(.v (.int .i64 0)),(.v (.int .i64 0)),(.v (.int .i64 0)),(.v (.int .i64 0)),(.v (.int .i64 0)),(.v (.int .i64 0)),(.v (.int .i64 707989)),(.v (.int .i64 2)),(.msl [3,1] 1),.nilsl,(.msl [4,1] 1),.nilsl,.nilsl,.nilsl,.nilsl,(.v (.int .i64 0)),(.v (.int .i64 1)),(.v (.int .i64 0)),(.v (.int .i64 0)),(.v (.int .i64 0)),(.v (.int .i64 0)),(.v (.int .i64 0)),(.v (.int .i64 0)),(.v (.int .i64 0)),(.v (.int .i64 0)),(.v (.int .i64 0)),(.v (.int .i64 0)),(.v (.int .i64 288542)),(.v (.int .i64 1))])
def ke12:Ent:=⟨74,[(.arr 1 [(.int .i64 9)]),(.arr 2 [cp]),cC,(.arr 1 [(.int .i64 9)]),(.arr 2 [cp])],[yG],⟨[],[],(.v (.bool true))⟩⟩
theorem VC:aT Tryz.prog ke12:=cP (F:=cQ) J6 (by kernel_rfl)
def Jw:List Ent:=ke12::Jx
theorem J5:∀ e∈Jw,aT Tryz.prog e:=cS VC J6
def UU:D:=(.agg [(.v (.int .i64 0)),(.v (.int .i64 1)),.nilsl,(.v (.int .i64 0))])
def UT:D:=(.tup [UU,(.v (.int .i64 0))])
def ke13:Ent:=⟨26,[(.arr 1 [(.int .i64 9)]),(.arr 2 [cp]),cC,(.arr 1 [(.int .i64 9)]),(.arr 2 [cp])],[yG,(.v (.int .i64 1))],⟨[],[],UT⟩⟩
theorem VB:aT Tryz.prog ke13:=cP (F:=cQ) J5 (by kernel_rfl)
def Jv:List Ent:=ke13::Jw
theorem J4:∀ e∈Jv,aT Tryz.prog e:=cS VB J5
def Uv:O:=(.box [(.v (.int .i64 0)),(.msl [70,0,28,0] 1),.nilsl,(.msl [314,0,28,0] 1),.nilsl,.nilsl,.nilsl,.nilsl,(.v (.int .i64 0)),(.v (.int .i64 1)),(.v (.int .i64 0)),(.v (.int .i64 0)),(.v (.int .i64 0)),(.v (.int .i64 0)),(.v (.int .i64 0)),(.v (.int .i64 0)),(.v (.int .i64 0)),(.v (.int .i64 0)),(.v (.int .i64 0)),(.v (.int .i64 0)),(.v (.int .i64 1)),(.msl [70,0,130,0] 2),.nilsl,.nilsl,.nilsl,.nilsl,.nilsl,.nilsl,(.v (.int .i64 0)),(.v (.int .i64 0)),(.v (.int .i64 0)),(.v (.int .i64 0)),(.v (.int .i64 0)),(.v (.int .i64 0)),(.v (.int .i64 0)),(.v (.int .i64 0)),(.v (.int .i64 0)),(.v (.int .i64 0)),(.v (.int .i64 0)),(.v (.int .i64 0)),(.v (.int .i64 707989)),(.v (.int .i64 2)),(.msl [70,0,222,0] 1),.nilsl,(.msl [314,0,222,0] 1),.nilsl,.nilsl,.nilsl,.nilsl,(.v (.int .i64 0)),(.v (.int .i64 1)),(.v (.int .i64 0)),(.v (.int .i64 0)),(.v (.int .i64 0)),(.v (.int .i64 0)),(.v (.int .i64 0)),(.v (.int .i64 0)),(.v (.int .i64 0)),(.v (.int .i64 0)),(.v (.int .i64 0)),(.v (.int .i64 0)),(.v (.int .i64 288542)),(.v (.int .i64 1))])
def ke14:Ent:=⟨53,[(.arr 1 [(.int .i64 9)]),(.arr 2 [cp]),cC,(.arr 1 [(.int .i64 9)]),(.arr 2 [cp])],[yG],⟨[(4,(.arr 2 [cp])),(3,(.arr 1 [(.int .i64 9)])),(2,cC),(1,(.arr 2 [cp])),(0,(.arr 1 [(.int .i64 9)]))],[([298,0],Uv),([70,0,28,0],(.arr 1 [(.int .i64 9)])),([314,0,28,0],(.arr 2 [cp])),([70,0,130,0],cC),([70,0,222,0],(.arr 1 [(.int .i64 9)])),([314,0,222,0],(.arr 2 [cp]))],(.ref [298,0] 0)⟩⟩
theorem VA:aT Tryz.prog ke14:=cP (F:=cQ) J4 (by kernel_rfl)
def Ju:List Ent:=ke14::Jv
theorem J3:∀ e∈Ju,aT Tryz.prog e:=cS VA J4
end Go.Eng
