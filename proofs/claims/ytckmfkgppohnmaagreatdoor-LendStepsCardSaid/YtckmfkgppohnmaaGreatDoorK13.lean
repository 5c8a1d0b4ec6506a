import Derived.Test.YtckmfkgppohnmaaGreatDoorK12
import Derived.KernelRfl
/- Texts Sane4 to Sane4. -/
set_option linter.all false
namespace Go.Eng
open Go Go.Proofs
def Tt:D:=(.agg [(.msl [0,1] 1),.nilsl,.nilsl,.nilsl,.nilsl,.nilsl,.nilsl,(.v (.int .i64 0)),(.v (.int .i64 0)),(.v (.int .i64 0)),(.v (.int .i64 0)),(.v (.int .i64 0)),(.v (.int .i64 0)),(.v (.int .i64 1)),(.v (.int .i64 0)),(.v (.int .i64 0)),(.v (.int .i64 0)),(.v (.int .i64 0)),(.v (.int .i64 0))])
def ke23:Ent:=⟨89,[(.arr 1 [(.int .i64 7)])],[(.v (.int .i64 1)),Tt],⟨[],[],(.v (.bool true))⟩⟩
theorem Ub:aR Tryz.prog ke23:=cT (F:=cU) Ja (by kernel_rfl)
def Ix:List Ent:=ke23::Iy
theorem I':∀ e∈Ix,aR Tryz.prog e:=cQ Ub Ja
def Ts:D:=(.agg [(.v (.int .i64 1)),(.msl [0,1] 1),.nilsl,.nilsl,.nilsl,.nilsl,.nilsl,.nilsl,(.v (.int .i64 0)),(.v (.int .i64 0)),(.v (.int .i64 0)),(.v (.int .i64 0)),(.v (.int .i64 0)),(.v (.int .i64 0)),(.v (.int .i64 1)),(.v (.int .i64 0)),(.v (.int .i64 0)),(.v (.int .i64 0)),(.v (.int .i64 0)),(.v (.int .i64 0)),(.v (.int .i64 1)),.nilsl,.nilsl,.nilsl,.nilsl,.nilsl,.nilsl,.nilsl,(.v (.int .i64 0)),(.v (.int .i64 0)),(.v (.int .i64 0)),(.v (.int .i64 0)),(.v (.int .i64 0)),(.v (.int .i64 0)),(.v (.int .i64 0)),(.v (.int .i64 0)),(.v (.int .i64 0)),(.v (.int .i64 0)),(.v (.int .i64 0)),(.v (.int .i64 0)),(.v (.int .i64 947894)),(.v (.int .i64 0)),.nilsl,.nilsl,.nilsl,.nilsl,.nilsl,.nilsl,.nilsl,(.v (.int .i64 0)),(.v (.int .i64 0)),(.v (.int .i64 0)),(.v (.int .i64 0)),(.v (.int .i64 0)),(.v (.int .i64 0)),(.v (.int .i64 0)),(.v (.int .i64 0)),(.v (.int .i64 0)),(.v (.int .i64 0)),(.v (.int .i64 0)),(.v (.int .i64 0)),(.v (.int .i64 493827)),(.v (.int .i64 (-1)))])
def ke24:Ent:=⟨74,[(.arr 1 [(.int .i64 7)])],[Ts],⟨[],[],(.v (.bool true))⟩⟩
theorem Ua:aR Tryz.prog ke24:=cT (F:=cU) I' (by kernel_rfl)
def Iw:List Ent:=ke24::Ix
theorem I9:∀ e∈Iw,aR Tryz.prog e:=cQ Ua I'
def Tr:D:=(.agg [(.v (.int .i64 0)),(.msl [0,1] 2),.nilsl,.nilsl,.nilsl,.nilsl,.nilsl,.nilsl,(.v (.int .i64 0)),(.v (.int .i64 0)),(.v (.int .i64 0)),(.v (.int .i64 0)),(.v (.int .i64 0)),(.v (.int .i64 0)),(.v (.int .i64 0)),(.v (.int .i64 0)),(.v (.int .i64 0)),(.v (.int .i64 0)),(.v (.int .i64 0)),(.v (.int .i64 0)),(.v (.int .i64 1)),(.msl [1,1] 2),.nilsl,.nilsl,.nilsl,.nilsl,.nilsl,.nilsl,(.v (.int .i64 0)),(.v (.int .i64 0)),(.v (.int .i64 0)),(.v (.int .i64 0)),(.v (.int .i64 0)),(.v (.int .i64 0)),(.v (.int .i64 0)),(.v (.int .i64 0)),(.v (.int .i64 0)),(.v (.int .i64 0)),(.v (.int .i64 0)),(.v (.int .i64 0)),(.v (.int .i64 707989)),(.v (.int .i64 2)),(.msl [2,1] 1),.nilsl,(.msl [3,1] 1),.nilsl,.nilsl,.nilsl,.nilsl,(.v (.int .i64 0)),(.v (.int .i64 1)),(.v (.int .i64 0)),(.v (.int .i64 0)),(.v (.int .i64 0)),(.v (.int .i64 0)),(.v (.int .i64 0)),(.v (.int .i64 0)),(.v (.int .i64 0)),(.v (.int .i64 0)),(.v (.int .i64 0)),(.v (.int .i64 0)),(.v (.int .i64 288543)),(.v (.int .i64 (-1)))])
def ke25:Ent:=⟨74,[cF,cF,(.arr 1 [(.int .i64 9)]),(.arr 2 [ct])],[Tr],⟨[],[],(.v (.bool true))⟩⟩
theorem T9:aR Tryz.prog ke25:=cT (F:=cU) I9 (by kernel_rfl)
def Iv:List Ent:=ke25::Iw
theorem I8:∀ e∈Iv,aR Tryz.prog e:=cQ T9 I9
def Tq:D:=(.agg [(.v (.sl [(.int .i64 9)])),(.v (.sl [])),(.v (.sl [ct])),(.v (.sl [])),(.v (.sl [])),(.v (.sl [])),(.v (.sl [])),(.v (.int .i64 0)),(.v (.int .i64 1)),(.v (.int .i64 0)),(.v (.int .i64 0)),(.v (.int .i64 0)),(.v (.int .i64 0)),(.v (.int .i64 0)),(.v (.int .i64 0)),(.v (.int .i64 0)),(.v (.int .i64 0)),(.v (.int .i64 0)),(.v (.int .i64 0))])
def ke26:Ent:=⟨89,[],[(.v (.int .i64 0)),Tq],⟨[],[],(.v (.bool true))⟩⟩
theorem T8:aR Tryz.prog ke26:=cT (F:=cU) I8 (by kernel_rfl)
def Iu:List Ent:=ke26::Iv
theorem I7:∀ e∈Iu,aR Tryz.prog e:=cQ T8 I8
def Tp:D:=(.agg [(.v x9),(.v (.sl [])),(.v (.sl [])),(.v (.sl [])),(.v (.sl [])),(.v (.sl [])),(.v (.sl [])),(.v (.int .i64 0)),(.v (.int .i64 0)),(.v (.int .i64 0)),(.v (.int .i64 0)),(.v (.int .i64 0)),(.v (.int .i64 0)),(.v (.int .i64 0)),(.v (.int .i64 0)),(.v (.int .i64 0)),(.v (.int .i64 0)),(.v (.int .i64 0)),(.v (.int .i64 0))])
def ke27:Ent:=⟨89,[],[(.v (.int .i64 0)),Tp],⟨[],[],(.v (.bool true))⟩⟩
theorem T7:aR Tryz.prog ke27:=cT (F:=cU) I7 (by kernel_rfl)
def It:List Ent:=ke27::Iu
theorem I6:∀ e∈It,aR Tryz.prog e:=cQ T7 I7
def To:D:=(.agg [(.v (.int .i64 0)),(.v (.sl [(.int .i64 9)])),(.v (.sl [])),(.v (.sl [ct])),(.v (.sl [])),(.v (.sl [])),(.v (.sl [])),(.v (.sl [])),(.v (.int .i64 0)),(.v (.int .i64 1)),(.v (.int .i64 0)),(.v (.int .i64 0)),(.v (.int .i64 0)),(.v (.int .i64 0)),(.v (.int .i64 0)),(.v (.int .i64 0)),(.v (.int .i64 0)),(.v (.int .i64 0)),(.v (.int .i64 0)),(.v (.int .i64 0)),(.v (.int .i64 1)),(.v x9),(.v (.sl [])),(.v (.sl [])),(.v (.sl [])),(.v (.sl [])),(.v (.sl [])),(.v (.sl [])),(.v (.int .i64 0)),(.v (.int .i64 0)),(.v (.int .i64 0)),(.v (.int .i64 0)),(.v (.int .i64 0)),(.v (.int .i64 0)),(.v (.int .i64 0)),(.v (.int .i64 0)),(.v (.int .i64 0)),(.v (.int .i64 0)),(.v (.int .i64 0)),(.v (.int .i64 0)),(.v (.int .i64 707989)),(.v (.int .i64 2)),(.v (.sl [(.int .i64 9)])),(.v (.sl [])),(.v (.sl [ct])),(.v (.sl [])),(.v (.sl [])),(.v (.sl [])),(.v (.sl [])),(.v (.int .i64 0)),(.v (.int .i64 1)),(.v (.int .i64 0)),(.v (.int .i64 0)),(.v (.int .i64 0)),(.v (.int .i64 0)),(.v (.int .i64 0)),(.v (.int .i64 0)),(.v (.int .i64 0)),(.v (.int .i64 0)),(.v (.int .i64 0)),(.v (.int .i64 0)),(.v (.int .i64 288542)),(.v (.int .i64 (-1)))])
def ke28:Ent:=⟨74,[],[To],⟨[],[],(.v (.bool true))⟩⟩
theorem T6:aR Tryz.prog ke28:=cT (F:=cU) I6 (by kernel_rfl)
def Is:List Ent:=ke28::It
theorem I5:∀ e∈Is,aR Tryz.prog e:=cQ T6 I6
end Go.Eng
