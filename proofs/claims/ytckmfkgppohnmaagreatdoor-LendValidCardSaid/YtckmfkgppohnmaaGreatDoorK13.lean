import Derived.Test.YtckmfkgppohnmaaGreatDoorK12
import Derived.KernelRfl
/- Texts Sane4 to Sane4. -/
set_option linter.all false
namespace Go.Eng
open Go Go.Proofs
def UK:D:=(.agg [(.msl [0,1] 1),.nilsl,.nilsl,.nilsl,.nilsl,.nilsl,.nilsl,(.v (.int .i64 0)),(.v (.int .i64 0)),(.v (.int .i64 0)),(.v (.int .i64 0)),(.v (.int .i64 0)),(.v (.int .i64 0)),(.v (.int .i64 1)),(.v (.int .i64 0)),(.v (.int .i64 0)),(.v (.int .i64 0)),(.v (.int .i64 0)),(.v (.int .i64 0))])
def ke23:Ent:=⟨89,[(.arr 1 [(.int .i64 7)])],[(.v (.int .i64 1)),UK],⟨[],[],(.v (.bool true))⟩⟩
theorem Vq:aT Tryz.prog ke23:=cP (F:=cQ) JU (by kernel_rfl)
def Jk:List Ent:=ke23::Jl
theorem JT:∀ e∈Jk,aT Tryz.prog e:=cS Vq JU
def UJ:D:=(.agg [(.v (.int .i64 1)),(.msl [0,1] 1),.nilsl,.nilsl,.nilsl,.nilsl,.nilsl,.nilsl,(.v (.int .i64 0)),(.v (.int .i64 0)),(.v (.int .i64 0)),(.v (.int .i64 0)),(.v (.int .i64 0)),(.v (.int .i64 0)),(.v (.int .i64 1)),(.v (.int .i64 0)),(.v (.int .i64 0)),(.v (.int .i64 0)),(.v (.int .i64 0)),(.v (.int .i64 0)),(.v (.int .i64 1)),.nilsl,.nilsl,.nilsl,.nilsl,.nilsl,.nilsl,.nilsl,(.v (.int .i64 0)),(.v (.int .i64 0)),(.v (.int .i64 0)),(.v (.int .i64 0)),(.v (.int .i64 0)),(.v (.int .i64 0)),(.v (.int .i64 0)),(.v (.int .i64 0)),(.v (.int .i64 0)),(.v (.int .i64 0)),(.v (.int .i64 0)),(.v (.int .i64 0)),(.v (.int .i64 947894)),(.v (.int .i64 0)),.nilsl,.nilsl,.nilsl,.nilsl,.nilsl,.nilsl,.nilsl,(.v (.int .i64 0)),(.v (.int .i64 0)),(.v (.int .i64 0)),(.v (.int .i64 0)),(.v (.int .i64 0)),(.v (.int .i64 0)),(.v (.int .i64 0)),(.v (.int .i64 0)),(.v (.int .i64 0)),(.v (.int .i64 0)),(.v (.int .i64 0)),(.v (.int .i64 0)),(.v (.int .i64 493827)),(.v (.int .i64 (-1)))])
def ke24:Ent:=⟨74,[(.arr 1 [(.int .i64 7)])],[UJ],⟨[],[],(.v (.bool true))⟩⟩
theorem Vp:aT Tryz.prog ke24:=cP (F:=cQ) JT (by kernel_rfl)
def Jj:List Ent:=ke24::Jk
theorem JS:∀ e∈Jj,aT Tryz.prog e:=cS Vp JT
def UI:D:=(.agg [(.v (.int .i64 0)),(.msl [0,1] 2),.nilsl,.nilsl,.nilsl,.nilsl,.nilsl,.nilsl,(.v (.int .i64 0)),(.v (.int .i64 0)),(.v (.int .i64 0)),(.v (.int .i64 0)),(.v (.int .i64 0)),(.v (.int .i64 0)),(.v (.int .i64 0)),(.v (.int .i64 0)),(.v (.int .i64 0)),(.v (.int .i64 0)),(.v (.int .i64 0)),(.v (.int .i64 0)),(.v (.int .i64 1)),(.msl [1,1] 2),.nilsl,.nilsl,.nilsl,.nilsl,.nilsl,.nilsl,(.v (.int .i64 0)),(.v (.int .i64 0)),(.v (.int .i64 0)),(.v (.int .i64 0)),(.v (.int .i64 0)),(.v (.int .i64 0)),(.v (.int .i64 0)),(.v (.int .i64 0)),(.v (.int .i64 0)),(.v (.int .i64 0)),(.v (.int .i64 0)),(.v (.int .i64 0)),(.v (.int .i64 707989)),(.v (.int .i64 2)),(.msl [2,1] 1),.nilsl,(.msl [3,1] 1),.nilsl,.nilsl,.nilsl,.nilsl,(.v (.int .i64 0)),(.v (.int .i64 1)),(.v (.int .i64 0)),(.v (.int .i64 0)),(.v (.int .i64 0)),(.v (.int .i64 0)),(.v (.int .i64 0)),(.v (.int .i64 0)),(.v (.int .i64 0)),(.v (.int .i64 0)),(.v (.int .i64 0)),(.v (.int .i64 0)),(.v (.int .i64 288543)),(.v (.int .i64 (-1)))])
def ke25:Ent:=⟨74,[cC,cC,(.arr 1 [(.int .i64 9)]),(.arr 2 [cp])],[UI],⟨[],[],(.v (.bool true))⟩⟩
theorem Vo:aT Tryz.prog ke25:=cP (F:=cQ) JS (by kernel_rfl)
def Ji:List Ent:=ke25::Jj
theorem JR:∀ e∈Ji,aT Tryz.prog e:=cS Vo JS
def UH:D:=(.agg [(.v (.sl [(.int .i64 9)])),(.v (.sl [])),(.v (.sl [cp])),(.v (.sl [])),(.v (.sl [])),(.v (.sl [])),(.v (.sl [])),(.v (.int .i64 0)),(.v (.int .i64 1)),(.v (.int .i64 0)),(.v (.int .i64 0)),(.v (.int .i64 0)),(.v (.int .i64 0)),(.v (.int .i64 0)),(.v (.int .i64 0)),(.v (.int .i64 0)),(.v (.int .i64 0)),(.v (.int .i64 0)),(.v (.int .i64 0))])
def ke26:Ent:=⟨89,[],[(.v (.int .i64 0)),UH],⟨[],[],(.v (.bool true))⟩⟩
theorem Vn:aT Tryz.prog ke26:=cP (F:=cQ) JR (by kernel_rfl)
def Jh:List Ent:=ke26::Ji
theorem JQ:∀ e∈Jh,aT Tryz.prog e:=cS Vn JR
def UG:D:=(.agg [(.v yF),(.v (.sl [])),(.v (.sl [])),(.v (.sl [])),(.v (.sl [])),(.v (.sl [])),(.v (.sl [])),(.v (.int .i64 0)),(.v (.int .i64 0)),(.v (.int .i64 0)),(.v (.int .i64 0)),(.v (.int .i64 0)),(.v (.int .i64 0)),(.v (.int .i64 0)),(.v (.int .i64 0)),(.v (.int .i64 0)),(.v (.int .i64 0)),(.v (.int .i64 0)),(.v (.int .i64 0))])
def ke27:Ent:=⟨89,[],[(.v (.int .i64 0)),UG],⟨[],[],(.v (.bool true))⟩⟩
theorem Vm:aT Tryz.prog ke27:=cP (F:=cQ) JQ (by kernel_rfl)
def Jg:List Ent:=ke27::Jh
theorem JP:∀ e∈Jg,aT Tryz.prog e:=cS Vm JQ
def UF:D:=(.agg [(.v (.int .i64 0)),(.v (.sl [(.int .i64 9)])),(.v (.sl [])),(.v (.sl [cp])),(.v (.sl [])),(.v (.sl [])),(.v (.sl [])),(.v (.sl [])),(.v (.int .i64 0)),(.v (.int .i64 1)),(.v (.int .i64 0)),(.v (.int .i64 0)),(.v (.int .i64 0)),(.v (.int .i64 0)),(.v (.int .i64 0)),(.v (.int .i64 0)),(.v (.int .i64 0)),(.v (.int .i64 0)),(.v (.int .i64 0)),(.v (.int .i64 0)),(.v (.int .i64 1)),(.v yF),(.v (.sl [])),(.v (.sl [])),(.v (.sl [])),(.v (.sl [])),(.v (.sl [])),(.v (.sl [])),(.v (.int .i64 0)),(.v (.int .i64 0)),(.v (.int .i64 0)),(.v (.int .i64 0)),(.v (.int .i64 0)),(.v (.int .i64 0)),(.v (.int .i64 0)),(.v (.int .i64 0)),(.v (.int .i64 0)),(.v (.int .i64 0)),(.v (.int .i64 0)),(.v (.int .i64 0)),(.v (.int .i64 707989)),(.v (.int .i64 2)),(.v (.sl [(.int .i64 9)])),(.v (.sl [])),(.v (.sl [cp])),(.v (.sl [])),(.v (.sl [])),(.v (.sl [])),(.v (.sl [])),(.v (.int .i64 0)),(.v (.int .i64 1)),(.v (.int .i64 0)),(.v (.int .i64 0)),(.v (.int .i64 0)),(.v (.int .i64 0)),(.v (.int .i64 0)),(.v (.int .i64 0)),(.v (.int .i64 0)),(.v (.int .i64 0)),(.v (.int .i64 0)),(.v (.int .i64 0)),(.v (.int .i64 288542)),(.v (.int .i64 (-1)))])
def ke28:Ent:=⟨74,[],[UF],⟨[],[],(.v (.bool true))⟩⟩
theorem Vl:aT Tryz.prog ke28:=cP (F:=cQ) JP (by kernel_rfl)
def Jf:List Ent:=ke28::Jg
theorem JO:∀ e∈Jf,aT Tryz.prog e:=cS Vl JP
end Go.Eng
