import Derived.Test.YtckmfkgppohnmaaDoorK10
import Derived.KernelRfl
/- Texts Sane4 to Sane4. -/
set_option linter.all false
namespace Go.Eng
open Go Go.Proofs
def Sg:D:=(.agg [(.msl [0,1] 1),.nilsl,.nilsl,.nilsl,.nilsl,.nilsl,.nilsl,(.v (.int .i64 0)),(.v (.int .i64 0)),(.v (.int .i64 0)),(.v (.int .i64 0)),(.v (.int .i64 0)),(.v (.int .i64 0)),(.v (.int .i64 1)),(.v (.int .i64 0)),(.v (.int .i64 0)),(.v (.int .i64 0)),(.v (.int .i64 0)),(.v (.int .i64 0))])
def ke23:Ent:=⟨78,[(.arr 1 [(.int .i64 7)])],[(.v (.int .i64 1)),Sg],⟨[],[],(.v (.bool true))⟩⟩
theorem SW:aP Tryd.prog ke23:=cP (F:=cQ) Hu (by kernel_rfl)
def GR:List Ent:=ke23::GS
theorem Ht:∀ e∈GR,aP Tryd.prog e:=cO SW Hu
def Sf:D:=(.agg [(.v (.int .i64 1)),(.msl [0,1] 1),.nilsl,.nilsl,.nilsl,.nilsl,.nilsl,.nilsl,(.v (.int .i64 0)),(.v (.int .i64 0)),(.v (.int .i64 0)),(.v (.int .i64 0)),(.v (.int .i64 0)),(.v (.int .i64 0)),(.v (.int .i64 1)),(.v (.int .i64 0)),(.v (.int .i64 0)),(.v (.int .i64 0)),(.v (.int .i64 0)),(.v (.int .i64 0)),(.v (.int .i64 1)),.nilsl,.nilsl,.nilsl,.nilsl,.nilsl,.nilsl,.nilsl,(.v (.int .i64 0)),(.v (.int .i64 0)),(.v (.int .i64 0)),(.v (.int .i64 0)),(.v (.int .i64 0)),(.v (.int .i64 0)),(.v (.int .i64 0)),(.v (.int .i64 0)),(.v (.int .i64 0)),(.v (.int .i64 0)),(.v (.int .i64 0)),(.v (.int .i64 0)),(.v (.int .i64 947894)),(.v (.int .i64 0)),.nilsl,.nilsl,.nilsl,.nilsl,.nilsl,.nilsl,.nilsl,(.v (.int .i64 0)),(.v (.int .i64 0)),(.v (.int .i64 0)),(.v (.int .i64 0)),(.v (.int .i64 0)),(.v (.int .i64 0)),(.v (.int .i64 0)),(.v (.int .i64 0)),(.v (.int .i64 0)),(.v (.int .i64 0)),(.v (.int .i64 0)),(.v (.int .i64 0)),(.v (.int .i64 493827)),(.v (.int .i64 (-1)))])
def ke24:Ent:=⟨66,[(.arr 1 [(.int .i64 7)])],[Sf],⟨[],[],(.v (.bool true))⟩⟩
theorem SV:aP Tryd.prog ke24:=cP (F:=cQ) Ht (by kernel_rfl)
def GQ:List Ent:=ke24::GR
theorem Hs:∀ e∈GQ,aP Tryd.prog e:=cO SV Ht
def Se:D:=(.agg [(.v (.int .i64 0)),(.msl [0,1] 2),.nilsl,.nilsl,.nilsl,.nilsl,.nilsl,.nilsl,(.v (.int .i64 0)),(.v (.int .i64 0)),(.v (.int .i64 0)),(.v (.int .i64 0)),(.v (.int .i64 0)),(.v (.int .i64 0)),(.v (.int .i64 0)),(.v (.int .i64 0)),(.v (.int .i64 0)),(.v (.int .i64 0)),(.v (.int .i64 0)),(.v (.int .i64 0)),(.v (.int .i64 1)),(.msl [1,1] 2),.nilsl,.nilsl,.nilsl,.nilsl,.nilsl,.nilsl,(.v (.int .i64 0)),(.v (.int .i64 0)),(.v (.int .i64 0)),(.v (.int .i64 0)),(.v (.int .i64 0)),(.v (.int .i64 0)),(.v (.int .i64 0)),(.v (.int .i64 0)),(.v (.int .i64 0)),(.v (.int .i64 0)),(.v (.int .i64 0)),(.v (.int .i64 0)),(.v (.int .i64 707989)),(.v (.int .i64 2)),(.msl [2,1] 1),.nilsl,(.msl [3,1] 1),.nilsl,.nilsl,.nilsl,.nilsl,(.v (.int .i64 0)),(.v (.int .i64 1)),(.v (.int .i64 0)),(.v (.int .i64 0)),(.v (.int .i64 0)),(.v (.int .i64 0)),(.v (.int .i64 0)),(.v (.int .i64 0)),(.v (.int .i64 0)),(.v (.int .i64 0)),(.v (.int .i64 0)),(.v (.int .i64 0)),(.v (.int .i64 288543)),(.v (.int .i64 (-1)))])
def ke25:Ent:=⟨66,[cA,cA,(.arr 1 [(.int .i64 9)]),(.arr 2 [cp])],[Se],⟨[],[],(.v (.bool true))⟩⟩
theorem SU:aP Tryd.prog ke25:=cP (F:=cQ) Hs (by kernel_rfl)
def GP:List Ent:=ke25::GQ
theorem Hr:∀ e∈GP,aP Tryd.prog e:=cO SU Hs
def Sd:D:=(.agg [(.v (.sl [(.int .i64 9)])),(.v (.sl [])),(.v (.sl [cp])),(.v (.sl [])),(.v (.sl [])),(.v (.sl [])),(.v (.sl [])),(.v (.int .i64 0)),(.v (.int .i64 1)),(.v (.int .i64 0)),(.v (.int .i64 0)),(.v (.int .i64 0)),(.v (.int .i64 0)),(.v (.int .i64 0)),(.v (.int .i64 0)),(.v (.int .i64 0)),(.v (.int .i64 0)),(.v (.int .i64 0)),(.v (.int .i64 0))])
def ke26:Ent:=⟨78,[],[(.v (.int .i64 0)),Sd],⟨[],[],(.v (.bool true))⟩⟩
theorem SS:aP Tryd.prog ke26:=cP (F:=cQ) Hr (by kernel_rfl)
def GO:List Ent:=ke26::GP
theorem Hq:∀ e∈GO,aP Tryd.prog e:=cO SS Hr
def Sc:D:=(.agg [(.v wP),(.v (.sl [])),(.v (.sl [])),(.v (.sl [])),(.v (.sl [])),(.v (.sl [])),(.v (.sl [])),(.v (.int .i64 0)),(.v (.int .i64 0)),(.v (.int .i64 0)),(.v (.int .i64 0)),(.v (.int .i64 0)),(.v (.int .i64 0)),(.v (.int .i64 0)),(.v (.int .i64 0)),(.v (.int .i64 0)),(.v (.int .i64 0)),(.v (.int .i64 0)),(.v (.int .i64 0))])
def ke27:Ent:=⟨78,[],[(.v (.int .i64 0)),Sc],⟨[],[],(.v (.bool true))⟩⟩
theorem SR:aP Tryd.prog ke27:=cP (F:=cQ) Hq (by kernel_rfl)
def GN:List Ent:=ke27::GO
theorem Hp:∀ e∈GN,aP Tryd.prog e:=cO SR Hq
def Sb:D:=(.agg [(.v (.int .i64 0)),(.v (.sl [(.int .i64 9)])),(.v (.sl [])),(.v (.sl [cp])),(.v (.sl [])),(.v (.sl [])),(.v (.sl [])),(.v (.sl [])),(.v (.int .i64 0)),(.v (.int .i64 1)),(.v (.int .i64 0)),(.v (.int .i64 0)),(.v (.int .i64 0)),(.v (.int .i64 0)),(.v (.int .i64 0)),(.v (.int .i64 0)),(.v (.int .i64 0)),(.v (.int .i64 0)),(.v (.int .i64 0)),(.v (.int .i64 0)),(.v (.int .i64 1)),(.v wP),(.v (.sl [])),(.v (.sl [])),(.v (.sl [])),(.v (.sl [])),(.v (.sl [])),(.v (.sl [])),(.v (.int .i64 0)),(.v (.int .i64 0)),(.v (.int .i64 0)),(.v (.int .i64 0)),(.v (.int .i64 0)),(.v (.int .i64 0)),(.v (.int .i64 0)),(.v (.int .i64 0)),(.v (.int .i64 0)),(.v (.int .i64 0)),(.v (.int .i64 0)),(.v (.int .i64 0)),(.v (.int .i64 707989)),(.v (.int .i64 2)),(.v (.sl [(.int .i64 9)])),(.v (.sl [])),(.v (.sl [cp])),(.v (.sl [])),(.v (.sl [])),(.v (.sl [])),(.v (.sl [])),(.v (.int .i64 0)),(.v (.int .i64 1)),(.v (.int .i64 0)),(.v (.int .i64 0)),(.v (.int .i64 0)),(.v (.int .i64 0)),(.v (.int .i64 0)),(.v (.int .i64 0)),(.v (.int .i64 0)),(.v (.int .i64 0)),(.v (.int .i64 0)),(.v (.int .i64 0)),(.v (.int .i64 288542)),(.v (.int .i64 (-1)))])
def ke28:Ent:=⟨66,[],[Sb],⟨[],[],(.v (.bool true))⟩⟩
theorem SQ:aP Tryd.prog ke28:=cP (F:=cQ) Hp (by kernel_rfl)
def GM:List Ent:=ke28::GN
theorem Ho:∀ e∈GM,aP Tryd.prog e:=cO SQ Hp
end Go.Eng
