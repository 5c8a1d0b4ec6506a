import Derived.Test.YtckmfkgppohnmaaDoorK10
import Derived.KernelRfl
/- Texts Sane4 to Sane4. -/
set_option linter.all false
namespace Go.Eng
open Go Go.Proofs
def WA:D:=(.agg [(.msl [0,1] 1),.nilsl,.nilsl,.nilsl,.nilsl,.nilsl,.nilsl,(.v (.int .i64 0)),(.v (.int .i64 0)),(.v (.int .i64 0)),(.v (.int .i64 0)),(.v (.int .i64 0)),(.v (.int .i64 0)),(.v (.int .i64 1)),(.v (.int .i64 0)),(.v (.int .i64 0)),(.v (.int .i64 0)),(.v (.int .i64 0)),(.v (.int .i64 0))])
def ke23:Ent:=⟨78,[(.arr 1 [(.int .i64 7)])],[(.v (.int .i64 1)),WA],⟨[],[],(.v (.bool true))⟩⟩
theorem Xk:aV Tryd.prog ke23:=dm (F:=dn) KX (by kernel_rfl)
def Kk:List Ent:=ke23::Kl
theorem KW:∀ e∈Kk,aV Tryd.prog e:=di Xk KX
def Wz:D:=(.agg [(.v (.int .i64 1)),(.msl [0,1] 1),.nilsl,.nilsl,.nilsl,.nilsl,.nilsl,.nilsl,(.v (.int .i64 0)),(.v (.int .i64 0)),(.v (.int .i64 0)),(.v (.int .i64 0)),(.v (.int .i64 0)),(.v (.int .i64 0)),(.v (.int .i64 1)),(.v (.int .i64 0)),(.v (.int .i64 0)),(.v (.int .i64 0)),(.v (.int .i64 0)),(.v (.int .i64 0)),(.v (.int .i64 1)),.nilsl,.nilsl,.nilsl,.nilsl,.nilsl,.nilsl,.nilsl,(.v (.int .i64 0)),(.v (.int .i64 0)),(.v (.int .i64 0)),(.v (.int .i64 0)),(.v (.int .i64 0)),(.v (.int .i64 0)),(.v (.int .i64 0)),(.v (.int .i64 0)),(.v (.int .i64 0)),(.v (.int .i64 0)),(.v (.int .i64 0)),(.v (.int .i64 0)),(.v (.int .i64 947894)),(.v (.int .i64 0)),.nilsl,.nilsl,.nilsl,.nilsl,.nilsl,.nilsl,.nilsl,(.v (.int .i64 0)),(.v (.int .i64 0)),(.v (.int .i64 0)),(.v (.int .i64 0)),(.v (.int .i64 0)),(.v (.int .i64 0)),(.v (.int .i64 0)),(.v (.int .i64 0)),(.v (.int .i64 0)),(.v (.int .i64 0)),(.v (.int .i64 0)),(.v (.int .i64 0)),(.v (.int .i64 493827)),(.v (.int .i64 (-1)))])
def ke24:Ent:=⟨66,[(.arr 1 [(.int .i64 7)])],[Wz],⟨[],[],(.v (.bool true))⟩⟩
theorem Xj:aV Tryd.prog ke24:=dm (F:=dn) KW (by kernel_rfl)
def Kj:List Ent:=ke24::Kk
theorem KV:∀ e∈Kj,aV Tryd.prog e:=di Xj KW
def Wy:D:=(.agg [(.v (.int .i64 0)),(.msl [0,1] 2),.nilsl,.nilsl,.nilsl,.nilsl,.nilsl,.nilsl,(.v (.int .i64 0)),(.v (.int .i64 0)),(.v (.int .i64 0)),(.v (.int .i64 0)),(.v (.int .i64 0)),(.v (.int .i64 0)),(.v (.int .i64 0)),(.v (.int .i64 0)),(.v (.int .i64 0)),(.v (.int .i64 0)),(.v (.int .i64 0)),(.v (.int .i64 0)),(.v (.int .i64 1)),(.msl [1,1] 2),.nilsl,.nilsl,.nilsl,.nilsl,.nilsl,.nilsl,(.v (.int .i64 0)),(.v (.int .i64 0)),(.v (.int .i64 0)),(.v (.int .i64 0)),(.v (.int .i64 0)),(.v (.int .i64 0)),(.v (.int .i64 0)),(.v (.int .i64 0)),(.v (.int .i64 0)),(.v (.int .i64 0)),(.v (.int .i64 0)),(.v (.int .i64 0)),(.v (.int .i64 707989)),(.v (.int .i64 2)),(.msl [2,1] 1),.nilsl,(.msl [3,1] 1),.nilsl,.nilsl,.nilsl,.nilsl,(.v (.int .i64 0)),(.v (.int .i64 1)),(.v (.int .i64 0)),(.v (.int .i64 0)),(.v (.int .i64 0)),(.v (.int .i64 0)),(.v (.int .i64 0)),(.v (.int .i64 0)),(.v (.int .i64 0)),(.v (.int .i64 0)),(.v (.int .i64 0)),(.v (.int .i64 0)),(.v (.int .i64 288543)),(.v (.int .i64 (-1)))])
def ke25:Ent:=⟨66,[cV,cV,(.arr 1 [(.int .i64 9)]),(.arr 2 [cI])],[Wy],⟨[],[],(.v (.bool true))⟩⟩
theorem Xi:aV Tryd.prog ke25:=dm (F:=dn) KV (by kernel_rfl)
def Ki:List Ent:=ke25::Kj
theorem KU:∀ e∈Ki,aV Tryd.prog e:=di Xi KV
def Wx:D:=(.agg [(.v (.sl [(.int .i64 9)])),(.v (.sl [])),(.v (.sl [cI])),(.v (.sl [])),(.v (.sl [])),(.v (.sl [])),(.v (.sl [])),(.v (.int .i64 0)),(.v (.int .i64 1)),(.v (.int .i64 0)),(.v (.int .i64 0)),(.v (.int .i64 0)),(.v (.int .i64 0)),(.v (.int .i64 0)),(.v (.int .i64 0)),(.v (.int .i64 0)),(.v (.int .i64 0)),(.v (.int .i64 0)),(.v (.int .i64 0))])
def ke26:Ent:=⟨78,[],[(.v (.int .i64 0)),Wx],⟨[],[],(.v (.bool true))⟩⟩
theorem Xh:aV Tryd.prog ke26:=dm (F:=dn) KU (by kernel_rfl)
def Kh:List Ent:=ke26::Ki
theorem KT:∀ e∈Kh,aV Tryd.prog e:=di Xh KU
def Ww:D:=(.agg [(.v zp),(.v (.sl [])),(.v (.sl [])),(.v (.sl [])),(.v (.sl [])),(.v (.sl [])),(.v (.sl [])),(.v (.int .i64 0)),(.v (.int .i64 0)),(.v (.int .i64 0)),(.v (.int .i64 0)),(.v (.int .i64 0)),(.v (.int .i64 0)),(.v (.int .i64 0)),(.v (.int .i64 0)),(.v (.int .i64 0)),(.v (.int .i64 0)),(.v (.int .i64 0)),(.v (.int .i64 0))])
def ke27:Ent:=⟨78,[],[(.v (.int .i64 0)),Ww],⟨[],[],(.v (.bool true))⟩⟩
theorem Xg:aV Tryd.prog ke27:=dm (F:=dn) KT (by kernel_rfl)
def Kg:List Ent:=ke27::Kh
theorem KS:∀ e∈Kg,aV Tryd.prog e:=di Xg KT
def Wv:D:=(.agg [(.v (.int .i64 0)),(.v (.sl [(.int .i64 9)])),(.v (.sl [])),(.v (.sl [cI])),(.v (.sl [])),(.v (.sl [])),(.v (.sl [])),(.v (.sl [])),(.v (.int .i64 0)),(.v (.int .i64 1)),(.v (.int .i64 0)),(.v (.int .i64 0)),(.v (.int .i64 0)),(.v (.int .i64 0)),(.v (.int .i64 0)),(.v (.int .i64 0)),(.v (.int .i64 0)),(.v (.int .i64 0)),(.v (.int .i64 0)),(.v (.int .i64 0)),(.v (.int .i64 1)),(.v zp),(.v (.sl [])),(.v (.sl [])),(.v (.sl [])),(.v (.sl [])),(.v (.sl [])),(.v (.sl [])),(.v (.int .i64 0)),(.v (.int .i64 0)),(.v (.int .i64 0)),(.v (.int .i64 0)),(.v (.int .i64 0)),(.v (.int .i64 0)),(.v (.int .i64 0)),(.v (.int .i64 0)),(.v (.int .i64 0)),(.v (.int .i64 0)),(.v (.int .i64 0)),(.v (.int .i64 0)),(.v (.int .i64 707989)),(.v (.int .i64 2)),(.v (.sl [(.int .i64 9)])),(.v (.sl [])),(.v (.sl [cI])),(.v (.sl [])),(.v (.sl [])),(.v (.sl [])),(.v (.sl [])),(.v (.int .i64 0)),(.v (.int .i64 1)),(.v (.int .i64 0)),(.v (.int .i64 0)),(.v (.int .i64 0)),(.v (.int .i64 0)),(.v (.int .i64 0)),(.v (.int .i64 0)),(.v (.int .i64 0)),(.v (.int .i64 0)),(.v (.int .i64 0)),(.v (.int .i64 0)),(.v (.int .i64 288542)),(.v (.int .i64 (-1)))])
def ke28:Ent:=⟨66,[],[Wv],⟨[],[],(.v (.bool true))⟩⟩
theorem Xf:aV Tryd.prog ke28:=dm (F:=dn) KS (by kernel_rfl)
def Kf:List Ent:=ke28::Kg
theorem KR:∀ e∈Kf,aV Tryd.prog e:=di Xf KS
end Go.Eng
