import Derived.Test.YtckmfkgppohnmaaDoorK9
import Derived.KernelRfl
/- Texts Sane3 to Sane3. -/
set_option linter.all false
namespace Go.Eng
open Go Go.Proofs
def J1:D:=(.agg [(.v (.int .i64 0)),(.msl [0,1] 1),.nilsl,(.msl [1,1] 1),.nilsl,.nilsl,.nilsl,.nilsl,(.v (.int .i64 0)),(.v (.int .i64 1)),(.v (.int .i64 0)),(.v (.int .i64 0)),(.v (.int .i64 0)),(.v (.int .i64 0)),(.v (.int .i64 0)),(.v (.int .i64 0)),(.v (.int .i64 0)),(.v (.int .i64 0)),(.v (.int .i64 0)),(.v (.int .i64 0)),(.v (.int .i64 1)),(.msl [2,1] 2),.nilsl,.nilsl,.nilsl,.nilsl,.nilsl,.nilsl,(.v (.int .i64 0)),(.v (.int .i64 0)),(.v (.int .i64 0)),(.v (.int .i64 0)),(.v (.int .i64 0)),(.v (.int .i64 0)),(.v (.int .i64 0)),(.v (.int .i64 0)),(.v (.int .i64 0)),(.v (.int .i64 0)),(.v (.int .i64 0)),(.v (.int .i64 0)),(.v (.int .i64 707989)),(.v (.int .i64 2)),(.msl [3,1] 1),.nilsl,(.msl [4,1] 1),.nilsl,.nilsl,.nilsl,.nilsl,(.v (.int .i64 0)),(.v (.int .i64 1)),(.v (.int .i64 0)),(.v (.int .i64 0)),(.v (.int .i64 0)),(.v (.int .i64 0)),(.v (.int .i64 0)),(.v (.int .i64 0)),(.v (.int .i64 0)),(.v (.int .i64 0)),(.v (.int .i64 0)),(.v (.int .i64 0)),(.v (.int .i64 288542)),(.v (.int .i64 (-1)))])
def ke15:Ent:=⟨66,[(.arr 1 [(.int .i64 9)]),(.arr 2 [cI]),cV,(.arr 1 [(.int .i64 9)]),(.arr 2 [cI])],[J1],⟨[],[],(.v (.bool true))⟩⟩
theorem Xt:aV Tryd.prog ke15:=dm (F:=dn) Lc (by kernel_rfl)
def Kt:List Ent:=ke15::Ku
theorem Lb:∀ e∈Kt,aV Tryd.prog e:=di Xt Lc
def ke16:Ent:=⟨45,[(.arr 1 [(.int .i64 9)]),(.arr 2 [cI]),cV,(.arr 1 [(.int .i64 9)]),(.arr 2 [cI])],[J1],⟨[],[],(.v (.int .i64 1))⟩⟩
theorem Xs:aV Tryd.prog ke16:=dm (F:=dn) Lb (by kernel_rfl)
def Ks:List Ent:=ke16::Kt
theorem La:∀ e∈Ks,aV Tryd.prog e:=di Xs Lb
def ke17:Ent:=⟨78,[],[(.v (.int .i64 1)),J0],⟨[],[],(.v (.bool true))⟩⟩
theorem Xr:aV Tryd.prog ke17:=dm (F:=dn) La (by kernel_rfl)
def Kr:List Ent:=ke17::Ks
theorem K8:∀ e∈Kr,aV Tryd.prog e:=di Xr La
def C':D:=(.agg [(.v (.int .i64 1)),.nilsl,.nilsl,.nilsl,.nilsl,.nilsl,.nilsl,.nilsl,(.v (.int .i64 0)),(.v (.int .i64 0)),(.v (.int .i64 0)),(.v (.int .i64 0)),(.v (.int .i64 0)),(.v (.int .i64 0)),(.v (.int .i64 0)),(.v (.int .i64 0)),(.v (.int .i64 0)),(.v (.int .i64 0)),(.v (.int .i64 0)),(.v (.int .i64 0)),(.v (.int .i64 1)),.nilsl,.nilsl,.nilsl,.nilsl,.nilsl,.nilsl,.nilsl,(.v (.int .i64 0)),(.v (.int .i64 0)),(.v (.int .i64 0)),(.v (.int .i64 0)),(.v (.int .i64 0)),(.v (.int .i64 0)),(.v (.int .i64 0)),(.v (.int .i64 0)),(.v (.int .i64 0)),(.v (.int .i64 0)),(.v (.int .i64 0)),(.v (.int .i64 0)),(.v (.int .i64 947894)),(.v (.int .i64 0)),.nilsl,.nilsl,.nilsl,.nilsl,.nilsl,.nilsl,.nilsl,(.v (.int .i64 0)),(.v (.int .i64 0)),(.v (.int .i64 0)),(.v (.int .i64 0)),(.v (.int .i64 0)),(.v (.int .i64 0)),(.v (.int .i64 0)),(.v (.int .i64 0)),(.v (.int .i64 0)),(.v (.int .i64 0)),(.v (.int .i64 0)),(.v (.int .i64 0)),(.v (.int .i64 493827)),(.v (.int .i64 (-1)))])
def ke18:Ent:=⟨66,[],[C'],⟨[],[],(.v (.bool true))⟩⟩
theorem Xq:aV Tryd.prog ke18:=dm (F:=dn) K8 (by kernel_rfl)
def Kq:List Ent:=ke18::Kr
theorem K5:∀ e∈Kq,aV Tryd.prog e:=di Xq K8
def Wk:O:=(.box [(.v (.int .i64 1)),.nilsl,.nilsl,.nilsl,.nilsl,.nilsl,.nilsl,.nilsl,(.v (.int .i64 0)),(.v (.int .i64 0)),(.v (.int .i64 0)),(.v (.int .i64 0)),(.v (.int .i64 0)),(.v (.int .i64 0)),(.v (.int .i64 0)),(.v (.int .i64 0)),(.v (.int .i64 0)),(.v (.int .i64 0)),(.v (.int .i64 0)),(.v (.int .i64 0)),(.v (.int .i64 1)),.nilsl,.nilsl,.nilsl,.nilsl,.nilsl,.nilsl,.nilsl,(.v (.int .i64 0)),(.v (.int .i64 0)),(.v (.int .i64 0)),(.v (.int .i64 0)),(.v (.int .i64 0)),(.v (.int .i64 0)),(.v (.int .i64 0)),(.v (.int .i64 0)),(.v (.int .i64 0)),(.v (.int .i64 0)),(.v (.int .i64 0)),(.v (.int .i64 0)),(.v (.int .i64 947894)),(.v (.int .i64 0)),.nilsl,.nilsl,.nilsl,.nilsl,.nilsl,.nilsl,.nilsl,(.v (.int .i64 0)),(.v (.int .i64 0)),(.v (.int .i64 0)),(.v (.int .i64 0)),(.v (.int .i64 0)),(.v (.int .i64 0)),(.v (.int .i64 0)),(.v (.int .i64 0)),(.v (.int .i64 0)),(.v (.int .i64 0)),(.v (.int .i64 0)),(.v (.int .i64 0)),(.v (.int .i64 493827)),(.v (.int .i64 (-1)))])
def ke19:Ent:=⟨43,[],[C'],⟨[],[([298,0],Wk)],(.ref [298,0] 0)⟩⟩
theorem Xp:aV Tryd.prog ke19:=dm (F:=dn) K5 (by kernel_rfl)
def Ko:List Ent:=ke19::Kq
theorem K0:∀ e∈Ko,aV Tryd.prog e:=di Xp K5
def WI:D:=(.agg [(.v (.int .i64 0)),(.v (.int .i64 1)),(.msl [0,1] 1),(.v (.int .i64 0))])
def WH:D:=(.agg [(.v (.int .i64 1)),(.msl [595,0,83,0,175,0,104,0,743,0] 1),.nilsl,.nilsl,.nilsl,.nilsl,.nilsl,.nilsl,(.v (.int .i64 0)),(.v (.int .i64 0)),(.v (.int .i64 0)),(.v (.int .i64 0)),(.v (.int .i64 0)),(.v (.int .i64 0)),(.v (.int .i64 1)),(.v (.int .i64 0)),(.v (.int .i64 0)),(.v (.int .i64 0)),(.v (.int .i64 0)),(.v (.int .i64 0)),(.v (.int .i64 1)),.nilsl,.nilsl,.nilsl,.nilsl,.nilsl,.nilsl,.nilsl,(.v (.int .i64 0)),(.v (.int .i64 0)),(.v (.int .i64 0)),(.v (.int .i64 0)),(.v (.int .i64 0)),(.v (.int .i64 0)),(.v (.int .i64 0)),(.v (.int .i64 0)),(.v (.int .i64 0)),(.v (.int .i64 0)),(.v (.int .i64 0)),(.v (.int .i64 0)),(.v (.int .i64 947894)),(.v (.int .i64 0)),.nilsl,.nilsl,.nilsl,.nilsl,.nilsl,.nilsl,.nilsl,(.v (.int .i64 0)),(.v (.int .i64 0)),(.v (.int .i64 0)),(.v (.int .i64 0)),(.v (.int .i64 0)),(.v (.int .i64 0)),(.v (.int .i64 0)),(.v (.int .i64 0)),(.v (.int .i64 0)),(.v (.int .i64 0)),(.v (.int .i64 0)),(.v (.int .i64 0)),(.v (.int .i64 493827)),(.v (.int .i64 (-1)))])
def WG:D:=(.tup [WH,(.v (.int .i64 0))])
def ke20:Ent:=⟨18,[(.arr 2 [cI])],[C',WI],⟨[],[([595,0,83,0,175,0,104,0,743,0],(.arr 1 [(.int .i64 7)]))],WG⟩⟩
theorem Xn:aV Tryd.prog ke20:=dm (F:=dn) K0 (by kernel_rfl)
def Kn:List Ent:=ke20::Ko
theorem KZ:∀ e∈Kn,aV Tryd.prog e:=di Xn K0
def WE:D:=(.agg [(.v (.int .i64 0)),(.msl [0,1] 1),.nilsl,(.msl [1,1] 1),.nilsl,.nilsl,.nilsl,.nilsl,(.v (.int .i64 0)),(.v (.int .i64 1)),(.v (.int .i64 0)),(.v (.int .i64 0)),(.v (.int .i64 0)),(.v (.int .i64 0)),(.v (.int .i64 0)),(.v (.int .i64 0)),(.v (.int .i64 0)),(.v (.int .i64 0)),(.v (.int .i64 0)),(.v (.int .i64 0)),(.v (.int .i64 1)),(.msl [2,1] 2),.nilsl,.nilsl,.nilsl,.nilsl,.nilsl,.nilsl,(.v (.int .i64 0)),(.v (.int .i64 0)),(.v (.int .i64 0)),(.v (.int .i64 0)),(.v (.int .i64 0)),(.v (.int .i64 0)),(.v (.int .i64 0)),(.v (.int .i64 0)),(.v (.int .i64 0)),(.v (.int .i64 0)),(.v (.int .i64 0)),(.v (.int .i64 0)),(.v (.int .i64 707989)),(.v (.int .i64 2)),(.msl [3,1] 1),.nilsl,(.msl [4,1] 1),.nilsl,.nilsl,.nilsl,.nilsl,(.v (.int .i64 0)),(.v (.int .i64 1)),(.v (.int .i64 0)),(.v (.int .i64 0)),(.v (.int .i64 0)),(.v (.int .i64 0)),(.v (.int .i64 0)),(.v (.int .i64 0)),(.v (.int .i64 0)),(.v (.int .i64 0)),(.v (.int .i64 0)),(.v (.int .i64 0)),(.v (.int .i64 288543)),(.v (.int .i64 (-1)))])
def ke21:Ent:=⟨45,[(.arr 1 [(.int .i64 9)]),(.arr 2 [cI]),cV,(.arr 1 [(.int .i64 9)]),(.arr 2 [cI])],[WE],⟨[],[],(.v (.int .i64 0))⟩⟩
theorem Xm:aV Tryd.prog ke21:=dm (F:=dn) KZ (by kernel_rfl)
def Km:List Ent:=ke21::Kn
theorem KY:∀ e∈Km,aV Tryd.prog e:=di Xm KZ
def WD:D:=(.agg [(.v (.int .i64 0)),(.msl [70,0,631,0] 2),.nilsl,.nilsl,.nilsl,.nilsl,.nilsl,.nilsl,(.v (.int .i64 0)),(.v (.int .i64 0)),(.v (.int .i64 0)),(.v (.int .i64 0)),(.v (.int .i64 0)),(.v (.int .i64 0)),(.v (.int .i64 0)),(.v (.int .i64 0)),(.v (.int .i64 0)),(.v (.int .i64 0)),(.v (.int .i64 0)),(.v (.int .i64 0)),(.v (.int .i64 1)),(.msl [70,0,130,0,229,0] 2),.nilsl,.nilsl,.nilsl,.nilsl,.nilsl,.nilsl,(.v (.int .i64 0)),(.v (.int .i64 0)),(.v (.int .i64 0)),(.v (.int .i64 0)),(.v (.int .i64 0)),(.v (.int .i64 0)),(.v (.int .i64 0)),(.v (.int .i64 0)),(.v (.int .i64 0)),(.v (.int .i64 0)),(.v (.int .i64 0)),(.v (.int .i64 0)),(.v (.int .i64 707989)),(.v (.int .i64 2)),(.msl [70,0,222,0,229,0] 1),.nilsl,(.msl [314,0,222,0,229,0] 1),.nilsl,.nilsl,.nilsl,.nilsl,(.v (.int .i64 0)),(.v (.int .i64 1)),(.v (.int .i64 0)),(.v (.int .i64 0)),(.v (.int .i64 0)),(.v (.int .i64 0)),(.v (.int .i64 0)),(.v (.int .i64 0)),(.v (.int .i64 0)),(.v (.int .i64 0)),(.v (.int .i64 0)),(.v (.int .i64 0)),(.v (.int .i64 288543)),(.v (.int .i64 (-1)))])
def WC:D:=(.tup [WD,(.v (.int .i64 0))])
def ke22:Ent:=⟨31,[(.arr 1 [(.int .i64 9)]),(.arr 2 [cI]),cV,(.arr 1 [(.int .i64 9)]),(.arr 2 [cI])],[zq,(.v (.int .i64 1))],⟨[(4,(.arr 2 [cI])),(3,(.arr 1 [(.int .i64 9)])),(2,cV),(1,(.arr 2 [cI])),(0,(.arr 1 [(.int .i64 9)]))],[([70,0,631,0],cV),([70,0,130,0,229,0],cV),([70,0,222,0,229,0],(.arr 1 [(.int .i64 9)])),([314,0,222,0,229,0],(.arr 2 [cI]))],WC⟩⟩
theorem Xl:aV Tryd.prog ke22:=dm (F:=dn) KY (by kernel_rfl)
def Kl:List Ent:=ke22::Km
theorem KX:∀ e∈Kl,aV Tryd.prog e:=di Xl KY
end Go.Eng
