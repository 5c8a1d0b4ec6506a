import Derived.Test.YtckmfkgppohnmaaDoorK9
import Derived.KernelRfl
/- Texts Sane1 to Sane1. -/
set_option linter.all false
namespace Go.Eng
open Go Go.Proofs
def cU:List Nat:=[11,78,66,43,14,45,15,17,18,31,22,20,10]
def yM:V:=(.sl [(.int .i64 7),(.int .i64 9)])
def cK:O:=(.arr 1 [(.int .i64 7),(.int .i64 9)])
def VD:D:=(.agg [(.v (.int .i64 0)),(.msl [127,0] 2),.nilsl,.nilsl,.nilsl,.nilsl,.nilsl,.nilsl,(.v (.int .i64 0)),(.v (.int .i64 0)),(.v (.int .i64 0)),(.v (.int .i64 0)),(.v (.int .i64 0)),(.v (.int .i64 0)),(.v (.int .i64 0)),(.v (.int .i64 0)),(.v (.int .i64 0)),(.v (.int .i64 0)),(.v (.int .i64 0)),(.v (.int .i64 0)),(.v (.int .i64 1)),(.msl [70,0,167,0] 2),.nilsl,.nilsl,.nilsl,.nilsl,.nilsl,.nilsl,(.v (.int .i64 0)),(.v (.int .i64 0)),(.v (.int .i64 0)),(.v (.int .i64 0)),(.v (.int .i64 0)),(.v (.int .i64 0)),(.v (.int .i64 0)),(.v (.int .i64 0)),(.v (.int .i64 0)),(.v (.int .i64 0)),(.v (.int .i64 0)),(.v (.int .i64 0)),(.v (.int .i64 707989)),(.v (.int .i64 0)),.nilsl,.nilsl,.nilsl,.nilsl,.nilsl,.nilsl,.nilsl,(.v (.int .i64 0)),(.v (.int .i64 0)),(.v (.int .i64 0)),(.v (.int .i64 0)),(.v (.int .i64 0)),(.v (.int .i64 0)),(.v (.int .i64 0)),(.v (.int .i64 0)),(.v (.int .i64 0)),(.v (.int .i64 0)),(.v (.int .i64 0)),(.v (.int .i64 0)),(.v (.int .i64 493827)),(.v (.int .i64 (-1)))])
def Vw:D:=(.tup [VD,(.v (.int .i64 0))])
def ke0:Ent:=⟨11,[],[(.v (.int .i64 0)),(.v yM)],⟨[],[([127,0],cK),([70,0,167,0],cK)],Vw⟩⟩
theorem Wp:aQ Tryd.prog ke0:=cT (F:=cU) Kz (by kernel_rfl)
def JY:List Ent:=ke0::JZ
theorem Ky:∀ e∈JY,aQ Tryd.prog e:=cR Wp Kz
def Vn:D:=(.agg [(.msl [0,1] 2),.nilsl,.nilsl,.nilsl,.nilsl,.nilsl,.nilsl,(.v (.int .i64 0)),(.v (.int .i64 0)),(.v (.int .i64 0)),(.v (.int .i64 0)),(.v (.int .i64 0)),(.v (.int .i64 0)),(.v (.int .i64 0)),(.v (.int .i64 0)),(.v (.int .i64 0)),(.v (.int .i64 0)),(.v (.int .i64 0)),(.v (.int .i64 0))])
def ke1:Ent:=⟨78,[cK],[(.v (.int .i64 0)),Vn],⟨[],[],(.v (.bool true))⟩⟩
theorem Wo:aQ Tryd.prog ke1:=cT (F:=cU) Ky (by kernel_rfl)
def JN:List Ent:=ke1::JY
theorem Kn:∀ e∈JN,aQ Tryd.prog e:=cR Wo Ky
def Jn:D:=(.agg [.nilsl,.nilsl,.nilsl,.nilsl,.nilsl,.nilsl,.nilsl,(.v (.int .i64 0)),(.v (.int .i64 0)),(.v (.int .i64 0)),(.v (.int .i64 0)),(.v (.int .i64 0)),(.v (.int .i64 0)),(.v (.int .i64 0)),(.v (.int .i64 0)),(.v (.int .i64 0)),(.v (.int .i64 0)),(.v (.int .i64 0)),(.v (.int .i64 0))])
def ke2:Ent:=⟨78,[],[(.v (.int .i64 0)),Jn],⟨[],[],(.v (.bool true))⟩⟩
theorem Wd:aQ Tryd.prog ke2:=cT (F:=cU) Kn (by kernel_rfl)
def JC:List Ent:=ke2::JN
theorem Kc:∀ e∈JC,aQ Tryd.prog e:=cR Wd Kn
def CF:D:=(.agg [(.v (.int .i64 0)),(.msl [0,1] 2),.nilsl,.nilsl,.nilsl,.nilsl,.nilsl,.nilsl,(.v (.int .i64 0)),(.v (.int .i64 0)),(.v (.int .i64 0)),(.v (.int .i64 0)),(.v (.int .i64 0)),(.v (.int .i64 0)),(.v (.int .i64 0)),(.v (.int .i64 0)),(.v (.int .i64 0)),(.v (.int .i64 0)),(.v (.int .i64 0)),(.v (.int .i64 0)),(.v (.int .i64 1)),(.msl [1,1] 2),.nilsl,.nilsl,.nilsl,.nilsl,.nilsl,.nilsl,(.v (.int .i64 0)),(.v (.int .i64 0)),(.v (.int .i64 0)),(.v (.int .i64 0)),(.v (.int .i64 0)),(.v (.int .i64 0)),(.v (.int .i64 0)),(.v (.int .i64 0)),(.v (.int .i64 0)),(.v (.int .i64 0)),(.v (.int .i64 0)),(.v (.int .i64 0)),(.v (.int .i64 707989)),(.v (.int .i64 0)),.nilsl,.nilsl,.nilsl,.nilsl,.nilsl,.nilsl,.nilsl,(.v (.int .i64 0)),(.v (.int .i64 0)),(.v (.int .i64 0)),(.v (.int .i64 0)),(.v (.int .i64 0)),(.v (.int .i64 0)),(.v (.int .i64 0)),(.v (.int .i64 0)),(.v (.int .i64 0)),(.v (.int .i64 0)),(.v (.int .i64 0)),(.v (.int .i64 0)),(.v (.int .i64 493827)),(.v (.int .i64 (-1)))])
def ke3:Ent:=⟨66,[cK,cK],[CF],⟨[],[],(.v (.bool true))⟩⟩
theorem V3:aQ Tryd.prog ke3:=cT (F:=cU) Kc (by kernel_rfl)
def Jv:List Ent:=ke3::JC
theorem J6:∀ e∈Jv,aQ Tryd.prog e:=cR V3 Kc
def Ve:O:=(.box [(.v (.int .i64 0)),(.msl [70,0,28,0] 2),.nilsl,.nilsl,.nilsl,.nilsl,.nilsl,.nilsl,(.v (.int .i64 0)),(.v (.int .i64 0)),(.v (.int .i64 0)),(.v (.int .i64 0)),(.v (.int .i64 0)),(.v (.int .i64 0)),(.v (.int .i64 0)),(.v (.int .i64 0)),(.v (.int .i64 0)),(.v (.int .i64 0)),(.v (.int .i64 0)),(.v (.int .i64 0)),(.v (.int .i64 1)),(.msl [70,0,130,0] 2),.nilsl,.nilsl,.nilsl,.nilsl,.nilsl,.nilsl,(.v (.int .i64 0)),(.v (.int .i64 0)),(.v (.int .i64 0)),(.v (.int .i64 0)),(.v (.int .i64 0)),(.v (.int .i64 0)),(.v (.int .i64 0)),(.v (.int .i64 0)),(.v (.int .i64 0)),(.v (.int .i64 0)),(.v (.int .i64 0)),(.v (.int .i64 0)),(.v (.int .i64 707989)),(.v (.int .i64 0)),.nilsl,.nilsl,.nilsl,.nilsl,.nilsl,.nilsl,.nilsl,(.v (.int .i64 0)),(.v (.int .i64 0)),(.v (.int .i64 0)),(.v (.int .i64 0)),(.v (.int .i64 0)),(.v (.int .i64 0)),(.v (.int .i64 0)),(.v (.int .i64 0)),(.v (.int .i64 0)),(.v (.int .i64 0)),(.v (.int .i64 0)),(.v (.int .i64 0)),(.v (.int .i64 493827)),(.v (.int .i64 (-1)))])
def ke4:Ent:=⟨43,[cK,cK],[CF],⟨[(1,cK),(0,cK)],[([298,0],Ve),([70,0,28,0],cK),([70,0,130,0],cK)],(.ref [298,0] 0)⟩⟩
theorem VX:aQ Tryd.prog ke4:=cT (F:=cU) J6 (by kernel_rfl)
def Ju:List Ent:=ke4::Jv
theorem J5:∀ e∈Ju,aQ Tryd.prog e:=cR VX J6
def cD:V:=(.agg [(.int .i64 1),(.int .i64 7)])
def Vi:D:=(.agg [(.v (.int .i64 0)),(.v (.sl [(.int .i64 9)])),.nilsl,(.msl [1563,0] 1),.nilsl,.nilsl,.nilsl,.nilsl,(.v (.int .i64 0)),(.v (.int .i64 1)),(.v (.int .i64 0)),(.v (.int .i64 0)),(.v (.int .i64 0)),(.v (.int .i64 0)),(.v (.int .i64 0)),(.v (.int .i64 0)),(.v (.int .i64 0)),(.v (.int .i64 0)),(.v (.int .i64 0)),(.v (.int .i64 0)),(.v (.int .i64 1)),(.msl [70,0,130,0,1149,0] 2),.nilsl,.nilsl,.nilsl,.nilsl,.nilsl,.nilsl,(.v (.int .i64 0)),(.v (.int .i64 0)),(.v (.int .i64 0)),(.v (.int .i64 0)),(.v (.int .i64 0)),(.v (.int .i64 0)),(.v (.int .i64 0)),(.v (.int .i64 0)),(.v (.int .i64 0)),(.v (.int .i64 0)),(.v (.int .i64 0)),(.v (.int .i64 0)),(.v (.int .i64 707989)),(.v (.int .i64 0)),.nilsl,.nilsl,.nilsl,.nilsl,.nilsl,.nilsl,.nilsl,(.v (.int .i64 0)),(.v (.int .i64 0)),(.v (.int .i64 0)),(.v (.int .i64 0)),(.v (.int .i64 0)),(.v (.int .i64 0)),(.v (.int .i64 0)),(.v (.int .i64 0)),(.v (.int .i64 0)),(.v (.int .i64 0)),(.v (.int .i64 0)),(.v (.int .i64 0)),(.v (.int .i64 493827)),(.v (.int .i64 (-1)))])
def VK:D:=(.tup [Vi,(.v (.int .i64 0))])
def ke5:Ent:=⟨14,[cK,cK],[CF,(.v (.int .i64 7)),(.v (.int .i64 1))],⟨[(1,cK),(0,cK)],[([1563,0],(.arr 2 [cD])),([70,0,130,0,1149,0],cK)],VK⟩⟩
theorem VW:aQ Tryd.prog ke5:=cT (F:=cU) J5 (by kernel_rfl)
def Jt:List Ent:=ke5::Ju
theorem J4:∀ e∈Jt,aQ Tryd.prog e:=cR VW J5
def VJ:D:=(.agg [(.v (.sl [(.int .i64 9)])),.nilsl,(.msl [0,1] 1),.nilsl,.nilsl,.nilsl,.nilsl,(.v (.int .i64 0)),(.v (.int .i64 1)),(.v (.int .i64 0)),(.v (.int .i64 0)),(.v (.int .i64 0)),(.v (.int .i64 0)),(.v (.int .i64 0)),(.v (.int .i64 0)),(.v (.int .i64 0)),(.v (.int .i64 0)),(.v (.int .i64 0)),(.v (.int .i64 0))])
def ke6:Ent:=⟨78,[(.arr 2 [cD])],[(.v (.int .i64 0)),VJ],⟨[],[],(.v (.bool true))⟩⟩
theorem VV:aQ Tryd.prog ke6:=cT (F:=cU) J4 (by kernel_rfl)
def Js:List Ent:=ke6::Jt
theorem J3:∀ e∈Js,aQ Tryd.prog e:=cR VV J4
end Go.Eng
