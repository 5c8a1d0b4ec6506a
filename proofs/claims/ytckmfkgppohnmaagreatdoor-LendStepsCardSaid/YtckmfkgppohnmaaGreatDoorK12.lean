import Derived.Test.YtckmfkgppohnmaaGreatDoorK11
import Derived.KernelRfl
/- Texts Sane3 to Sane3. -/
set_option linter.all false
namespace Go.Eng
open Go Go.Proofs
def Ib:D:=(.agg [(.v (.int .i64 0)),(.msl [0,1] 1),.nilsl,(.msl [1,1] 1),.nilsl,.nilsl,.nilsl,.nilsl,(.v (.int .i64 0)),(.v (.int .i64 1)),(.v (.int .i64 0)),(.v (.int .i64 0)),(.v (.int .i64 0)),(.v (.int .i64 0)),(.v (.int .i64 0)),(.v (.int .i64 0)),(.v (.int .i64 0)),(.v (.int .i64 0)),(.v (.int .i64 0)),(.v (.int .i64 0)),(.v (.int .i64 1)),(.msl [2,1] 2),.nilsl,.nilsl,.nilsl,.nilsl,.nilsl,.nilsl,(.v (.int .i64 0)),(.v (.int .i64 0)),(.v (.int .i64 0)),(.v (.int .i64 0)),(.v (.int .i64 0)),(.v (.int .i64 0)),(.v (.int .i64 0)),(.v (.int .i64 0)),(.v (.int .i64 0)),(.v (.int .i64 0)),(.v (.int .i64 0)),(.v (.int .i64 0)),(.v (.int .i64 707989)),(.v (.int .i64 2)),(.msl [3,1] 1),.nilsl,(.msl [4,1] 1),.nilsl,.nilsl,.nilsl,.nilsl,(.v (.int .i64 0)),(.v (.int .i64 1)),(.v (.int .i64 0)),(.v (.int .i64 0)),(.v (.int .i64 0)),(.v (.int .i64 0)),(.v (.int .i64 0)),(.v (.int .i64 0)),(.v (.int .i64 0)),(.v (.int .i64 0)),(.v (.int .i64 0)),(.v (.int .i64 0)),(.v (.int .i64 288542)),(.v (.int .i64 (-1)))])
def ke15:Ent:=⟨74,[(.arr 1 [(.int .i64 9)]),(.arr 2 [ct]),cF,(.arr 1 [(.int .i64 9)]),(.arr 2 [ct])],[Ib],⟨[],[],(.v (.bool true))⟩⟩
theorem Uk:aR Tryz.prog ke15:=cT (F:=cU) Jj (by kernel_rfl)
def IG:List Ent:=ke15::IH
theorem Ji:∀ e∈IG,aR Tryz.prog e:=cQ Uk Jj
def ke16:Ent:=⟨58,[(.arr 1 [(.int .i64 9)]),(.arr 2 [ct]),cF,(.arr 1 [(.int .i64 9)]),(.arr 2 [ct])],[Ib],⟨[],[],(.v (.int .i64 1))⟩⟩
theorem Uj:aR Tryz.prog ke16:=cT (F:=cU) Ji (by kernel_rfl)
def IF:List Ent:=ke16::IG
theorem Jh:∀ e∈IF,aR Tryz.prog e:=cQ Uj Ji
def ke17:Ent:=⟨89,[],[(.v (.int .i64 1)),Ia],⟨[],[],(.v (.bool true))⟩⟩
theorem Ui:aR Tryz.prog ke17:=cT (F:=cU) Jh (by kernel_rfl)
def IE:List Ent:=ke17::IF
theorem Jg:∀ e∈IE,aR Tryz.prog e:=cQ Ui Jh
def BS:D:=(.agg [(.v (.int .i64 1)),.nilsl,.nilsl,.nilsl,.nilsl,.nilsl,.nilsl,.nilsl,(.v (.int .i64 0)),(.v (.int .i64 0)),(.v (.int .i64 0)),(.v (.int .i64 0)),(.v (.int .i64 0)),(.v (.int .i64 0)),(.v (.int .i64 0)),(.v (.int .i64 0)),(.v (.int .i64 0)),(.v (.int .i64 0)),(.v (.int .i64 0)),(.v (.int .i64 0)),(.v (.int .i64 1)),.nilsl,.nilsl,.nilsl,.nilsl,.nilsl,.nilsl,.nilsl,(.v (.int .i64 0)),(.v (.int .i64 0)),(.v (.int .i64 0)),(.v (.int .i64 0)),(.v (.int .i64 0)),(.v (.int .i64 0)),(.v (.int .i64 0)),(.v (.int .i64 0)),(.v (.int .i64 0)),(.v (.int .i64 0)),(.v (.int .i64 0)),(.v (.int .i64 0)),(.v (.int .i64 947894)),(.v (.int .i64 0)),.nilsl,.nilsl,.nilsl,.nilsl,.nilsl,.nilsl,.nilsl,(.v (.int .i64 0)),(.v (.int .i64 0)),(.v (.int .i64 0)),(.v (.int .i64 0)),(.v (.int .i64 0)),(.v (.int .i64 0)),(.v (.int .i64 0)),(.v (.int .i64 0)),(.v (.int .i64 0)),(.v (.int .i64 0)),(.v (.int .i64 0)),(.v (.int .i64 0)),(.v (.int .i64 493827)),(.v (.int .i64 (-1)))])
def ke18:Ent:=⟨74,[],[BS],⟨[],[],(.v (.bool true))⟩⟩
theorem Uh:aR Tryz.prog ke18:=cT (F:=cU) Jg (by kernel_rfl)
def ID:List Ent:=ke18::IE
theorem Jf:∀ e∈ID,aR Tryz.prog e:=cQ Uh Jg
def Td:O:=(.box [(.v (.int .i64 1)),.nilsl,.nilsl,.nilsl,.nilsl,.nilsl,.nilsl,.nilsl,(.v (.int .i64 0)),(.v (.int .i64 0)),(.v (.int .i64 0)),(.v (.int .i64 0)),(.v (.int .i64 0)),(.v (.int .i64 0)),(.v (.int .i64 0)),(.v (.int .i64 0)),(.v (.int .i64 0)),(.v (.int .i64 0)),(.v (.int .i64 0)),(.v (.int .i64 0)),(.v (.int .i64 1)),.nilsl,.nilsl,.nilsl,.nilsl,.nilsl,.nilsl,.nilsl,(.v (.int .i64 0)),(.v (.int .i64 0)),(.v (.int .i64 0)),(.v (.int .i64 0)),(.v (.int .i64 0)),(.v (.int .i64 0)),(.v (.int .i64 0)),(.v (.int .i64 0)),(.v (.int .i64 0)),(.v (.int .i64 0)),(.v (.int .i64 0)),(.v (.int .i64 0)),(.v (.int .i64 947894)),(.v (.int .i64 0)),.nilsl,.nilsl,.nilsl,.nilsl,.nilsl,.nilsl,.nilsl,(.v (.int .i64 0)),(.v (.int .i64 0)),(.v (.int .i64 0)),(.v (.int .i64 0)),(.v (.int .i64 0)),(.v (.int .i64 0)),(.v (.int .i64 0)),(.v (.int .i64 0)),(.v (.int .i64 0)),(.v (.int .i64 0)),(.v (.int .i64 0)),(.v (.int .i64 0)),(.v (.int .i64 493827)),(.v (.int .i64 (-1)))])
def ke19:Ent:=⟨53,[],[BS],⟨[],[([298,0],Td)],(.ref [298,0] 0)⟩⟩
theorem Ug:aR Tryz.prog ke19:=cT (F:=cU) Jf (by kernel_rfl)
def IB:List Ent:=ke19::ID
theorem Jd:∀ e∈IB,aR Tryz.prog e:=cQ Ug Jf
def TA:D:=(.agg [(.v (.int .i64 0)),(.v (.int .i64 1)),(.msl [0,1] 1),(.v (.int .i64 0))])
def Tz:D:=(.agg [(.v (.int .i64 1)),(.msl [595,0,83,0,175,0,104,0,743,0] 1),.nilsl,.nilsl,.nilsl,.nilsl,.nilsl,.nilsl,(.v (.int .i64 0)),(.v (.int .i64 0)),(.v (.int .i64 0)),(.v (.int .i64 0)),(.v (.int .i64 0)),(.v (.int .i64 0)),(.v (.int .i64 1)),(.v (.int .i64 0)),(.v (.int .i64 0)),(.v (.int .i64 0)),(.v (.int .i64 0)),(.v (.int .i64 0)),(.v (.int .i64 1)),.nilsl,.nilsl,.nilsl,.nilsl,.nilsl,.nilsl,.nilsl,(.v (.int .i64 0)),(.v (.int .i64 0)),(.v (.int .i64 0)),(.v (.int .i64 0)),(.v (.int .i64 0)),(.v (.int .i64 0)),(.v (.int .i64 0)),(.v (.int .i64 0)),(.v (.int .i64 0)),(.v (.int .i64 0)),(.v (.int .i64 0)),(.v (.int .i64 0)),(.v (.int .i64 947894)),(.v (.int .i64 0)),.nilsl,.nilsl,.nilsl,.nilsl,.nilsl,.nilsl,.nilsl,(.v (.int .i64 0)),(.v (.int .i64 0)),(.v (.int .i64 0)),(.v (.int .i64 0)),(.v (.int .i64 0)),(.v (.int .i64 0)),(.v (.int .i64 0)),(.v (.int .i64 0)),(.v (.int .i64 0)),(.v (.int .i64 0)),(.v (.int .i64 0)),(.v (.int .i64 0)),(.v (.int .i64 493827)),(.v (.int .i64 (-1)))])
def Ty:D:=(.tup [Tz,(.v (.int .i64 0))])
def ke20:Ent:=⟨16,[(.arr 2 [ct])],[BS,TA],⟨[],[([595,0,83,0,175,0,104,0,743,0],(.arr 1 [(.int .i64 7)]))],Ty⟩⟩
theorem Ue:aR Tryz.prog ke20:=cT (F:=cU) Jd (by kernel_rfl)
def IA:List Ent:=ke20::IB
theorem Jc:∀ e∈IA,aR Tryz.prog e:=cQ Ue Jd
def Tx:D:=(.agg [(.v (.int .i64 0)),(.msl [0,1] 1),.nilsl,(.msl [1,1] 1),.nilsl,.nilsl,.nilsl,.nilsl,(.v (.int .i64 0)),(.v (.int .i64 1)),(.v (.int .i64 0)),(.v (.int .i64 0)),(.v (.int .i64 0)),(.v (.int .i64 0)),(.v (.int .i64 0)),(.v (.int .i64 0)),(.v (.int .i64 0)),(.v (.int .i64 0)),(.v (.int .i64 0)),(.v (.int .i64 0)),(.v (.int .i64 1)),(.msl [2,1] 2),.nilsl,.nilsl,.nilsl,.nilsl,.nilsl,.nilsl,(.v (.int .i64 0)),(.v (.int .i64 0)),(.v (.int .i64 0)),(.v (.int .i64 0)),(.v (.int .i64 0)),(.v (.int .i64 0)),(.v (.int .i64 0)),(.v (.int .i64 0)),(.v (.int .i64 0)),(.v (.int .i64 0)),(.v (.int .i64 0)),(.v (.int .i64 0)),(.v (.int .i64 707989)),(.v (.int .i64 2)),(.msl [3,1] 1),.nilsl,(.msl [4,1] 1),.nilsl,.nilsl,.nilsl,.nilsl,(.v (.int .i64 0)),(.v (.int .i64 1)),(.v (.int .i64 0)),(.v (.int .i64 0)),(.v (.int .i64 0)),(.v (.int .i64 0)),(.v (.int .i64 0)),(.v (.int .i64 0)),(.v (.int .i64 0)),(.v (.int .i64 0)),(.v (.int .i64 0)),(.v (.int .i64 0)),(.v (.int .i64 288543)),(.v (.int .i64 (-1)))])
def ke21:Ent:=⟨58,[(.arr 1 [(.int .i64 9)]),(.arr 2 [ct]),cF,(.arr 1 [(.int .i64 9)]),(.arr 2 [ct])],[Tx],⟨[],[],(.v (.int .i64 0))⟩⟩
theorem Ud:aR Tryz.prog ke21:=cT (F:=cU) Jc (by kernel_rfl)
def Iz:List Ent:=ke21::IA
theorem Jb:∀ e∈Iz,aR Tryz.prog e:=cQ Ud Jc
def Tw:D:=(.agg [(.v (.int .i64 0)),(.msl [70,0,631,0] 2),.nilsl,.nilsl,.nilsl,.nilsl,.nilsl,.nilsl,(.v (.int .i64 0)),(.v (.int .i64 0)),(.v (.int .i64 0)),(.v (.int .i64 0)),(.v (.int .i64 0)),(.v (.int .i64 0)),(.v (.int .i64 0)),(.v (.int .i64 0)),(.v (.int .i64 0)),(.v (.int .i64 0)),(.v (.int .i64 0)),(.v (.int .i64 0)),(.v (.int .i64 1)),(.msl [70,0,130,0,229,0] 2),.nilsl,.nilsl,.nilsl,.nilsl,.nilsl,.nilsl,(.v (.int .i64 0)),(.v (.int .i64 0)),(.v (.int .i64 0)),(.v (.int .i64 0)),(.v (.int .i64 0)),(.v (.int .i64 0)),(.v (.int .i64 0)),(.v (.int .i64 0)),(.v (.int .i64 0)),(.v (.int .i64 0)),(.v (.int .i64 0)),(.v (.int .i64 0)),(.v (.int .i64 707989)),(.v (.int .i64 2)),(.msl [70,0,222,0,229,0] 1),.nilsl,(.msl [314,0,222,0,229,0] 1),.nilsl,.nilsl,.nilsl,.nilsl,(.v (.int .i64 0)),(.v (.int .i64 1)),(.v (.int .i64 0)),(.v (.int .i64 0)),(.v (.int .i64 0)),(.v (.int .i64 0)),(.v (.int .i64 0)),(.v (.int .i64 0)),(.v (.int .i64 0)),(.v (.int .i64 0)),(.v (.int .i64 0)),(.v (.int .i64 0)),(.v (.int .i64 288543)),(.v (.int .i64 (-1)))])
def Tv:D:=(.tup [Tw,(.v (.int .i64 0))])
def ke22:Ent:=⟨14,[(.arr 1 [(.int .i64 9)]),(.arr 2 [ct]),cF,(.arr 1 [(.int .i64 9)]),(.arr 2 [ct])],[ya,(.v (.int .i64 1))],⟨[(4,(.arr 2 [ct])),(3,(.arr 1 [(.int .i64 9)])),(2,cF),(1,(.arr 2 [ct])),(0,(.arr 1 [(.int .i64 9)]))],[([70,0,631,0],cF),([70,0,130,0,229,0],cF),([70,0,222,0,229,0],(.arr 1 [(.int .i64 9)])),([314,0,222,0,229,0],(.arr 2 [ct]))],Tv⟩⟩
theorem Uc:aR Tryz.prog ke22:=cT (F:=cU) Jb (by kernel_rfl)
def Iy:List Ent:=ke22::Iz
theorem Ja:∀ e∈Iy,aR Tryz.prog e:=cQ Uc Jb
end Go.Eng
