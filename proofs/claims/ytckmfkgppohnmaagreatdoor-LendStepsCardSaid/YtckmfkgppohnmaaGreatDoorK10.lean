import Derived.Test.YtckmfkgppohnmaaGreatDoorK9
import Derived.KernelRfl
/- Texts Sane1 to Sane1. -/
set_option linter.all false
namespace Go.Eng
open Go Go.Proofs
def cU:List Nat:=[37,89,74,53,8,58,10,26,16,14,69,70,19]
def x9:V:=(.sl [(.int .i64 7),(.int .i64 9)])
def cF:O:=(.arr 1 [(.int .i64 7),(.int .i64 9)])
def TB:D:=(.agg [(.v (.int .i64 0)),(.msl [127,0] 2),.nilsl,.nilsl,.nilsl,.nilsl,.nilsl,.nilsl,(.v (.int .i64 0)),(.v (.int .i64 0)),(.v (.int .i64 0)),(.v (.int .i64 0)),(.v (.int .i64 0)),(.v (.int .i64 0)),(.v (.int .i64 0)),(.v (.int .i64 0)),(.v (.int .i64 0)),(.v (.int .i64 0)),(.v (.int .i64 0)),(.v (.int .i64 0)),(.v (.int .i64 1)),(.msl [70,0,167,0] 2),.nilsl,.nilsl,.nilsl,.nilsl,.nilsl,.nilsl,(.v (.int .i64 0)),(.v (.int .i64 0)),(.v (.int .i64 0)),(.v (.int .i64 0)),(.v (.int .i64 0)),(.v (.int .i64 0)),(.v (.int .i64 0)),(.v (.int .i64 0)),(.v (.int .i64 0)),(.v (.int .i64 0)),(.v (.int .i64 0)),(.v (.int .i64 0)),(.v (.int .i64 707989)),(.v (.int .i64 0)),.nilsl,.nilsl,.nilsl,.nilsl,.nilsl,.nilsl,.nilsl,(.v (.int .i64 0)),(.v (.int .i64 0)),(.v (.int .i64 0)),(.v (.int .i64 0)),(.v (.int .i64 0)),(.v (.int .i64 0)),(.v (.int .i64 0)),(.v (.int .i64 0)),(.v (.int .i64 0)),(.v (.int .i64 0)),(.v (.int .i64 0)),(.v (.int .i64 0)),(.v (.int .i64 493827)),(.v (.int .i64 (-1)))])
def Tu:D:=(.tup [TB,(.v (.int .i64 0))])
def ke0:Ent:=⟨37,[],[(.v (.int .i64 0)),(.v x9)],⟨[],[([127,0],cF),([70,0,167,0],cF)],Tu⟩⟩
theorem Ur:aR Tryz.prog ke0:=cT (F:=cU) Jq (by kernel_rfl)
def IN:List Ent:=ke0::IP
theorem Jp:∀ e∈IN,aR Tryz.prog e:=cQ Ur Jq
def Tl:D:=(.agg [(.msl [0,1] 2),.nilsl,.nilsl,.nilsl,.nilsl,.nilsl,.nilsl,(.v (.int .i64 0)),(.v (.int .i64 0)),(.v (.int .i64 0)),(.v (.int .i64 0)),(.v (.int .i64 0)),(.v (.int .i64 0)),(.v (.int .i64 0)),(.v (.int .i64 0)),(.v (.int .i64 0)),(.v (.int .i64 0)),(.v (.int .i64 0)),(.v (.int .i64 0))])
def ke1:Ent:=⟨89,[cF],[(.v (.int .i64 0)),Tl],⟨[],[],(.v (.bool true))⟩⟩
theorem Uq:aR Tryz.prog ke1:=cT (F:=cU) Jp (by kernel_rfl)
def IC:List Ent:=ke1::IN
theorem Je:∀ e∈IC,aR Tryz.prog e:=cQ Uq Jp
def Ia:D:=(.agg [.nilsl,.nilsl,.nilsl,.nilsl,.nilsl,.nilsl,.nilsl,(.v (.int .i64 0)),(.v (.int .i64 0)),(.v (.int .i64 0)),(.v (.int .i64 0)),(.v (.int .i64 0)),(.v (.int .i64 0)),(.v (.int .i64 0)),(.v (.int .i64 0)),(.v (.int .i64 0)),(.v (.int .i64 0)),(.v (.int .i64 0)),(.v (.int .i64 0))])
def ke2:Ent:=⟨89,[],[(.v (.int .i64 0)),Ia],⟨[],[],(.v (.bool true))⟩⟩
theorem Uf:aR Tryz.prog ke2:=cT (F:=cU) Je (by kernel_rfl)
def Ir:List Ent:=ke2::IC
theorem I4:∀ e∈Ir,aR Tryz.prog e:=cQ Uf Je
def BR:D:=(.agg [(.v (.int .i64 0)),(.msl [0,1] 2),.nilsl,.nilsl,.nilsl,.nilsl,.nilsl,.nilsl,(.v (.int .i64 0)),(.v (.int .i64 0)),(.v (.int .i64 0)),(.v (.int .i64 0)),(.v (.int .i64 0)),(.v (.int .i64 0)),(.v (.int .i64 0)),(.v (.int .i64 0)),(.v (.int .i64 0)),(.v (.int .i64 0)),(.v (.int .i64 0)),(.v (.int .i64 0)),(.v (.int .i64 1)),(.msl [1,1] 2),.nilsl,.nilsl,.nilsl,.nilsl,.nilsl,.nilsl,(.v (.int .i64 0)),(.v (.int .i64 0)),(.v (.int .i64 0)),(.v (.int .i64 0)),(.v (.int .i64 0)),(.v (.int .i64 0)),(.v (.int .i64 0)),(.v (.int .i64 0)),(.v (.int .i64 0)),(.v (.int .i64 0)),(.v (.int .i64 0)),(.v (.int .i64 0)),(.v (.int .i64 707989)),(.v (.int .i64 0)),.nilsl,.nilsl,.nilsl,.nilsl,.nilsl,.nilsl,.nilsl,(.v (.int .i64 0)),(.v (.int .i64 0)),(.v (.int .i64 0)),(.v (.int .i64 0)),(.v (.int .i64 0)),(.v (.int .i64 0)),(.v (.int .i64 0)),(.v (.int .i64 0)),(.v (.int .i64 0)),(.v (.int .i64 0)),(.v (.int .i64 0)),(.v (.int .i64 0)),(.v (.int .i64 493827)),(.v (.int .i64 (-1)))])
def ke3:Ent:=⟨74,[cF,cF],[BR],⟨[],[],(.v (.bool true))⟩⟩
theorem T4:aR Tryz.prog ke3:=cT (F:=cU) I4 (by kernel_rfl)
def Ij:List Ent:=ke3::Ir
theorem IX:∀ e∈Ij,aR Tryz.prog e:=cQ T4 I4
def Tc:O:=(.box [(.v (.int .i64 0)),(.msl [70,0,28,0] 2),.nilsl,.nilsl,.nilsl,.nilsl,.nilsl,.nilsl,(.v (.int .i64 0)),(.v (.int .i64 0)),(.v (.int .i64 0)),(.v (.int .i64 0)),(.v (.int .i64 0)),(.v (.int .i64 0)),(.v (.int .i64 0)),(.v (.int .i64 0)),(.v (.int .i64 0)),(.v (.int .i64 0)),(.v (.int .i64 0)),(.v (.int .i64 0)),(.v (.int .i64 1)),(.msl [70,0,130,0] 2),.nilsl,.nilsl,.nilsl,.nilsl,.nilsl,.nilsl,(.v (.int .i64 0)),(.v (.int .i64 0)),(.v (.int .i64 0)),(.v (.int .i64 0)),(.v (.int .i64 0)),(.v (.int .i64 0)),(.v (.int .i64 0)),(.v (.int .i64 0)),(.v (.int .i64 0)),(.v (.int .i64 0)),(.v (.int .i64 0)),(.v (.int .i64 0)),(.v (.int .i64 707989)),(.v (.int .i64 0)),.nilsl,.nilsl,.nilsl,.nilsl,.nilsl,.nilsl,.nilsl,(.v (.int .i64 0)),(.v (.int .i64 0)),(.v (.int .i64 0)),(.v (.int .i64 0)),(.v (.int .i64 0)),(.v (.int .i64 0)),(.v (.int .i64 0)),(.v (.int .i64 0)),(.v (.int .i64 0)),(.v (.int .i64 0)),(.v (.int .i64 0)),(.v (.int .i64 0)),(.v (.int .i64 493827)),(.v (.int .i64 (-1)))])
def ke4:Ent:=⟨53,[cF,cF],[BR],⟨[(1,cF),(0,cF)],[([298,0],Tc),([70,0,28,0],cF),([70,0,130,0],cF)],(.ref [298,0] 0)⟩⟩
theorem TV:aR Tryz.prog ke4:=cT (F:=cU) IX (by kernel_rfl)
def Ii:List Ent:=ke4::Ij
theorem IW:∀ e∈Ii,aR Tryz.prog e:=cQ TV IX
def ct:V:=(.agg [(.int .i64 1),(.int .i64 7)])
def Tg:D:=(.agg [(.v (.int .i64 0)),(.v (.sl [(.int .i64 9)])),.nilsl,(.msl [1563,0] 1),.nilsl,.nilsl,.nilsl,.nilsl,(.v (.int .i64 0)),(.v (.int .i64 1)),(.v (.int .i64 0)),(.v (.int .i64 0)),(.v (.int .i64 0)),(.v (.int .i64 0)),(.v (.int .i64 0)),(.v (.int .i64 0)),(.v (.int .i64 0)),(.v (.int .i64 0)),(.v (.int .i64 0)),(.v (.int .i64 0)),(.v (.int .i64 1)),(.msl [70,0,130,0,1149,0] 2),.nilsl,.nilsl,.nilsl,.nilsl,.nilsl,.nilsl,(.v (.int .i64 0)),(.v (.int .i64 0)),(.v (.int .i64 0)),(.v (.int .i64 0)),(.v (.int .i64 0)),(.v (.int .i64 0)),(.v (.int .i64 0)),(.v (.int .i64 0)),(.v (.int .i64 0)),(.v (.int .i64 0)),(.v (.int .i64 0)),(.v (.int .i64 0)),(.v (.int .i64 707989)),(.v (.int .i64 0)),.nilsl,.nilsl,.nilsl,.nilsl,.nilsl,.nilsl,.nilsl,(.v (.int .i64 0)),(.v (.int .i64 0)),(.v (.int .i64 0)),(.v (.int .i64 0)),(.v (.int .i64 0)),(.v (.int .i64 0)),(.v (.int .i64 0)),(.v (.int .i64 0)),(.v (.int .i64 0)),(.v (.int .i64 0)),(.v (.int .i64 0)),(.v (.int .i64 0)),(.v (.int .i64 493827)),(.v (.int .i64 (-1)))])
def TI:D:=(.tup [Tg,(.v (.int .i64 0))])
def ke5:Ent:=⟨8,[cF,cF],[BR,(.v (.int .i64 7)),(.v (.int .i64 1))],⟨[(1,cF),(0,cF)],[([1563,0],(.arr 2 [ct])),([70,0,130,0,1149,0],cF)],TI⟩⟩
theorem TU:aR Tryz.prog ke5:=cT (F:=cU) IW (by kernel_rfl)
def Ih:List Ent:=ke5::Ii
theorem IV:∀ e∈Ih,aR Tryz.prog e:=cQ TU IW
def TH:D:=(.agg [(.v (.sl [(.int .i64 9)])),.nilsl,(.msl [0,1] 1),.nilsl,.nilsl,.nilsl,.nilsl,(.v (.int .i64 0)),(.v (.int .i64 1)),(.v (.int .i64 0)),(.v (.int .i64 0)),(.v (.int .i64 0)),(.v (.int .i64 0)),(.v (.int .i64 0)),(.v (.int .i64 0)),(.v (.int .i64 0)),(.v (.int .i64 0)),(.v (.int .i64 0)),(.v (.int .i64 0))])
def ke6:Ent:=⟨89,[(.arr 2 [ct])],[(.v (.int .i64 0)),TH],⟨[],[],(.v (.bool true))⟩⟩
theorem TT:aR Tryz.prog ke6:=cT (F:=cU) IV (by kernel_rfl)
def Ig:List Ent:=ke6::Ih
theorem IU:∀ e∈Ig,aR Tryz.prog e:=cQ TT IV
end Go.Eng
