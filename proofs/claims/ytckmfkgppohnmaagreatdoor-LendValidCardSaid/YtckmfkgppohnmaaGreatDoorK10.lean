import Derived.Test.YtckmfkgppohnmaaGreatDoorK9
import Derived.KernelRfl
/- Texts Sane1 to Sane1. -/
set_option linter.all false
namespace Go.Eng
open Go Go.Proofs
def cQ:List Nat:=[37,89,74,53,8,58,10,26,16,14,69,70,19]
def yF:V:=(.sl [(.int .i64 7),(.int .i64 9)])
def cC:O:=(.arr 1 [(.int .i64 7),(.int .i64 9)])
def US:D:=(.agg [(.v (.int .i64 0)),(.msl [127,0] 2),.nilsl,.nilsl,.nilsl,.nilsl,.nilsl,.nilsl,(.v (.int .i64 0)),(.v (.int .i64 0)),(.v (.int .i64 0)),(.v (.int .i64 0)),(.v (.int .i64 0)),(.v (.int .i64 0)),(.v (.int .i64 0)),(.v (.int .i64 0)),(.v (.int .i64 0)),(.v (.int .i64 0)),(.v (.int .i64 0)),(.v (.int .i64 0)),(.v (.int .i64 1)),(.msl [70,0,167,0] 2),.nilsl,.nilsl,.nilsl,.nilsl,.nilsl,.nilsl,(.v (.int .i64 0)),(.v (.int .i64 0)),(.v (.int .i64 0)),(.v (.int .i64 0)),(.v (.int .i64 0)),(.v (.int .i64 0)),(.v (.int .i64 0)),(.v (.int .i64 0)),(.v (.int .i64 0)),(.v (.int .i64 0)),(.v (.int .i64 0)),(.v (.int .i64 0)),(.v (.int .i64 707989)),(.v (.int .i64 0)),.nilsl,.nilsl,.nilsl,.nilsl,.nilsl,.nilsl,.nilsl,(.v (.int .i64 0)),(.v (.int .i64 0)),(.v (.int .i64 0)),(.v (.int .i64 0)),(.v (.int .i64 0)),(.v (.int .i64 0)),(.v (.int .i64 0)),(.v (.int .i64 0)),(.v (.int .i64 0)),(.v (.int .i64 0)),(.v (.int .i64 0)),(.v (.int .i64 0)),(.v (.int .i64 493827)),(.v (.int .i64 (-1)))])
def UL:D:=(.tup [US,(.v (.int .i64 0))])
def ke0:Ent:=⟨37,[],[(.v (.int .i64 0)),(.v yF)],⟨[],[([127,0],cC),([70,0,167,0],cC)],UL⟩⟩
theorem VG:aT Tryz.prog ke0:=cP (F:=cQ) J' (by kernel_rfl)
def JA:List Ent:=ke0::JB
theorem J9:∀ e∈JA,aT Tryz.prog e:=cS VG J'
def UC:D:=(.agg [(.msl [0,1] 2),.nilsl,.nilsl,.nilsl,.nilsl,.nilsl,.nilsl,(.v (.int .i64 0)),(.v (.int .i64 0)),(.v (.int .i64 0)),(.v (.int .i64 0)),(.v (.int .i64 0)),(.v (.int .i64 0)),(.v (.int .i64 0)),(.v (.int .i64 0)),(.v (.int .i64 0)),(.v (.int .i64 0)),(.v (.int .i64 0)),(.v (.int .i64 0))])
def ke1:Ent:=⟨89,[cC],[(.v (.int .i64 0)),UC],⟨[],[],(.v (.bool true))⟩⟩
theorem VF:aT Tryz.prog ke1:=cP (F:=cQ) J9 (by kernel_rfl)
def Jp:List Ent:=ke1::JA
theorem JY:∀ e∈Jp,aT Tryz.prog e:=cS VF J9
def I1:D:=(.agg [.nilsl,.nilsl,.nilsl,.nilsl,.nilsl,.nilsl,.nilsl,(.v (.int .i64 0)),(.v (.int .i64 0)),(.v (.int .i64 0)),(.v (.int .i64 0)),(.v (.int .i64 0)),(.v (.int .i64 0)),(.v (.int .i64 0)),(.v (.int .i64 0)),(.v (.int .i64 0)),(.v (.int .i64 0)),(.v (.int .i64 0)),(.v (.int .i64 0))])
def ke2:Ent:=⟨89,[],[(.v (.int .i64 0)),I1],⟨[],[],(.v (.bool true))⟩⟩
theorem Vu:aT Tryz.prog ke2:=cP (F:=cQ) JY (by kernel_rfl)
def Je:List Ent:=ke2::Jp
theorem JN:∀ e∈Je,aT Tryz.prog e:=cS Vu JY
def Cw:D:=(.agg [(.v (.int .i64 0)),(.msl [0,1] 2),.nilsl,.nilsl,.nilsl,.nilsl,.nilsl,.nilsl,(.v (.int .i64 0)),(.v (.int .i64 0)),(.v (.int .i64 0)),(.v (.int .i64 0)),(.v (.int .i64 0)),(.v (.int .i64 0)),(.v (.int .i64 0)),(.v (.int .i64 0)),(.v (.int .i64 0)),(.v (.int .i64 0)),(.v (.int .i64 0)),(.v (.int .i64 0)),(.v (.int .i64 1)),(.msl [1,1] 2),.nilsl,.nilsl,.nilsl,.nilsl,.nilsl,.nilsl,(.v (.int .i64 0)),(.v (.int .i64 0)),(.v (.int .i64 0)),(.v (.int .i64 0)),(.v (.int .i64 0)),(.v (.int .i64 0)),(.v (.int .i64 0)),(.v (.int .i64 0)),(.v (.int .i64 0)),(.v (.int .i64 0)),(.v (.int .i64 0)),(.v (.int .i64 0)),(.v (.int .i64 707989)),(.v (.int .i64 0)),.nilsl,.nilsl,.nilsl,.nilsl,.nilsl,.nilsl,.nilsl,(.v (.int .i64 0)),(.v (.int .i64 0)),(.v (.int .i64 0)),(.v (.int .i64 0)),(.v (.int .i64 0)),(.v (.int .i64 0)),(.v (.int .i64 0)),(.v (.int .i64 0)),(.v (.int .i64 0)),(.v (.int .i64 0)),(.v (.int .i64 0)),(.v (.int .i64 0)),(.v (.int .i64 493827)),(.v (.int .i64 (-1)))])
def ke3:Ent:=⟨74,[cC,cC],[Cw],⟨[],[],(.v (.bool true))⟩⟩
theorem Vj:aT Tryz.prog ke3:=cP (F:=cQ) JN (by kernel_rfl)
def I9:List Ent:=ke3::Je
theorem JH:∀ e∈I9,aT Tryz.prog e:=cS Vj JN
def Ut:O:=(.box [(.v (.int .i64 0)),(.msl [70,0,28,0] 2),.nilsl,.nilsl,.nilsl,.nilsl,.nilsl,.nilsl,(.v (.int .i64 0)),(.v (.int .i64 0)),(.v (.int .i64 0)),(.v (.int .i64 0)),(.v (.int .i64 0)),(.v (.int .i64 0)),(.v (.int .i64 0)),(.v (.int .i64 0)),(.v (.int .i64 0)),(.v (.int .i64 0)),(.v (.int .i64 0)),(.v (.int .i64 0)),(.v (.int .i64 1)),(.msl [70,0,130,0] 2),.nilsl,.nilsl,.nilsl,.nilsl,.nilsl,.nilsl,(.v (.int .i64 0)),(.v (.int .i64 0)),(.v (.int .i64 0)),(.v (.int .i64 0)),(.v (.int .i64 0)),(.v (.int .i64 0)),(.v (.int .i64 0)),(.v (.int .i64 0)),(.v (.int .i64 0)),(.v (.int .i64 0)),(.v (.int .i64 0)),(.v (.int .i64 0)),(.v (.int .i64 707989)),(.v (.int .i64 0)),.nilsl,.nilsl,.nilsl,.nilsl,.nilsl,.nilsl,.nilsl,(.v (.int .i64 0)),(.v (.int .i64 0)),(.v (.int .i64 0)),(.v (.int .i64 0)),(.v (.int .i64 0)),(.v (.int .i64 0)),(.v (.int .i64 0)),(.v (.int .i64 0)),(.v (.int .i64 0)),(.v (.int .i64 0)),(.v (.int .i64 0)),(.v (.int .i64 0)),(.v (.int .i64 493827)),(.v (.int .i64 (-1)))])
def ke4:Ent:=⟨53,[cC,cC],[Cw],⟨[(1,cC),(0,cC)],[([298,0],Ut),([70,0,28,0],cC),([70,0,130,0],cC)],(.ref [298,0] 0)⟩⟩
theorem Vc:aT Tryz.prog ke4:=cP (F:=cQ) JH (by kernel_rfl)
def I8:List Ent:=ke4::I9
theorem JG:∀ e∈I8,aT Tryz.prog e:=cS Vc JH
def cp:V:=(.agg [(.int .i64 1),(.int .i64 7)])
def Ux:D:=(.agg [(.v (.int .i64 0)),(.v (.sl [(.int .i64 9)])),.nilsl,(.msl [1563,0] 1),.nilsl,.nilsl,.nilsl,.nilsl,(.v (.int .i64 0)),(.v (.int .i64 1)),(.v (.int .i64 0)),(.v (.int .i64 0)),(.v (.int .i64 0)),(.v (.int .i64 0)),(.v (.int .i64 0)),(.v (.int .i64 0)),(.v (.int .i64 0)),(.v (.int .i64 0)),(.v (.int .i64 0)),(.v (.int .i64 0)),(.v (.int .i64 1)),(.msl [70,0,130,0,1149,0] 2),.nilsl,.nilsl,.nilsl,.nilsl,.nilsl,.nilsl,(.v (.int .i64 0)),(.v (.int .i64 0)),(.v (.int .i64 0)),(.v (.int .i64 0)),(.v (.int .i64 0)),(.v (.int .i64 0)),(.v (.int .i64 0)),(.v (.int .i64 0)),(.v (.int .i64 0)),(.v (.int .i64 0)),(.v (.int .i64 0)),(.v (.int .i64 0)),(.v (.int .i64 707989)),(.v (.int .i64 0)),.nilsl,.nilsl,.nilsl,.nilsl,.nilsl,.nilsl,.nilsl,(.v (.int .i64 0)),(.v (.int .i64 0)),(.v (.int .i64 0)),(.v (.int .i64 0)),(.v (.int .i64 0)),(.v (.int .i64 0)),(.v (.int .i64 0)),(.v (.int .i64 0)),(.v (.int .i64 0)),(.v (.int .i64 0)),(.v (.int .i64 0)),(.v (.int .i64 0)),(.v (.int .i64 493827)),(.v (.int .i64 (-1)))])
def U0:D:=(.tup [Ux,(.v (.int .i64 0))])
def ke5:Ent:=⟨8,[cC,cC],[Cw,(.v (.int .i64 7)),(.v (.int .i64 1))],⟨[(1,cC),(0,cC)],[([1563,0],(.arr 2 [cp])),([70,0,130,0,1149,0],cC)],U0⟩⟩
theorem Vb:aT Tryz.prog ke5:=cP (F:=cQ) JG (by kernel_rfl)
def I7:List Ent:=ke5::I8
theorem JF:∀ e∈I7,aT Tryz.prog e:=cS Vb JG
def UZ:D:=(.agg [(.v (.sl [(.int .i64 9)])),.nilsl,(.msl [0,1] 1),.nilsl,.nilsl,.nilsl,.nilsl,(.v (.int .i64 0)),(.v (.int .i64 1)),(.v (.int .i64 0)),(.v (.int .i64 0)),(.v (.int .i64 0)),(.v (.int .i64 0)),(.v (.int .i64 0)),(.v (.int .i64 0)),(.v (.int .i64 0)),(.v (.int .i64 0)),(.v (.int .i64 0)),(.v (.int .i64 0))])
def ke6:Ent:=⟨89,[(.arr 2 [cp])],[(.v (.int .i64 0)),UZ],⟨[],[],(.v (.bool true))⟩⟩
theorem Va:aT Tryz.prog ke6:=cP (F:=cQ) JF (by kernel_rfl)
def I6:List Ent:=ke6::I7
theorem JE:∀ e∈I6,aT Tryz.prog e:=cS Va JF
end Go.Eng
