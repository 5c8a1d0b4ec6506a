import Derived.Test.YtgbpdpdnlfdlfaaK12
import Derived.KernelRfl
/- Texts Sane6 to Sane6. -/
set_option linter.all false
namespace Go.Eng
open Go Go.Proofs
def ke39:Ent:=⟨64,[b9,zC,eA],[(.ref [0,1] 0)],⟨[],[([4677,0],(.arr 1 [(.int .i64 9)]))],lC⟩⟩
theorem L2:ak Try.prog ke39:=aJ (F:=aK) B0 (by kernel_rfl)
def AH:List Ent:=ke39::AJ
theorem BX:∀ e∈AH,ak Try.prog e:=aL L2 B0
def J6:V:=(.sl [(.int .i64 1),(.int .i64 2),(.int .i64 3),(.int .i64 4)])
def iK:O:=(.arr 1 [(.int .i64 3),(.int .i64 2),(.int .i64 0),(.int .i64 7)])
def ke40:Ent:=⟨97,[(.box [(.v J6)])],[cO,(.v (.int .i64 8)),(.clo (.func 101) [] [(.ref [0,1] 0)])],⟨[],[([134,0],jx),([129,0],iK),([132,0],a8)],(.ref [134,0] 0)⟩⟩
theorem L0:ak Try.prog ke40:=aJ (F:=aK) BX (by kernel_rfl)
def AG:List Ent:=ke40::AH
theorem BW:∀ e∈AG,ak Try.prog e:=aL L0 BX
def ke41:Ent:=⟨64,[b9,iK,a8],[(.ref [0,1] 0)],⟨[],[([8913,0],lB)],fx⟩⟩
theorem LZ:ak Try.prog ke41:=aJ (F:=aK) BW (by kernel_rfl)
def AF:List Ent:=ke41::AG
theorem BV:∀ e∈AF,ak Try.prog e:=aL LZ BW
def J5:V:=(.sl [(.int .i64 1),(.int .i64 2),(.int .i64 3),(.int .i64 5)])
def zB:O:=(.arr 1 [(.int .i64 3),(.int .i64 3),(.int .i64 0),(.int .i64 2)])
def ke42:Ent:=⟨97,[(.box [(.v J5)])],[cO,(.v (.int .i64 8)),(.clo (.func 101) [] [(.ref [0,1] 0)])],⟨[],[([134,0],jx),([129,0],zB),([132,0],eA)],(.ref [134,0] 0)⟩⟩
theorem LY:ak Try.prog ke42:=aJ (F:=aK) BV (by kernel_rfl)
def AE:List Ent:=ke42::AF
theorem BU:∀ e∈AE,ak Try.prog e:=aL LY BV
def ke43:Ent:=⟨64,[b9,zB,eA],[(.ref [0,1] 0)],⟨[],[([4677,0],(.arr 1 [(.int .i64 9)]))],lC⟩⟩
theorem LX:ak Try.prog ke43:=aJ (F:=aK) BU (by kernel_rfl)
def AD:List Ent:=ke43::AE
theorem BT:∀ e∈AD,ak Try.prog e:=aL LX BU
def zo:V:=(.sl [(.int .i64 1),(.int .i64 2),(.int .i64 5)])
def uq:O:=(.arr 1 [(.int .i64 3),(.int .i64 3),(.int .i64 7),(.int .i64 2)])
def ke44:Ent:=⟨97,[(.box [(.v zo)])],[cO,(.v (.int .i64 8)),(.clo (.func 101) [] [(.ref [0,1] 0)])],⟨[],[([134,0],jx),([129,0],uq),([132,0],eA)],(.ref [134,0] 0)⟩⟩
theorem LW:ak Try.prog ke44:=aJ (F:=aK) BT (by kernel_rfl)
def AB:List Ent:=ke44::AD
theorem BS:∀ e∈AB,ak Try.prog e:=aL LW BT
def Kl:O:=(.box [(.ref [4,1] 0),(.msl [7,1] 3),(.msl [8,1] 4)])
def Kk:O:=(.box [(.v lA),(.msl [5,1] 4),(.msl [6,1] 4)])
def zA:O:=(.arr 1 [(.int .i64 1),(.int .i64 0),(.int .i64 (-1))])
def zz:O:=(.arr 1 [(.int .i64 1),(.int .i64 0),(.int .i64 (-1)),(.int .i64 (-1))])
def Kj:O:=(.box [(.clo (.func 122) [] [(.ref [0,1] 0),(.ref [2,1] 0),(.ref [9,1] 0)])])
def Ki:O:=(.map 0 [((.int .i64 3),(.bool true)),((.int .i64 0),(.bool true)),((.int .i64 1),(.bool true))])
def ke45:Ent:=⟨122,[(.box [(.map [1,1])]),(.map 0 []),(.box [(.ref [3,1] 0)]),Kl,Kk,uq,eA,zA,zz,Kj],[(.v (.int .i64 3)),(.ref [0,1] 0),(.ref [2,1] 0),(.ref [9,1] 0)],⟨[(1,Ki)],[],(.v (.bool false))⟩⟩
theorem LV:ak Try.prog ke45:=aJ (F:=aK) BS (by kernel_rfl)
def AA:List Ent:=ke45::AB
theorem BR:∀ e∈AA,ak Try.prog e:=aL LV BS
def KD:D:=(.agg [(.v (.bool true)),(.msl [7034,0] 3)])
def KC:D:=(.tup [.nilsl,KD,(.v (.bool false))])
def ke46:Ent:=⟨64,[b9,uq,eA],[(.ref [0,1] 0)],⟨[],[([7034,0],lB)],KC⟩⟩
theorem LU:ak Try.prog ke46:=aJ (F:=aK) BR (by kernel_rfl)
def Az:List Ent:=ke46::AA
theorem BQ:∀ e∈Az,ak Try.prog e:=aL LU BR
end Go.Eng
