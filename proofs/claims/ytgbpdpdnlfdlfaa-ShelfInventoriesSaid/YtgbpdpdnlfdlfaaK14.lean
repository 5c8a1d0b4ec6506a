import Derived.Test.YtgbpdpdnlfdlfaaK13
import Derived.KernelRfl
/- Texts Sane7 to Sane7. -/
set_option linter.all false
namespace Go.Eng
open Go Go.Proofs
def J4:V:=(.sl [(.int .i64 1),(.int .i64 5)])
def zy:O:=(.arr 1 [(.int .i64 3),(.int .i64 7),(.int .i64 7),(.int .i64 2)])
def zx:O:=(.arr 1 [(.bool true),(.bool false),(.bool false),(.bool true)])
def ke47:Ent:=⟨97,[(.box [(.v J4)])],[cO,(.v (.int .i64 8)),(.clo (.func 101) [] [(.ref [0,1] 0)])],⟨[],[([134,0],jx),([129,0],zy),([132,0],zx)],(.ref [134,0] 0)⟩⟩
theorem LS:ak Try.prog ke47:=aJ (F:=aK) BQ (by kernel_rfl)
def Ay:List Ent:=ke47::Az
theorem BP:∀ e∈Ay,ak Try.prog e:=aL LS BQ
def Kh:O:=(.arr 1 [(.int .i64 1),(.int .i64 4),(.int .i64 2)])
def ke48:Ent:=⟨64,[b9,zy,zx],[(.ref [0,1] 0)],⟨[],[([8913,0],Kh)],fx⟩⟩
theorem LQ:ak Try.prog ke48:=aJ (F:=aK) BP (by kernel_rfl)
def Ax:List Ent:=ke48::Ay
theorem BO:∀ e∈Ax,ak Try.prog e:=aL LQ BP
def J3:V:=(.sl [(.int .i64 2),(.int .i64 5)])
def uo:O:=(.arr 1 [(.int .i64 7),(.int .i64 3),(.int .i64 7),(.int .i64 2)])
def um:O:=(.arr 1 [(.bool false),(.bool true),(.bool false),(.bool true)])
def ke49:Ent:=⟨97,[(.box [(.v J3)])],[cO,(.v (.int .i64 8)),(.clo (.func 101) [] [(.ref [0,1] 0)])],⟨[],[([134,0],jx),([129,0],uo),([132,0],um)],(.ref [134,0] 0)⟩⟩
theorem LP:ak Try.prog ke49:=aJ (F:=aK) BO (by kernel_rfl)
def Av:List Ent:=ke49::Ax
theorem BM:∀ e∈Av,ak Try.prog e:=aL LP BO
def Kf:O:=(.box [(.ref [1,1] 0),(.msl [4,1] 3),(.msl [5,1] 4)])
def Ke:O:=(.arr 1 [(.int .i64 2),(.int .i64 1),(.int .i64 0),(.int .i64 (-1))])
def Kd:O:=(.arr 1 [(.int .i64 2),(.int .i64 1),(.int .i64 0)])
def Kc:O:=(.map 0 [((.int .i64 2),(.bool true)),((.int .i64 1),(.bool true)),((.int .i64 0),(.bool true))])
def ke50:Ent:=⟨103,[Kf,kq,uo,um,zA,zz,(.map 0 [])],[(.ref [0,1] 0),(.v (.int .i64 2)),(.map [6,1])],⟨[(5,Ke),(4,Kd),(6,Kc)],[],(.v (.bool true))⟩⟩
theorem LN:ak Try.prog ke50:=aJ (F:=aK) BM (by kernel_rfl)
def Au:List Ent:=ke50::Av
theorem BL:∀ e∈Au,ak Try.prog e:=aL LN BM
def Kb:O:=(.arr 1 [(.int .i64 2),(.int .i64 4),(.int .i64 1)])
def ke51:Ent:=⟨64,[b9,uo,um],[(.ref [0,1] 0)],⟨[],[([8913,0],Kb)],fx⟩⟩
theorem LM:ak Try.prog ke51:=aJ (F:=aK) BL (by kernel_rfl)
def As:List Ent:=ke51::Au
theorem BK:∀ e∈As,ak Try.prog e:=aL LM BL
def KB:D:=(.tup [(.v zo),(.v (.int .i64 0))])
def ke52:Ent:=⟨12,[],[cO,(.v (.int .i64 8))],⟨[],[],KB⟩⟩
theorem LL:ak Try.prog ke52:=aJ (F:=aK) BK (by kernel_rfl)
def Ar:List Ent:=ke52::As
theorem BJ:∀ e∈Ar,ak Try.prog e:=aL LL BK
def ke53:Ent:=⟨97,[],[cO,(.v (.int .i64 6)),(.v (.clo (.func 98) [] []))],⟨[],[([134,0],jx),([129,0],iK),([132,0],a8)],(.ref [134,0] 0)⟩⟩
theorem LK:ak Try.prog ke53:=aJ (F:=aK) BJ (by kernel_rfl)
def Aq:List Ent:=ke53::Ar
theorem BI:∀ e∈Aq,ak Try.prog e:=aL LK BJ
def ke54:Ent:=⟨63,[],[uy,cO,(.v (.int .i64 6))],⟨[],[([134,0,245,0,40,0],kr),([129,0,245,0,40,0],iK),([132,0,245,0,40,0],a8)],gW⟩⟩
theorem LJ:ak Try.prog ke54:=aJ (F:=aK) BI (by kernel_rfl)
def Ap:List Ent:=ke54::Aq
theorem BH:∀ e∈Ap,ak Try.prog e:=aL LJ BI
end Go.Eng
