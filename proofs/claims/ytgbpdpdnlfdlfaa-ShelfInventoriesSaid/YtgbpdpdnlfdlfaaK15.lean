import Derived.Test.YtgbpdpdnlfdlfaaK14
import Derived.KernelRfl
/- Texts Sane8 to Sane8. -/
set_option linter.all false
namespace Go.Eng
open Go Go.Proofs
def ke55:Ent:=⟨73,[b9,iK,a8],[(.ref [0,1] 0),(.v (.int .i64 0))],⟨[(2,a8),(1,iK)],[([61,0,120,0,64,0],(.arr 1 [(.int .i64 1)]))],(.msl [61,0,120,0,64,0] 1)⟩⟩
theorem LH:ak Try.prog ke55:=aJ (F:=aK) BH (by kernel_rfl)
def Ao:List Ent:=ke55::Ap
theorem BG:∀ e∈Ao,ak Try.prog e:=aL LH BH
def uh:V:=(.sl [zu,zt,zr,zp])
def Ka:O:=(.box [(.v (.int .i64 4)),(.msl [1,1] 3),(.v uh)])
def eY:O:=(.arr 1 [(.int .i64 5),(.int .i64 7),(.int .i64 9)])
def ke56:Ent:=⟨92,[Ka,eY],[(.v uh),(.v (.clo (.func 93) [] [])),(.clo (.func 94) [] [(.ref [0,1] 0)])],⟨[],[],(.v (.bool true))⟩⟩
theorem LG:ak Try.prog ke56:=aJ (F:=aK) BG (by kernel_rfl)
def An:List Ent:=ke56::Ao
theorem BF:∀ e∈An,ak Try.prog e:=aL LG BG
def qH:D:=(.agg [(.v (.int .i64 4)),(.msl [0,1] 3),(.v uh)])
def KA:O:=(.box [(.msl [0,1] 3),(.msl [129,0] 4),(.msl [132,0] 4)])
def ke57:Ent:=⟨97,[eY],[qH,(.v (.int .i64 6)),(.v (.clo (.func 98) [] []))],⟨[],[([134,0],KA),([129,0],dj),([132,0],a8)],(.ref [134,0] 0)⟩⟩
theorem LF:ak Try.prog ke57:=aJ (F:=aK) BF (by kernel_rfl)
def Am:List Ent:=ke57::An
theorem BE:∀ e∈Am,ak Try.prog e:=aL LF BF
def iL:O:=(.box [(.msl [1,1] 3),(.msl [2,1] 4),(.msl [3,1] 4)])
def ke58:Ent:=⟨64,[iL,eY,dj,a8],[(.ref [0,1] 0)],⟨[],[([8913,0],jw)],fx⟩⟩
theorem LD:ak Try.prog ke58:=aJ (F:=aK) BE (by kernel_rfl)
def Al:List Ent:=ke58::Am
theorem BD:∀ e∈Al,ak Try.prog e:=aL LD BE
def uw:O:=(.box [(.msl [0,1] 3),(.msl [129,0,245,0,40,0] 4),(.msl [132,0,245,0,40,0] 4)])
def ke59:Ent:=⟨63,[eY],[uy,qH,(.v (.int .i64 6))],⟨[],[([134,0,245,0,40,0],uw),([129,0,245,0,40,0],dj),([132,0,245,0,40,0],a8)],gW⟩⟩
theorem LC:ak Try.prog ke59:=aJ (F:=aK) BD (by kernel_rfl)
def Aj:List Ent:=ke59::Al
theorem BB:∀ e∈Aj,ak Try.prog e:=aL LC BD
def ke60:Ent:=⟨64,[iL,eY,zP,a8],[(.ref [0,1] 0)],⟨[],[([8913,0],lB)],fx⟩⟩
theorem LA:ak Try.prog ke60:=aJ (F:=aK) BB (by kernel_rfl)
def Ai:List Ent:=ke60::Aj
theorem BA:∀ e∈Ai,ak Try.prog e:=aL LA BB
def ke61:Ent:=⟨64,[iL,eY,zO,a8],[(.ref [0,1] 0)],⟨[],[([8913,0],jw)],fx⟩⟩
theorem Ly:ak Try.prog ke61:=aJ (F:=aK) BA (by kernel_rfl)
def Ah:List Ent:=ke61::Ai
theorem Bz:∀ e∈Ah,ak Try.prog e:=aL Ly BA
def ke62:Ent:=⟨64,[iL,eY,zN,eA],[(.ref [0,1] 0)],⟨[],[([4677,0],(.arr 1 [(.int .i64 9)]))],lC⟩⟩
theorem Lx:ak Try.prog ke62:=aJ (F:=aK) Bz (by kernel_rfl)
def Ag:List Ent:=ke62::Ah
theorem By:∀ e∈Ag,ak Try.prog e:=aL Lx Bz
end Go.Eng
