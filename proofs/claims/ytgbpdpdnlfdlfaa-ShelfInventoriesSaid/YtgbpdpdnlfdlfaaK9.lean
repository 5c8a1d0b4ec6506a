import Derived.Test.YtgbpdpdnlfdlfaaK8
import Derived.KernelRfl
/- Texts Sane2 to Sane2. -/
set_option linter.all false
namespace Go.Eng
open Go Go.Proofs
def Ks:O:=(.arr 1 [(.int .i64 3),(.int .i64 4)])
def ke6:Ent:=⟨73,[b9,fW,a8],[(.ref [0,1] 0),(.v (.int .i64 2))],⟨[(2,a8),(1,fW)],[([61,0,368,0,64,0],Ks)],(.msl [61,0,368,0,64,0] 2)⟩⟩
theorem LB:ak Try.prog ke6:=aJ (F:=aK) BC (by kernel_rfl)
def z':List Ent:=ke6::Ak
theorem Br:∀ e∈z',ak Try.prog e:=aL LB BC
def dj:O:=(.arr 1 [(.int .i64 3),(.int .i64 3),(.int .i64 0),(.int .i64 7)])
def ke7:Ent:=⟨97,[],[cO,(.v (.int .i64 5)),(.v (.clo (.func 98) [] []))],⟨[],[([134,0],jx),([129,0],dj),([132,0],a8)],(.ref [134,0] 0)⟩⟩
theorem Ln:ak Try.prog ke7:=aJ (F:=aK) Br (by kernel_rfl)
def zW:List Ent:=ke7::z'
theorem Bh:∀ e∈zW,ak Try.prog e:=aL Ln Br
def ke8:Ent:=⟨64,[b9,dj,a8],[(.ref [0,1] 0)],⟨[],[([8913,0],jw)],fx⟩⟩
theorem Lc:ak Try.prog ke8:=aJ (F:=aK) Bh (by kernel_rfl)
def zV:List Ent:=ke8::zW
theorem Bg:∀ e∈zV,ak Try.prog e:=aL Lc Bh
def uy:D:=(.agg [(.v (.int .i64 5)),(.v (.int .i64 0)),(.v (.bool true)),(.v (.bool false))])
def ke9:Ent:=⟨63,[],[uy,cO,(.v (.int .i64 5))],⟨[],[([134,0,245,0,40,0],kr),([129,0,245,0,40,0],dj),([132,0,245,0,40,0],a8)],gW⟩⟩
theorem Lb:ak Try.prog ke9:=aJ (F:=aK) Bg (by kernel_rfl)
def Bd:List Ent:=ke9::zV
theorem Cv:∀ e∈Bd,ak Try.prog e:=aL Lb Bg
def zP:O:=(.arr 1 [(.int .i64 1),(.int .i64 2),(.int .i64 0),(.int .i64 6)])
def lB:O:=(.arr 1 [(.int .i64 1),(.int .i64 2),(.int .i64 4)])
def ke10:Ent:=⟨64,[b9,zP,a8],[(.ref [0,1] 0)],⟨[],[([8913,0],lB)],fx⟩⟩
theorem Mw:ak Try.prog ke10:=aJ (F:=aK) Cv (by kernel_rfl)
def Bc:List Ent:=ke10::Bd
theorem Cu:∀ e∈Bc,ak Try.prog e:=aL Mw Cv
def zO:O:=(.arr 1 [(.int .i64 2),(.int .i64 1),(.int .i64 0),(.int .i64 6)])
def ke11:Ent:=⟨64,[b9,zO,a8],[(.ref [0,1] 0)],⟨[],[([8913,0],jw)],fx⟩⟩
theorem Mv:ak Try.prog ke11:=aJ (F:=aK) Cu (by kernel_rfl)
def Bb:List Ent:=ke11::Bc
theorem Ct:∀ e∈Bb,ak Try.prog e:=aL Mv Cu
def zN:O:=(.arr 1 [(.int .i64 2),(.int .i64 2),(.int .i64 0),(.int .i64 1)])
def KN:D:=(.agg [(.v (.bool false)),(.msl [4677,0] 1)])
def lC:D:=(.tup [.nilsl,KN,(.v (.bool false))])
def ke12:Ent:=⟨64,[b9,zN,eA],[(.ref [0,1] 0)],⟨[],[([4677,0],(.arr 1 [(.int .i64 9)]))],lC⟩⟩
theorem Mu:ak Try.prog ke12:=aJ (F:=aK) Ct (by kernel_rfl)
def Ba:List Ent:=ke12::Bb
theorem Cs:∀ e∈Ba,ak Try.prog e:=aL Mu Ct
def m7:O:=(.arr 1 [(.int .i64 1),(.int .i64 2)])
def ke13:Ent:=⟨73,[b9,dj,a8],[(.ref [0,1] 0),(.v (.int .i64 0))],⟨[(2,a8),(1,dj)],[([61,0,120,0,64,0],m7)],(.msl [61,0,120,0,64,0] 2)⟩⟩
theorem Mt:ak Try.prog ke13:=aJ (F:=aK) Cs (by kernel_rfl)
def A':List Ent:=ke13::Ba
theorem Cr:∀ e∈A',ak Try.prog e:=aL Mt Cs
end Go.Eng
