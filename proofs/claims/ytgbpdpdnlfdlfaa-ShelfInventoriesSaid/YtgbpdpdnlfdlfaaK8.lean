import Derived.Test.YtgbpdpdnlfdlfaaK7
import Derived.KernelRfl
/- Texts Sane1 to Sane1. -/
set_option linter.all false
namespace Go.Eng
open Go Go.Proofs
def aK:List Nat:=[92,97,64,63,73,44,95,46,130,31,116,82,122,103,12,30,23,9]
def lA:V:=(.sl [(.int .i64 5),(.int .i64 7),(.int .i64 9)])
def zw:V:=(.sl [(.int .i64 5),(.int .i64 7)])
def zu:V:=(.agg [(.int .i64 1),(.int .i64 1),zw,(.int .i64 0),(.int .i64 0)])
def zt:V:=(.agg [(.int .i64 2),(.int .i64 2),zw,(.int .i64 0),(.int .i64 0)])
def zr:V:=(.agg [(.int .i64 3),(.int .i64 3),(.sl []),(.int .i64 4),(.int .i64 0)])
def J8:V:=(.sl [(.int .i64 7),(.int .i64 9)])
def J7:V:=(.agg [(.int .i64 4),(.int .i64 2),J8,(.int .i64 6),(.int .i64 0)])
def zp:V:=(.agg [(.int .i64 5),(.int .i64 4),(.sl [(.int .i64 7)]),(.int .i64 8),(.int .i64 0)])
def uj:V:=(.sl [zu,zt,zr,J7,zp])
def Kg:O:=(.box [(.v (.int .i64 4)),(.v lA),(.v uj)])
def ke0:Ent:=⟨92,[Kg],[(.v uj),(.v (.clo (.func 93) [] [])),(.clo (.func 94) [] [(.ref [0,1] 0)])],⟨[],[],(.v (.bool true))⟩⟩
theorem My:ak Try.prog ke0:=aJ (F:=aK) Cx (by kernel_rfl)
def Be:List Ent:=ke0::Bf
theorem Cw:∀ e∈Be,ak Try.prog e:=aL My Cx
def cO:D:=(.agg [(.v (.int .i64 4)),(.v lA),(.v uj)])
def jx:O:=(.box [(.v lA),(.msl [129,0] 4),(.msl [132,0] 4)])
def fW:O:=(.arr 1 [(.int .i64 3),(.int .i64 3),(.int .i64 7),(.int .i64 7)])
def a8:O:=(.arr 1 [(.bool true),(.bool true),(.bool false),(.bool false)])
def ke1:Ent:=⟨97,[],[cO,(.v (.int .i64 3)),(.v (.clo (.func 98) [] []))],⟨[],[([134,0],jx),([129,0],fW),([132,0],a8)],(.ref [134,0] 0)⟩⟩
theorem Mx:ak Try.prog ke1:=aJ (F:=aK) Cw (by kernel_rfl)
def A4:List Ent:=ke1::Be
theorem Ck:∀ e∈A4,ak Try.prog e:=aL Mx Cw
def b9:O:=(.box [(.v lA),(.msl [1,1] 4),(.msl [2,1] 4)])
def zQ:O:=(.arr 1 [(.int .i64 2),(.int .i64 1),(.int .i64 3)])
def zS:D:=(.agg [(.v (.bool false)),.nilsl])
def fx:D:=(.tup [(.msl [8913,0] 3),zS,(.v (.bool true))])
def ke2:Ent:=⟨64,[b9,fW,a8],[(.ref [0,1] 0)],⟨[],[([8913,0],zQ)],fx⟩⟩
theorem Mm:ak Try.prog ke2:=aJ (F:=aK) Ck (by kernel_rfl)
def AT:List Ent:=ke2::A4
theorem B':∀ e∈AT,ak Try.prog e:=aL Mm Ck
def uz:D:=(.agg [(.v (.int .i64 9)),(.v (.int .i64 0)),(.v (.bool true)),(.v (.bool false))])
def kr:O:=(.box [(.v lA),(.msl [129,0,245,0,40,0] 4),(.msl [132,0,245,0,40,0] 4)])
def gW:D:=(.tup [(.ref [134,0,245,0,40,0] 0),(.v (.int .i64 0))])
def ke3:Ent:=⟨63,[],[uz,cO,(.v (.int .i64 3))],⟨[],[([134,0,245,0,40,0],kr),([129,0,245,0,40,0],fW),([132,0,245,0,40,0],a8)],gW⟩⟩
theorem Mb:ak Try.prog ke3:=aJ (F:=aK) B' (by kernel_rfl)
def AI:List Ent:=ke3::AT
theorem BZ:∀ e∈AI,ak Try.prog e:=aL Mb B'
def Ku:O:=(.arr 1 [(.int .i64 3),(.int .i64 3),(.int .i64 4),(.int .i64 3)])
def uv:O:=(.arr 1 [(.bool true),(.bool true),(.bool true),(.bool false)])
def oD:D:=(.tup [(.msl [8759,0] 3),zS,(.v (.bool true))])
def ke4:Ent:=⟨64,[b9,Ku,uv],[(.ref [0,1] 0)],⟨[],[([8759,0],zQ)],oD⟩⟩
theorem L1:ak Try.prog ke4:=aJ (F:=aK) BZ (by kernel_rfl)
def Aw:List Ent:=ke4::AI
theorem BN:∀ e∈Aw,ak Try.prog e:=aL L1 BZ
def Kt:O:=(.arr 1 [(.int .i64 3),(.int .i64 3),(.int .i64 3),(.int .i64 4)])
def eA:O:=(.arr 1 [(.bool true),(.bool true),(.bool false),(.bool true)])
def jw:O:=(.arr 1 [(.int .i64 2),(.int .i64 1),(.int .i64 4)])
def ke5:Ent:=⟨64,[b9,Kt,eA],[(.ref [0,1] 0)],⟨[],[([8759,0],jw)],oD⟩⟩
theorem LO:ak Try.prog ke5:=aJ (F:=aK) BN (by kernel_rfl)
def Ak:List Ent:=ke5::Aw
theorem BC:∀ e∈Ak,ak Try.prog e:=aL LO BN
end Go.Eng
