import Derived.Test.YtgbpdpdnlfdlfaaK9
import Derived.KernelRfl
/- Texts Sane3 to Sane3. -/
set_option linter.all false
namespace Go.Eng
open Go Go.Proofs
def KM:D:=(.agg [(.v (.int .i64 9)),(.v (.int .i64 4)),(.v (.bool true)),(.v (.bool true))])
def ke14:Ent:=⟨63,[],[KM,cO,(.v (.int .i64 5))],⟨[],[([134,0,245,0,40,0],kr),([129,0,245,0,40,0],dj),([132,0,245,0,40,0],a8)],gW⟩⟩
theorem Ms:ak Try.prog ke14:=aJ (F:=aK) Cr (by kernel_rfl)
def A9:List Ent:=ke14::A'
theorem Cq:∀ e∈A9,ak Try.prog e:=aL Ms Cr
def zM:O:=(.arr 1 [(.int .i64 3),(.int .i64 3),(.int .i64 0),(.int .i64 4)])
def ke15:Ent:=⟨64,[b9,zM,eA],[(.ref [0,1] 0)],⟨[],[([8759,0],jw)],oD⟩⟩
theorem Mr:ak Try.prog ke15:=aJ (F:=aK) Cq (by kernel_rfl)
def A8:List Ent:=ke15::A9
theorem Cp:∀ e∈A8,ak Try.prog e:=aL Mr Cq
def KL:D:=(.tup [(.v (.int .i64 1)),(.v (.int .i64 0))])
def ke16:Ent:=⟨44,[],[cO,(.v (.int .i64 9)),(.v (.int .i64 4)),(.v (.int .i64 5))],⟨[],[],KL⟩⟩
theorem Mq:ak Try.prog ke16:=aJ (F:=aK) Cp (by kernel_rfl)
def A7:List Ent:=ke16::A8
theorem Co:∀ e∈A7,ak Try.prog e:=aL Mq Cp
def KJ:D:=(.agg [(.v (.int .i64 0)),(.v (.int .i64 3)),(.v (.bool false)),(.v (.bool true))])
def ke17:Ent:=⟨63,[],[KJ,cO,(.v (.int .i64 3))],⟨[],[([134,0,245,0,40,0],kr),([129,0,245,0,40,0],fW),([132,0,245,0,40,0],a8)],gW⟩⟩
theorem Mp:ak Try.prog ke17:=aJ (F:=aK) Co (by kernel_rfl)
def A6:List Ent:=ke17::A7
theorem Cn:∀ e∈A6,ak Try.prog e:=aL Mp Co
def Kr:O:=(.arr 1 [(.int .i64 2),(.int .i64 2),(.int .i64 1),(.int .i64 6)])
def KI:D:=(.agg [(.v (.bool true)),(.msl [5494,0] 2)])
def zR:D:=(.tup [.nilsl,KI,(.v (.bool false))])
def ke18:Ent:=⟨64,[b9,Kr,uv],[(.ref [0,1] 0)],⟨[],[([5494,0],m7)],zR⟩⟩
theorem Mo:ak Try.prog ke18:=aJ (F:=aK) Cn (by kernel_rfl)
def A5:List Ent:=ke18::A6
theorem Cl:∀ e∈A5,ak Try.prog e:=aL Mo Cn
def Kq:O:=(.arr 1 [(.int .i64 1),(.int .i64 1),(.int .i64 2),(.int .i64 5)])
def ke19:Ent:=⟨64,[b9,Kq,uv],[(.ref [0,1] 0)],⟨[],[([5494,0],m7)],zR⟩⟩
theorem Mn:ak Try.prog ke19:=aJ (F:=aK) Cl (by kernel_rfl)
def A3:List Ent:=ke19::A5
theorem Cj:∀ e∈A3,ak Try.prog e:=aL Mn Cl
def ke20:Ent:=⟨95,[b9,fW,a8],[(.ref [0,1] 0),(.v (.int .i64 2))],⟨[(2,a8),(1,fW)],[],(.v (.int .i64 4))⟩⟩
theorem Ml:ak Try.prog ke20:=aJ (F:=aK) Cj (by kernel_rfl)
def A2:List Ent:=ke20::A3
theorem Ci:∀ e∈A2,ak Try.prog e:=aL Ml Cj
def KH:D:=(.agg [(.v (.int .i64 0)),(.v (.int .i64 0)),(.v (.bool false)),(.v (.bool false))])
def ke21:Ent:=⟨63,[],[KH,cO,(.v (.int .i64 5))],⟨[],[([134,0,245,0,40,0],kr),([129,0,245,0,40,0],dj),([132,0,245,0,40,0],a8)],gW⟩⟩
theorem Mk:ak Try.prog ke21:=aJ (F:=aK) Ci (by kernel_rfl)
def A1:List Ent:=ke21::A2
theorem Ch:∀ e∈A1,ak Try.prog e:=aL Mk Ci
def zL:O:=(.arr 1 [(.int .i64 2),(.int .i64 1),(.int .i64 0),(.int .i64 5)])
def ke22:Ent:=⟨64,[b9,zL,a8],[(.ref [0,1] 0)],⟨[],[([8913,0],jw)],fx⟩⟩
theorem Mj:ak Try.prog ke22:=aJ (F:=aK) Ch (by kernel_rfl)
def A0:List Ent:=ke22::A1
theorem Cg:∀ e∈A0,ak Try.prog e:=aL Mj Ch
end Go.Eng
