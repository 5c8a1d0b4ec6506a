import Derived.Test.YtgbpdpdnlfdlfaaK10
import Derived.KernelRfl
/- Texts Sane4 to Sane4. -/
set_option linter.all false
namespace Go.Eng
open Go Go.Proofs
def zJ:O:=(.arr 1 [(.int .i64 1),(.int .i64 2),(.int .i64 0),(.int .i64 5)])
def ke23:Ent:=⟨64,[b9,zJ,a8],[(.ref [0,1] 0)],⟨[],[([8913,0],lB)],fx⟩⟩
theorem Mi:ak Try.prog ke23:=aJ (F:=aK) Cg (by kernel_rfl)
def AZ:List Ent:=ke23::A0
theorem Cf:∀ e∈AZ,ak Try.prog e:=aL Mi Cg
def zH:O:=(.arr 1 [(.int .i64 1),(.int .i64 1),(.int .i64 0),(.int .i64 2)])
def ke24:Ent:=⟨64,[b9,zH,eA],[(.ref [0,1] 0)],⟨[],[([4677,0],(.arr 1 [(.int .i64 9)]))],lC⟩⟩
theorem Mh:ak Try.prog ke24:=aJ (F:=aK) Cf (by kernel_rfl)
def AY:List Ent:=ke24::AZ
theorem Ce:∀ e∈AY,ak Try.prog e:=aL Mh Cf
def ke25:Ent:=⟨73,[b9,dj,a8],[(.ref [0,1] 0),(.v (.int .i64 1))],⟨[(2,a8),(1,dj)],[([61,0,120,0,64,0],m7)],(.msl [61,0,120,0,64,0] 2)⟩⟩
theorem Mg:ak Try.prog ke25:=aJ (F:=aK) Ce (by kernel_rfl)
def AX:List Ent:=ke25::AY
theorem Cd:∀ e∈AX,ak Try.prog e:=aL Mg Ce
def J9:V:=(.agg [(.int .i64 9),(.int .i64 4)])
def KG:D:=(.tup [(.msl [917,0] 1),(.v (.int .i64 0))])
def ke26:Ent:=⟨46,[],[cO,(.v (.int .i64 5))],⟨[],[([917,0],(.arr 2 [J9]))],KG⟩⟩
theorem Mf:ak Try.prog ke26:=aJ (F:=aK) Cd (by kernel_rfl)
def AW:List Ent:=ke26::AX
theorem Cc:∀ e∈AW,ak Try.prog e:=aL Mf Cd
def kq:O:=(.box [(.v lA),(.msl [2,1] 4),(.msl [3,1] 4)])
def qG:O:=(.arr 1 [(.int .i64 0),(.int .i64 (-1)),(.int .i64 (-1)),(.int .i64 (-1))])
def uu:O:=(.box [(.clo (.func 130) [] [(.ref [0,1] 0),(.ref [4,1] 0),(.ref [6,1] 0),(.ref [7,1] 0)])])
def Kp:O:=(.box [(.msl [1239,0,236,0,492,0,181,0,236,0,244,0,181,0] 1)])
def ko:V:=(.sl [(.int .i64 0),(.int .i64 1),(.int .i64 (-1)),(.int .i64 2)])
def ke27:Ent:=⟨130,[(.box [(.ref [1,1] 0)]),kq,dj,a8,(.box [(.msl [5,1] 4)]),qG,(.box [.nilsl]),uu],[(.v (.int .i64 1)),(.ref [0,1] 0),(.ref [4,1] 0),(.ref [6,1] 0),(.ref [7,1] 0)],⟨[(6,Kp),(5,qG)],[([1239,0,236,0,492,0,181,0,236,0,244,0,181,0],(.arr 1 [ko]))],(.tup [])⟩⟩
theorem Me:ak Try.prog ke27:=aJ (F:=aK) Cc (by kernel_rfl)
def AV:List Ent:=ke27::AW
theorem Cb:∀ e∈AV,ak Try.prog e:=aL Me Cc
def qF:O:=(.arr 1 [(.int .i64 (-1)),(.int .i64 0),(.int .i64 (-1)),(.int .i64 (-1))])
def qE:O:=(.box [(.clo (.func 130) [] [(.ref [0,1] 0),(.ref [4,1] 0),(.ref [6,1] 0),(.ref [8,1] 0)])])
def qC:V:=(.sl [(.int .i64 1),(.int .i64 0),(.int .i64 (-1)),(.int .i64 2)])
def ke28:Ent:=⟨130,[(.box [(.ref [1,1] 0)]),kq,dj,a8,(.box [(.msl [5,1] 4)]),qF,(.box [(.msl [7,1] 1)]),(.arr 1 [ko]),qE],[(.v (.int .i64 1)),(.ref [0,1] 0),(.ref [4,1] 0),(.ref [6,1] 0),(.ref [8,1] 0)],⟨[(6,(.box [(.msl [7,1] 2)])),(7,(.arr 1 [ko,qC])),(5,qF)],[],(.tup [])⟩⟩
theorem Md:ak Try.prog ke28:=aJ (F:=aK) Cb (by kernel_rfl)
def AU:List Ent:=ke28::AV
theorem Ca:∀ e∈AU,ak Try.prog e:=aL Md Cb
def zF:O:=(.arr 1 [(.int .i64 (-1)),(.int .i64 (-1)),(.int .i64 (-1)),(.int .i64 (-1))])
def Ko:O:=(.box [(.msl [1239,0,236,0,492,0,181,0,236,0,244,0,181,0,236,0,120,0,181,0] 2)])
def ke29:Ent:=⟨130,[(.box [(.ref [1,1] 0)]),kq,dj,a8,(.box [(.msl [5,1] 4)]),zF,(.box [.nilsl]),uu],[(.v (.int .i64 0)),(.ref [0,1] 0),(.ref [4,1] 0),(.ref [6,1] 0),(.ref [7,1] 0)],⟨[(6,Ko),(5,zF)],[([1239,0,236,0,492,0,181,0,236,0,244,0,181,0,236,0,120,0,181,0],(.arr 1 [ko,qC]))],(.tup [])⟩⟩
theorem Mc:ak Try.prog ke29:=aJ (F:=aK) Ca (by kernel_rfl)
def AS:List Ent:=ke29::AU
theorem B9:∀ e∈AS,ak Try.prog e:=aL Mc Ca
def KF:D:=(.tup [(.msl [3082,0] 1),(.v (.int .i64 0))])
def ke30:Ent:=⟨31,[],[cO,(.v (.int .i64 5)),(.v (.int .i64 5))],⟨[],[([3082,0],(.arr 1 [(.int .i64 1)]))],KF⟩⟩
theorem Ma:ak Try.prog ke30:=aJ (F:=aK) B9 (by kernel_rfl)
def AR:List Ent:=ke30::AS
theorem B8:∀ e∈AR,ak Try.prog e:=aL Ma B9
end Go.Eng
