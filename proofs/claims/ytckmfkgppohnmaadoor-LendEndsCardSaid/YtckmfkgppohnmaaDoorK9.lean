import Derived.Test.YtckmfkgppohnmaaDoorK8
import Derived.KernelRfl
/- Texts Sane3 to Sane3. -/
set_option linter.all false
namespace Go.Eng
open Go Go.Proofs
def JB:D:=(.agg [(.v (.int .i64 0)),(.msl [0,1] 1),.nilsl,(.msl [1,1] 1),.nilsl,.nilsl,.nilsl,.nilsl,(.v (.int .i64 0)),(.v (.int .i64 1)),(.v (.int .i64 0)),(.v (.int .i64 0)),(.v (.int .i64 0)),(.v (.int .i64 0)),(.v (.int .i64 0)),(.v (.int .i64 0)),(.v (.int .i64 0)),(.v (.int .i64 0)),(.v (.int .i64 0)),(.v (.int .i64 0)),(.v (.int .i64 1)),(.msl [2,1] 2),.nilsl,.nilsl,.nilsl,.nilsl,.nilsl,.nilsl,(.v (.int .i64 0)),(.v (.int .i64 0)),(.v (.int .i64 0)),(.v (.int .i64 0)),(.v (.int .i64 0)),(.v (.int .i64 0)),(.v (.int .i64 0)),(.v (.int .i64 0)),(.v (.int .i64 0)),(.v (.int .i64 0)),(.v (.int .i64 0)),(.v (.int .i64 0)),(.v (.int .i64 707989)),(.v (.int .i64 2)),(.msl [3,1] 1),.nilsl,(.msl [4,1] 1),.nilsl,.nilsl,.nilsl,.nilsl,(.v (.int .i64 0)),(.v (.int .i64 1)),(.v (.int .i64 0)),(.v (.int .i64 0)),(.v (.int .i64 0)),(.v (.int .i64 0)),(.v (.int .i64 0)),(.v (.int .i64 0)),(.v (.int .i64 0)),(.v (.int .i64 0)),(.v (.int .i64 0)),(.v (.int .i64 0)),(.v (.int .i64 288542)),(.v (.int .i64 (-1)))])
def ke15:Ent:=⟨66,[(.arr 1 [(.int .i64 9)]),(.arr 2 [cz]),cI,(.arr 1 [(.int .i64 9)]),(.arr 2 [cz])],[JB],⟨[],[],(.v (.bool true))⟩⟩
theorem Wz:aQ Tryd.prog ke15:=cV (F:=cW) KC (by kernel_rfl)
def J3:List Ent:=ke15::J4
theorem KB:∀ e∈J3,aQ Tryd.prog e:=c7 Wz KC
def ke16:Ent:=⟨45,[(.arr 1 [(.int .i64 9)]),(.arr 2 [cz]),cI,(.arr 1 [(.int .i64 9)]),(.arr 2 [cz])],[JB],⟨[],[],(.v (.int .i64 1))⟩⟩
theorem Wy:aQ Tryd.prog ke16:=cV (F:=cW) KB (by kernel_rfl)
def J2:List Ent:=ke16::J3
theorem KA:∀ e∈J2,aQ Tryd.prog e:=c7 Wy KB
def ke17:Ent:=⟨78,[],[(.v (.int .i64 1)),JA],⟨[],[],(.v (.bool true))⟩⟩
theorem Wx:aQ Tryd.prog ke17:=cV (F:=cW) KA (by kernel_rfl)
def J1:List Ent:=ke17::J2
theorem Kz:∀ e∈J1,aQ Tryd.prog e:=c7 Wx KA
def CY:D:=(.agg [(.v (.int .i64 1)),.nilsl,.nilsl,.nilsl,.nilsl,.nilsl,.nilsl,.nilsl,(.v (.int .i64 0)),(.v (.int .i64 0)),(.v (.int .i64 0)),(.v (.int .i64 0)),(.v (.int .i64 0)),(.v (.int .i64 0)),(.v (.int .i64 0)),(.v (.int .i64 0)),(.v (.int .i64 0)),(.v (.int .i64 0)),(.v (.int .i64 0)),(.v (.int .i64 0)),(.v (.int .i64 1)),.nilsl,.nilsl,.nilsl,.nilsl,.nilsl,.nilsl,.nilsl,(.v (.int .i64 0)),(.v (.int .i64 0)),(.v (.int .i64 0)),(.v (.int .i64 0)),(.v (.int .i64 0)),(.v (.int .i64 0)),(.v (.int .i64 0)),(.v (.int .i64 0)),(.v (.int .i64 0)),(.v (.int .i64 0)),(.v (.int .i64 0)),(.v (.int .i64 0)),(.v (.int .i64 947894)),(.v (.int .i64 0)),.nilsl,.nilsl,.nilsl,.nilsl,.nilsl,.nilsl,.nilsl,(.v (.int .i64 0)),(.v (.int .i64 0)),(.v (.int .i64 0)),(.v (.int .i64 0)),(.v (.int .i64 0)),(.v (.int .i64 0)),(.v (.int .i64 0)),(.v (.int .i64 0)),(.v (.int .i64 0)),(.v (.int .i64 0)),(.v (.int .i64 0)),(.v (.int .i64 0)),(.v (.int .i64 493827)),(.v (.int .i64 (-1)))])
def ke18:Ent:=⟨66,[],[CY],⟨[],[],(.v (.bool true))⟩⟩
theorem Ww:aQ Tryd.prog ke18:=cV (F:=cW) Kz (by kernel_rfl)
def J0:List Ent:=ke18::J1
theorem Ky:∀ e∈J0,aQ Tryd.prog e:=c7 Ww Kz
def Vv:O:=(.box [(.v (.int .i64 1)),.nilsl,.nilsl,.nilsl,.nilsl,.nilsl,.nilsl,.nilsl,(.v (.int .i64 0)),(.v (.int .i64 0)),(.v (.int .i64 0)),(.v (.int .i64 0)),(.v (.int .i64 0)),(.v (.int .i64 0)),(.v (.int .i64 0)),(.v (.int .i64 0)),(.v (.int .i64 0)),(.v (.int .i64 0)),(.v (.int .i64 0)),(.v (.int .i64 0)),(.v (.int .i64 1)),.nilsl,.nilsl,.nilsl,.nilsl,.nilsl,.nilsl,.nilsl,(.v (.int .i64 0)),(.v (.int .i64 0)),(.v (.int .i64 0)),(.v (.int .i64 0)),(.v (.int .i64 0)),(.v (.int .i64 0)),(.v (.int .i64 0)),(.v (.int .i64 0)),(.v (.int .i64 0)),(.v (.int .i64 0)),(.v (.int .i64 0)),(.v (.int .i64 0)),(.v (.int .i64 947894)),(.v (.int .i64 0)),.nilsl,.nilsl,.nilsl,.nilsl,.nilsl,.nilsl,.nilsl,(.v (.int .i64 0)),(.v (.int .i64 0)),(.v (.int .i64 0)),(.v (.int .i64 0)),(.v (.int .i64 0)),(.v (.int .i64 0)),(.v (.int .i64 0)),(.v (.int .i64 0)),(.v (.int .i64 0)),(.v (.int .i64 0)),(.v (.int .i64 0)),(.v (.int .i64 0)),(.v (.int .i64 493827)),(.v (.int .i64 (-1)))])
def ke19:Ent:=⟨43,[],[CY],⟨[],[([298,0],Vv)],(.ref [298,0] 0)⟩⟩
theorem Wv:aQ Tryd.prog ke19:=cV (F:=cW) Ky (by kernel_rfl)
def JY:List Ent:=ke19::J0
theorem Kw:∀ e∈JY,aQ Tryd.prog e:=c7 Wv Ky
def VS:D:=(.agg [(.v (.int .i64 0)),(.v (.int .i64 1)),(.msl [0,1] 1),(.v (.int .i64 0))])
def VR:D:=(.agg [(.v (.int .i64 1)),(.msl [595,0,83,0,175,0,104,0,743,0] 1),.nilsl,.nilsl,.nilsl,.nilsl,.nilsl,.nilsl,(.v (.int .i64 0)),(.v (.int .i64 0)),(.v (.int .i64 0)),(.v (.int .i64 0)),(.v (.int .i64 0)),(.v (.int .i64 0)),(.v (.int .i64 1)),(.v (.int .i64 0)),(.v (.int .i64 0)),(.v (.int .i64 0)),(.v (.int .i64 0)),(.v (.int .i64 0)),(.v (.int .i64 1)),.nilsl,.nilsl,.nilsl,.nilsl,.nilsl,.nilsl,.nilsl,(.v (.int .i64 0)),(.v (.int .i64 0)),(.v (.int .i64 0)),(.v (.int .i64 0)),(.v (.int .i64 0)),(.v (.int .i64 0)),(.v (.int .i64 0)),(.v (.int .i64 0)),(.v (.int .i64 0)),(.v (.int .i64 0)),(.v (.int .i64 0)),(.v (.int .i64 0)),(.v (.int .i64 947894)),(.v (.int .i64 0)),.nilsl,.nilsl,.nilsl,.nilsl,.nilsl,.nilsl,.nilsl,(.v (.int .i64 0)),(.v (.int .i64 0)),(.v (.int .i64 0)),(.v (.int .i64 0)),(.v (.int .i64 0)),(.v (.int .i64 0)),(.v (.int .i64 0)),(.v (.int .i64 0)),(.v (.int .i64 0)),(.v (.int .i64 0)),(.v (.int .i64 0)),(.v (.int .i64 0)),(.v (.int .i64 493827)),(.v (.int .i64 (-1)))])
def VQ:D:=(.tup [VR,(.v (.int .i64 0))])
def ke20:Ent:=⟨18,[(.arr 2 [cz])],[CY,VS],⟨[],[([595,0,83,0,175,0,104,0,743,0],(.arr 1 [(.int .i64 7)]))],VQ⟩⟩
theorem Wt:aQ Tryd.prog ke20:=cV (F:=cW) Kw (by kernel_rfl)
def JX:List Ent:=ke20::JY
theorem Kv:∀ e∈JX,aQ Tryd.prog e:=c7 Wt Kw
def VP:D:=(.agg [(.v (.int .i64 0)),(.msl [0,1] 1),.nilsl,(.msl [1,1] 1),.nilsl,.nilsl,.nilsl,.nilsl,(.v (.int .i64 0)),(.v (.int .i64 1)),(.v (.int .i64 0)),(.v (.int .i64 0)),(.v (.int .i64 0)),(.v (.int .i64 0)),(.v (.int .i64 0)),(.v (.int .i64 0)),(.v (.int .i64 0)),(.v (.int .i64 0)),(.v (.int .i64 0)),(.v (.int .i64 0)),(.v (.int .i64 1)),(.msl [2,1] 2),.nilsl,.nilsl,.nilsl,.nilsl,.nilsl,.nilsl,(.v (.int .i64 0)),(.v (.int .i64 0)),(.v (.int .i64 0)),(.v (.int .i64 0)),(.v (.int .i64 0)),(.v (.int .i64 0)),(.v (.int .i64 0)),(.v (.int .i64 0)),(.v (.int .i64 0)),(.v (.int .i64 0)),(.v (.int .i64 0)),(.v (.int .i64 0)),(.v (.int .i64 707989)),(.v (.int .i64 2)),(.msl [3,1] 1),.nilsl,(.msl [4,1] 1),.nilsl,.nilsl,.nilsl,.nilsl,(.v (.int .i64 0)),(.v (.int .i64 1)),(.v (.int .i64 0)),(.v (.int .i64 0)),(.v (.int .i64 0)),(.v (.int .i64 0)),(.v (.int .i64 0)),(.v (.int .i64 0)),(.v (.int .i64 0)),(.v (.int .i64 0)),(.v (.int .i64 0)),(.v (.int .i64 0)),(.v (.int .i64 288543)),(.v (.int .i64 (-1)))])
def ke21:Ent:=⟨45,[(.arr 1 [(.int .i64 9)]),(.arr 2 [cz]),cI,(.arr 1 [(.int .i64 9)]),(.arr 2 [cz])],[VP],⟨[],[],(.v (.int .i64 0))⟩⟩
theorem Ws:aQ Tryd.prog ke21:=cV (F:=cW) Kv (by kernel_rfl)
def JW:List Ent:=ke21::JX
theorem Ku:∀ e∈JW,aQ Tryd.prog e:=c7 Ws Kv
def VO:D:=(.agg [(.v (.int .i64 0)),(.msl [70,0,631,0] 2),.nilsl,.nilsl,.nilsl,.nilsl,.nilsl,.nilsl,(.v (.int .i64 0)),(.v (.int .i64 0)),(.v (.int .i64 0)),(.v (.int .i64 0)),(.v (.int .i64 0)),(.v (.int .i64 0)),(.v (.int .i64 0)),(.v (.int .i64 0)),(.v (.int .i64 0)),(.v (.int .i64 0)),(.v (.int .i64 0)),(.v (.int .i64 0)),(.v (.int .i64 1)),(.msl [70,0,130,0,229,0] 2),.nilsl,.nilsl,.nilsl,.nilsl,.nilsl,.nilsl,(.v (.int .i64 0)),(.v (.int .i64 0)),(.v (.int .i64 0)),(.v (.int .i64 0)),(.v (.int .i64 0)),(.v (.int .i64 0)),(.v (.int .i64 0)),(.v (.int .i64 0)),(.v (.int .i64 0)),(.v (.int .i64 0)),(.v (.int .i64 0)),(.v (.int .i64 0)),(.v (.int .i64 707989)),(.v (.int .i64 2)),(.msl [70,0,222,0,229,0] 1),.nilsl,(.msl [314,0,222,0,229,0] 1),.nilsl,.nilsl,.nilsl,.nilsl,(.v (.int .i64 0)),(.v (.int .i64 1)),(.v (.int .i64 0)),(.v (.int .i64 0)),(.v (.int .i64 0)),(.v (.int .i64 0)),(.v (.int .i64 0)),(.v (.int .i64 0)),(.v (.int .i64 0)),(.v (.int .i64 0)),(.v (.int .i64 0)),(.v (.int .i64 0)),(.v (.int .i64 288543)),(.v (.int .i64 (-1)))])
def VN:D:=(.tup [VO,(.v (.int .i64 0))])
def ke22:Ent:=⟨31,[(.arr 1 [(.int .i64 9)]),(.arr 2 [cz]),cI,(.arr 1 [(.int .i64 9)]),(.arr 2 [cz])],[zc,(.v (.int .i64 1))],⟨[(4,(.arr 2 [cz])),(3,(.arr 1 [(.int .i64 9)])),(2,cI),(1,(.arr 2 [cz])),(0,(.arr 1 [(.int .i64 9)]))],[([70,0,631,0],cI),([70,0,130,0,229,0],cI),([70,0,222,0,229,0],(.arr 1 [(.int .i64 9)])),([314,0,222,0,229,0],(.arr 2 [cz]))],VN⟩⟩
theorem Wr:aQ Tryd.prog ke22:=cV (F:=cW) Ku (by kernel_rfl)
def JV:List Ent:=ke22::JW
theorem Kt:∀ e∈JV,aQ Tryd.prog e:=c7 Wr Ku
end Go.Eng
