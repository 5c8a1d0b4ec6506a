import Derived.Test.YtckmfkgppohnmaaDoorK8
import Derived.KernelRfl
/- Texts Sane2 to Sane2. -/
set_option linter.all false
namespace Go.Eng
open Go Go.Proofs
def zr:D:=(.agg [(.v (.int .i64 0)),(.v (.sl [(.int .i64 9)])),.nilsl,(.msl [0,1] 1),.nilsl,.nilsl,.nilsl,.nilsl,(.v (.int .i64 0)),(.v (.int .i64 1)),(.v (.int .i64 0)),(.v (.int .i64 0)),(.v (.int .i64 0)),(.v (.int .i64 0)),(.v (.int .i64 0)),(.v (.int .i64 0)),(.v (.int .i64 0)),(.v (.int .i64 0)),(.v (.int .i64 0)),(.v (.int .i64 0)),(.v (.int .i64 1)),(.msl [1,1] 2),.nilsl,.nilsl,.nilsl,.nilsl,.nilsl,.nilsl,(.v (.int .i64 0)),(.v (.int .i64 0)),(.v (.int .i64 0)),(.v (.int .i64 0)),(.v (.int .i64 0)),(.v (.int .i64 0)),(.v (.int .i64 0)),(.v (.int .i64 0)),(.v (.int .i64 0)),(.v (.int .i64 0)),(.v (.int .i64 0)),(.v (.int .i64 0)),(.v (.int .i64 707989)),(.v (.int .i64 0)),.nilsl,.nilsl,.nilsl,.nilsl,.nilsl,.nilsl,.nilsl,(.v (.int .i64 0)),(.v (.int .i64 0)),(.v (.int .i64 0)),(.v (.int .i64 0)),(.v (.int .i64 0)),(.v (.int .i64 0)),(.v (.int .i64 0)),(.v (.int .i64 0)),(.v (.int .i64 0)),(.v (.int .i64 0)),(.v (.int .i64 0)),(.v (.int .i64 0)),(.v (.int .i64 493827)),(.v (.int .i64 (-1)))])
def ke7:Ent:=⟨66,[(.arr 2 [cI]),cV],[zr],⟨[],[],(.v (.bool true))⟩⟩
theorem W4:aV Tryd.prog ke7:=dm (F:=dn) KF (by kernel_rfl)
def J4:List Ent:=ke7::J5
theorem KE:∀ e∈J4,aV Tryd.prog e:=di W4 KF
def Wm:O:=(.box [(.v (.int .i64 0)),(.msl [70,0,28,0] 1),.nilsl,(.msl [314,0,28,0] 1),.nilsl,.nilsl,.nilsl,.nilsl,(.v (.int .i64 0)),(.v (.int .i64 1)),(.v (.int .i64 0)),(.v (.int .i64 0)),(.v (.int .i64 0)),(.v (.int .i64 0)),(.v (.int .i64 0)),(.v (.int .i64 0)),(.v (.int .i64 0)),(.v (.int .i64 0)),(.v (.int .i64 0)),(.v (.int .i64 0)),(.v (.int .i64 1)),(.msl [70,0,130,0] 2),.nilsl,.nilsl,.nilsl,.nilsl,.nilsl,.nilsl,(.v (.int .i64 0)),(.v (.int .i64 0)),(.v (.int .i64 0)),(.v (.int .i64 0)),(.v (.int .i64 0)),(.v (.int .i64 0)),(.v (.int .i64 0)),(.v (.int .i64 0)),(.v (.int .i64 0)),(.v (.int .i64 0)),(.v (.int .i64 0)),(.v (.int .i64 0)),(.v (.int .i64 707989)),(.v (.int .i64 0)),.nilsl,.nilsl,.nilsl,.nilsl,.nilsl,.nilsl,.nilsl,(.v (.int .i64 0)),(.v (.int .i64 0)),(.v (.int .i64 0)),(.v (.int .i64 0)),(.v (.int .i64 0)),(.v (.int .i64 0)),(.v (.int .i64 0)),(.v (.int .i64 0)),(.v (.int .i64 0)),(.v (.int .i64 0)),(.v (.int .i64 0)),(.v (.int .i64 0)),(.v (.int .i64 493827)),(.v (.int .i64 (-1)))])
def ke8:Ent:=⟨43,[(.arr 2 [cI]),cV],[zr],⟨[(1,cV),(0,(.arr 2 [cI]))],[([298,0],Wm),([70,0,28,0],(.arr 1 [(.int .i64 9)])),([314,0,28,0],(.arr 2 [cI])),([70,0,130,0],cV)],(.ref [298,0] 0)⟩⟩
theorem W0:aV Tryd.prog ke8:=dm (F:=dn) KE (by kernel_rfl)
def J3:List Ent:=ke8::J4
theorem KD:∀ e∈J3,aV Tryd.prog e:=di W0 KE
def ke9:Ent:=⟨45,[(.arr 2 [cI]),cV],[zr],⟨[],[],(.v (.int .i64 0))⟩⟩
theorem WZ:aV Tryd.prog ke9:=dm (F:=dn) KD (by kernel_rfl)
def Kz:List Ent:=ke9::J3
theorem Lh:∀ e∈Kz,aV Tryd.prog e:=di WZ KD
def WO:D:=(.agg [(.v (.int .i64 0)),(.msl [70,0,28,0,297,0] 1),.nilsl,(.msl [314,0,28,0,297,0] 1),.nilsl,.nilsl,.nilsl,.nilsl,(.v (.int .i64 0)),(.v (.int .i64 1)),(.v (.int .i64 0)),(.v (.int .i64 0)),(.v (.int .i64 0)),(.v (.int .i64 0)),(.v (.int .i64 0)),(.v (.int .i64 0)),(.v (.int .i64 0)),(.v (.int .i64 0)),(.v (.int .i64 0)),(.v (.int .i64 0)),(.v (.int .i64 1)),(.msl [70,0,130,0,297,0] 2),.nilsl,.nilsl,.nilsl,.nilsl,.nilsl,.nilsl,(.v (.int .i64 0)),(.v (.int .i64 0)),(.v (.int .i64 0)),(.v (.int .i64 0)),(.v (.int .i64 0)),(.v (.int .i64 0)),(.v (.int .i64 0)),(.v (.int .i64 0)),(.v (.int .i64 0)),(.v (.int .i64 0)),(.v (.int .i64 0)),(.v (.int .i64 0)),(.v (.int .i64 707989)),(.v (.int .i64 2)),(.msl [70,0,1015,0] 1),.nilsl,(.msl [314,0,1015,0] 1),.nilsl,.nilsl,.nilsl,.nilsl,(.v (.int .i64 0)),(.v (.int .i64 1)),(.v (.int .i64 0)),(.v (.int .i64 0)),(.v (.int .i64 0)),(.v (.int .i64 0)),(.v (.int .i64 0)),(.v (.int .i64 0)),(.v (.int .i64 0)),(.v (.int .i64 0)),(.v (.int .i64 0)),(.v (.int .i64 0)),(.v (.int .i64 288542)),(.v (.int .i64 1))])
def WN:D:=(.tup [WO,(.v (.int .i64 0))])
def ke10:Ent:=⟨15,[(.arr 2 [cI]),cV],[zr],⟨[(1,cV),(0,(.arr 2 [cI]))],[([70,0,28,0,297,0],(.arr 1 [(.int .i64 9)])),([314,0,28,0,297,0],(.arr 2 [cI])),([70,0,130,0,297,0],cV),([70,0,1015,0],(.arr 1 [(.int .i64 9)])),([314,0,1015,0],(.arr 2 [cI]))],WN⟩⟩
theorem Xy:aV Tryd.prog ke10:=dm (F:=dn) Lh (by kernel_rfl)
def Ky:List Ent:=ke10::Kz
theorem Lg:∀ e∈Ky,aV Tryd.prog e:=di Xy Lh
def WM:D:=(.agg [(.msl [0,1] 1),.nilsl,(.msl [1,1] 1),.nilsl,.nilsl,.nilsl,.nilsl,(.v (.int .i64 0)),(.v (.int .i64 1)),(.v (.int .i64 0)),(.v (.int .i64 0)),(.v (.int .i64 0)),(.v (.int .i64 0)),(.v (.int .i64 0)),(.v (.int .i64 0)),(.v (.int .i64 0)),(.v (.int .i64 0)),(.v (.int .i64 0)),(.v (.int .i64 0))])
def ke11:Ent:=⟨78,[(.arr 1 [(.int .i64 9)]),(.arr 2 [cI])],[(.v (.int .i64 0)),WM],⟨[],[],(.v (.bool true))⟩⟩
theorem Xx:aV Tryd.prog ke11:=dm (F:=dn) Lg (by kernel_rfl)
def Kx:List Ent:=ke11::Ky
theorem Lf:∀ e∈Kx,aV Tryd.prog e:=di Xx Lg
def zq:D:=(.agg [(.v (.int .i64 0)),(.msl [0,1] 1),.nilsl,(.msl [1,1] 1),.nilsl,.nilsl,.nilsl,.nilsl,(.v (.int .i64 0)),(.v (.int .i64 1)),(.v (.int .i64 0)),(.v (.int .i64 0)),(.v (.int .i64 0)),(.v (.int .i64 0)),(.v (.int .i64 0)),(.v (.int .i64 0)),(.v (.int .i64 0)),(.v (.int .i64 0)),(.v (.int .i64 0)),(.v (.int .i64 0)),(.v (.int .i64 1)),(.msl [2,1] 2),.nilsl,.nilsl,.nilsl,.nilsl,.nilsl,.nilsl,(.v (.int .i64 0)),(.v (.int .i64 0)),(.v (.int .i64 0)),(.v (.int .i64 0)),(.v (.int .i64 0)),(.v (.int .i64 0)),(.v (.int .i64 0)),(.v (.int .i64 0)),(.v (.int .i64 0)),(.v (.int .i64 0)),(.v (.int .i64 0)),(.v (.int .i64 0)),(.v (.int .i64 707989)),(.v (.int .i64 2)),(.msl [3,1] 1),.nilsl,(.msl [4,1] 1),.nilsl,.nilsl,.nilsl,.nilsl,(.v (.int .i64 0)),(.v (.int .i64 1)),(.v (.int .i64 0)),(.v (.int .i64 0)),(.v (.int .i64 0)),(.v (.int .i64 0)),(.v (.int .i64 0)),(.v (.int .i64 0)),(.v (.int .i64 0)),(.v (.int .i64 0)),(.v (.int .i64 0)),(.v (.int .i64 0)),(.v (.int .i64 288542)),(.v (.int .i64 1))])
def ke12:Ent:=⟨66,[(.arr 1 [(.int .i64 9)]),(.arr 2 [cI]),cV,(.arr 1 [(.int .i64 9)]),(.arr 2 [cI])],[zq],⟨[],[],(.v (.bool true))⟩⟩
theorem Xw:aV Tryd.prog ke12:=dm (F:=dn) Lf (by kernel_rfl)
def Kw:List Ent:=ke12::Kx
theorem Le:∀ e∈Kw,aV Tryd.prog e:=di Xw Lf
def WL:D:=(.agg [(.v (.int .i64 0)),(.v (.int .i64 1)),.nilsl,(.v (.int .i64 0))])
def WK:D:=(.tup [WL,(.v (.int .i64 0))])
def ke13:Ent:=⟨17,[(.arr 1 [(.int .i64 9)]),(.arr 2 [cI]),cV,(.arr 1 [(.int .i64 9)]),(.arr 2 [cI])],[zq,(.v (.int .i64 1))],⟨[],[],WK⟩⟩
theorem Xv:aV Tryd.prog ke13:=dm (F:=dn) Le (by kernel_rfl)
def Kv:List Ent:=ke13::Kw
theorem Ld:∀ e∈Kv,aV Tryd.prog e:=di Xv Le
def Wl:O:=(.box [(.v (.int .i64 0)),(.msl [70,0,28,0] 1),.nilsl,(.msl [314,0,28,0] 1),.nilsl,.nilsl,.nilsl,.nilsl,(.v (.int .i64 0)),(.v (.int .i64 1)),(.v (.int .i64 0)),(.v (.int .i64 0)),(.v (.int .i64 0)),(.v (.int .i64 0)),(.v (.int .i64 0)),(.v (.int .i64 0)),(.v (.int .i64 0)),(.v (.int .i64 0)),(.v (.int .i64 0)),(.v (.int .i64 0)),(.v (.int .i64 1)),(.msl [70,0,130,0] 2),.nilsl,.nilsl,.nilsl,.nilsl,.nilsl,.nilsl,(.v (.int .i64 0)),(.v (.int .i64 0)),(.v (.int .i64 0)),(.v (.int .i64 0)),(.v (.int .i64 0)),(.v (.int .i64 0)),(.v (.int .i64 0)),(.v (.int .i64 0)),(.v (.int .i64 0)),(.v (.int .i64 0)),(.v (.int .i64 0)),(.v (.int .i64 0)),(.v (.int .i64 707989)),(.v (.int .i64 2)),(.msl [70,0,222,0] 1),.nilsl,(.msl [314,0,222,0] 1),.nilsl,.nilsl,.nilsl,.nilsl,(.v (.int .i64 0)),(.v (.int .i64 1)),(.v (.int .i64 0)),(.v (.int .i64 0)),(.v (.int .i64 0)),(.v (.int .i64 0)),(.v (.int .i64 0)),(.v (.int .i64 0)),(.v (.int .i64 0)),(.v (.int .i64 0)),(.v (.int .i64 0)),(.v (.int .i64 0)),(.v (.int .i64 288542)),(.v (.int .i64 1))])
def ke14:Ent:=⟨43,[(.arr 1 [(.int .i64 9)]),(.arr 2 [cI]),cV,(.arr 1 [(.int .i64 9)]),(.arr 2 [cI])],[zq],⟨[(4,(.arr 2 [cI])),(3,(.arr 1 [(.int .i64 9)])),(2,cV),(1,(.arr 2 [cI])),(0,(.arr 1 [(.int .i64 9)]))],[([298,0],Wl),([70,0,28,0],(.arr 1 [(.int .i64 9)])),([314,0,28,0],(.arr 2 [cI])),([70,0,130,0],cV),([70,0,222,0],(.arr 1 [(.int .i64 9)])),([314,0,222,0],(.arr 2 [cI]))],(.ref [298,0] 0)⟩⟩
theorem Xu:aV Tryd.prog ke14:=dm (F:=dn) Ld (by kernel_rfl)
def Ku:List Ent:=ke14::Kv
theorem Lc:∀ e∈Ku,aV Tryd.prog e:=di Xu Ld
end Go.Eng
