import Derived.Test.YtepaolcgegdpoaaGreatK14
import Derived.KernelRfl
/- Texts Sane5 to Sane5. -/
set_option linter.all false
namespace Go.Eng
open Go Go.Proofs
def ke30:Ent:=⟨119,[jZ,gm,(.farr 7 [fb,fa]),gR,gQ,iK],[(.ref [0,1] 0),yj,(.v (.int .i64 19))],⟨[],[],rN⟩⟩
theorem Zn:a8 Tryz.prog ke30:=cZ (F:=c0) NA (by kernel_rfl)
def MU:List Ent:=ke30::MV
theorem Nz:∀ e∈MU,a8 Tryz.prog e:=c9 Zn NA
def ke31:Ent:=⟨119,[jZ,gm,(.farr 7 [fb,fa]),gR,gQ,iK],[(.ref [0,1] 0),Fq,(.v (.int .i64 19))],⟨[],[],rN⟩⟩
theorem Zm:a8 Tryz.prog ke31:=cZ (F:=c0) Nz (by kernel_rfl)
def MT:List Ent:=ke31::MU
theorem Ny:∀ e∈MT,a8 Tryz.prog e:=c9 Zm Nz
def YI:O:=(.box [(.v (.int .i64 5))])
def Mr:V:=(.agg [(.int .i64 1),(.int .i64 1)])
def Mq:V:=(.agg [(.int .i64 1),(.int .i64 2)])
def YQ:D:=(.tup [(.msl [163,0,171,0,551,0] 2),(.v (.int .i64 0))])
def ke32:Ent:=⟨104,[YI],[oy,(.v (.int .i64 5)),(.v (.int .i64 19)),(.v (.int .i64 60)),(.clo (.func 105) [] [(.ref [0,1] 0)])],⟨[],[([163,0,171,0,551,0],(.arr 2 [Mr,Mq]))],YQ⟩⟩
theorem Zl:a8 Tryz.prog ke32:=cZ (F:=c0) Ny (by kernel_rfl)
def MS:List Ent:=ke32::MT
theorem Nx:∀ e∈MS,a8 Tryz.prog e:=c9 Zl Ny
def Mp:V:=(.sl [(.int .i64 25),(.int .i64 30)])
def ke33:Ent:=⟨118,[gm],[(.ref [0,1] 0),(.v (.int .i64 60)),(.v Mp)],⟨[],[],(.v (.bool true))⟩⟩
theorem Zk:a8 Tryz.prog ke33:=cZ (F:=c0) Nx (by kernel_rfl)
def MR:List Ent:=ke33::MS
theorem Nw:∀ e∈MR,a8 Tryz.prog e:=c9 Zk Nx
def ke34:Ent:=⟨119,[jZ,gm,(.arr 7 [fb,fa]),gR,gQ,iK],[(.ref [0,1] 0),yj,(.v (.int .i64 27))],⟨[],[],rN⟩⟩
theorem Zj:a8 Tryz.prog ke34:=cZ (F:=c0) Nw (by kernel_rfl)
def MQ:List Ent:=ke34::MR
theorem Nv:∀ e∈MQ,a8 Tryz.prog e:=c9 Zj Nw
def ke35:Ent:=⟨119,[jZ,gm,(.arr 7 [fb,fa]),gR,gQ,iK],[(.ref [0,1] 0),Fq,(.v (.int .i64 27))],⟨[],[],rN⟩⟩
theorem Zi:a8 Tryz.prog ke35:=cZ (F:=c0) Nv (by kernel_rfl)
def MP:List Ent:=ke35::MQ
theorem Nu:∀ e∈MP,a8 Tryz.prog e:=c9 Zi Nv
def YH:O:=(.arr 1 [(.int .i64 0),(.int .i64 0),(.int .i64 5)])
def YP:D:=(.tup [(.msl [649,0] 3),(.v (.int .i64 0))])
def ke36:Ent:=⟨39,[],[oy,(.v Mp),(.v (.int .i64 1)),(.v (.int .i64 27)),(.v (.int .i64 60))],⟨[],[([649,0],YH)],YP⟩⟩
theorem Zh:a8 Tryz.prog ke36:=cZ (F:=c0) Nu (by kernel_rfl)
def MO:List Ent:=ke36::MP
theorem Nt:∀ e∈MO,a8 Tryz.prog e:=c9 Zh Nu
def Mw:O:=(.box [(.msl [1,1] 2),(.msl [2,1] 2),(.v (.sl [Fm])),(.msl [3,1] 2)])
def YG:O:=(.box [(.ref [0,1] 0),(.msl [1135,0] 2),(.msl [5192,0] 1),(.map [204,0]),(.map [205,0])])
def YF:O:=(.map 2 [(Mt,(.int .i64 0))])
def YE:O:=(.map 0 [((.int .i64 0),yh)])
def ke37:Ent:=⟨76,[Mw,(.arr 2 [yg,yi]),(.arr 7 [fb,fa]),(.arr 7 [wc,th])],[(.ref [0,1] 0),(.v (.int .i64 60))],⟨[],[([207,0],YG),([1135,0],(.arr 7 [fb,fa])),([5192,0],(.arr 1 [(.int .i64 0)])),([204,0],YF),([205,0],YE)],(.ref [207,0] 0)⟩⟩
theorem Zg:a8 Tryz.prog ke37:=cZ (F:=c0) Nt (by kernel_rfl)
def MN:List Ent:=ke37::MO
theorem Ns:∀ e∈MN,a8 Tryz.prog e:=c9 Zg Nt
end Go.Eng
