import Derived.Test.YtepaolcgegdpoaaGreatK12
import Derived.KernelRfl
/- Texts Sane3 to Sane3. -/
set_option linter.all false
namespace Go.Eng
open Go Go.Proofs
def ke14:Ent:=⟨187,[jZ,gm,(.arr 7 [fb,fa]),gR,gQ,iK],[(.ref [0,1] 0),MB],⟨[],[],MA⟩⟩
theorem ZF:a8 Tryz.prog ke14:=cZ (F:=c0) NU (by kernel_rfl)
def Nb:List Ent:=ke14::Nc
theorem NS:∀ e∈Nb,a8 Tryz.prog e:=c9 ZF NU
def yj:D:=(.agg [(.v (.int .i64 1)),(.v (.int .i64 2))])
def rN:D:=(.tup [MC,(.v (.bool true))])
def ke15:Ent:=⟨119,[jZ,gm,(.arr 7 [fb,fa]),gR,gQ,iK],[(.ref [0,1] 0),yj,(.v (.int .i64 22))],⟨[],[],rN⟩⟩
theorem ZE:a8 Tryz.prog ke15:=cZ (F:=c0) NS (by kernel_rfl)
def Na:List Ent:=ke15::Nb
theorem NR:∀ e∈Na,a8 Tryz.prog e:=c9 ZE NS
def Yx:V:=(.agg [(.int .i64 20),(.int .i64 22)])
def YK:O:=(.map 0 [((.int .i64 0),Yx),((.int .i64 1),yh)])
def ke16:Ent:=⟨128,[jZ,gm,(.arr 7 [fb,fa]),gR,gQ,iK],[(.ref [0,1] 0),(.v (.sl [th]))],⟨[(5,YK)],[],(.v (.bool true))⟩⟩
theorem ZD:a8 Tryz.prog ke16:=cZ (F:=c0) NR (by kernel_rfl)
def M':List Ent:=ke16::Na
theorem NQ:∀ e∈M',a8 Tryz.prog e:=c9 ZD NR
def ke17:Ent:=⟨119,[jZ,gm,(.arr 7 [fb,fa]),gR,gQ,Mx],[(.ref [0,1] 0),yj,(.v (.int .i64 22))],⟨[],[],rN⟩⟩
theorem ZC:a8 Tryz.prog ke17:=cZ (F:=c0) NQ (by kernel_rfl)
def M9:List Ent:=ke17::M'
theorem NP:∀ e∈M9,a8 Tryz.prog e:=c9 ZC NQ
def Yw:V:=(.agg [(.int .i64 26),(.int .i64 22)])
def YJ:O:=(.map 0 [((.int .i64 0),Yw),((.int .i64 1),yh)])
def ke18:Ent:=⟨128,[jZ,gm,(.arr 7 [fb,fa]),gR,gQ,iK],[(.ref [0,1] 0),(.v (.sl [wc,th]))],⟨[(5,YJ)],[],(.v (.bool false))⟩⟩
theorem ZB:a8 Tryz.prog ke18:=cZ (F:=c0) NP (by kernel_rfl)
def M8:List Ent:=ke18::M9
theorem NO:∀ e∈M8,a8 Tryz.prog e:=c9 ZB NP
def Yv:V:=(.sl [(.int .i64 30),(.int .i64 31)])
def YV:D:=(.tup [(.v Yv),(.v (.int .i64 0))])
def ke19:Ent:=⟨43,[],[oy,(.v (.int .i64 80))],⟨[],[],YV⟩⟩
theorem ZA:a8 Tryz.prog ke19:=cZ (F:=c0) NO (by kernel_rfl)
def M6:List Ent:=ke19::M8
theorem NM:∀ e∈M6,a8 Tryz.prog e:=c9 ZA NO
def ke20:Ent:=⟨76,[gm],[(.ref [0,1] 0),(.v (.int .i64 60))],⟨[],[([207,0],Fp),([1135,0],(.arr 7 [fb,fa])),([5916,0],gR),([204,0],gQ),([205,0],iK)],(.ref [207,0] 0)⟩⟩
theorem Zy:a8 Tryz.prog ke20:=cZ (F:=c0) NM (by kernel_rfl)
def M5:List Ent:=ke20::M6
theorem NL:∀ e∈M5,a8 Tryz.prog e:=c9 Zy NM
end Go.Eng
