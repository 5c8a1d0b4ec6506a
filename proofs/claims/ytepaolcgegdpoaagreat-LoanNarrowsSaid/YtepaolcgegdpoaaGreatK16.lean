import Derived.Test.YtepaolcgegdpoaaGreatK15
import Derived.KernelRfl
/- Texts Sane6 to Sane6. -/
set_option linter.all false
namespace Go.Eng
open Go Go.Proofs
def YN:D:=(.tup [(.v .nilp),(.v (.int .i64 25))])
def ke38:Ent:=⟨121,[Mw,(.arr 2 [yg,yi]),(.arr 7 [fb,fa]),(.arr 7 [wc,th])],[(.ref [0,1] 0),(.v (.int .i64 60))],⟨[],[],YN⟩⟩
theorem Zf:a8 Tryz.prog ke38:=cZ (F:=c0) Ns (by kernel_rfl)
def MM:List Ent:=ke38::MN
theorem Nr:∀ e∈MM,a8 Tryz.prog e:=c9 Zf Ns
def YD:O:=(.arr 2 [Mr,Mq,yg,yi])
def YM:D:=(.tup [(.msl [244,0,171,0,985,0] 4),(.v (.int .i64 0))])
def ke39:Ent:=⟨21,[],[oy,(.v (.int .i64 20)),(.v (.int .i64 30)),(.v (.int .i64 60))],⟨[],[([244,0,171,0,985,0],YD)],YM⟩⟩
theorem Ze:a8 Tryz.prog ke39:=cZ (F:=c0) Nr (by kernel_rfl)
def MK:List Ent:=ke39::MM
theorem Np:∀ e∈MK,a8 Tryz.prog e:=c9 Ze Nr
def Yu:V:=(.sl [(.int .i64 41),(.int .i64 11)])
def ke40:Ent:=⟨38,[],[oy,(.v (.int .i64 60)),(.v Yu)],⟨[],[],(.v (.int .i64 29))⟩⟩
theorem Zc:a8 Tryz.prog ke40:=cZ (F:=c0) Np (by kernel_rfl)
def Y6:List Ent:=ke40::MK
theorem ZM:∀ e∈Y6,a8 Tryz.prog e:=c9 Zc Np
def ke41:Ent:=⟨18,[],[],⟨[],[],(.v (.bool true))⟩⟩
theorem Zb:a8 Tryz.prog ke41:=cZ (F:=c0) ZM (by kernel_rfl)
end Go.Eng
