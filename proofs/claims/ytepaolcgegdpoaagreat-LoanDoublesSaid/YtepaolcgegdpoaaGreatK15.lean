import Derived.Test.YtepaolcgegdpoaaGreatK14
import Derived.KernelRfl
/- Texts Sane6 to Sane6. -/
set_option linter.all false
namespace Go.Eng
open Go Go.Proofs
def SU:D:=(.tup [(.v .nilp),(.v (.int .i64 25))])
def ke38:Ent:=⟨121,[H9,(.arr 2 [vw,vy]),(.arr 7 [eg,ef]),(.arr 7 [tF,ri])],[(.ref [0,1] 0),(.v (.int .i64 60))],⟨[],[],SU⟩⟩
theorem Tm:aV Tryz.prog ke38:=cF (F:=cG) I9 (by kernel_rfl)
def Ir:List Ent:=ke38::Is
theorem I8:∀ e∈Ir,aV Tryz.prog e:=cL Tm I9
def SJ:O:=(.arr 2 [H4,H0,vw,vy])
def SS:D:=(.tup [(.msl [244,0,171,0,985,0] 4),(.v (.int .i64 0))])
def ke39:Ent:=⟨21,[],[mo,(.v (.int .i64 20)),(.v (.int .i64 30)),(.v (.int .i64 60))],⟨[],[([244,0,171,0,985,0],SJ)],SS⟩⟩
theorem Tl:aV Tryz.prog ke39:=cF (F:=cG) I8 (by kernel_rfl)
def Ip:List Ent:=ke39::Ir
theorem I6:∀ e∈Ip,aV Tryz.prog e:=cL Tl I8
def SA:V:=(.sl [(.int .i64 41),(.int .i64 11)])
def ke40:Ent:=⟨38,[],[mo,(.v (.int .i64 60)),(.v SA)],⟨[],[],(.v (.int .i64 29))⟩⟩
theorem Tj:aV Tryz.prog ke40:=cF (F:=cG) I6 (by kernel_rfl)
def Tc:List Ent:=ke40::Ip
theorem TT:∀ e∈Tc,aV Tryz.prog e:=cL Tj I6
def ke41:Ent:=⟨18,[],[],⟨[],[],(.v (.bool true))⟩⟩
theorem Ti:aV Tryz.prog ke41:=cF (F:=cG) TT (by kernel_rfl)
end Go.Eng
