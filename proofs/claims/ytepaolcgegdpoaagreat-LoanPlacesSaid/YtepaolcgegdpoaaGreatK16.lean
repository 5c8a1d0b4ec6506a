import Derived.Test.YtepaolcgegdpoaaGreatK15
import Derived.KernelRfl
/- Texts Sane6 to Sane6. -/
set_option linter.all false
namespace Go.Eng
open Go Go.Proofs
def VG:D:=(.tup [(.v .nilp),(.v (.int .i64 25))])
def ke38:Ent:=⟨121,[JK,(.arr 2 [wE,wG]),(.arr 7 [eM,eK]),(.arr 7 [uO,sh])],[(.ref [0,1] 0),(.v (.int .i64 60))],⟨[],[],VG⟩⟩
theorem Wb:bb Tryz.prog ke38:=c9 (F:=db) KF (by kernel_rfl)
def J0:List Ent:=ke38::J1
theorem KE:∀ e∈J0,bb Tryz.prog e:=dg Wb KF
def Vv:O:=(.arr 2 [JF,JE,wE,wG])
def VF:D:=(.tup [(.msl [244,0,171,0,985,0] 4),(.v (.int .i64 0))])
def ke39:Ent:=⟨21,[],[nw,(.v (.int .i64 20)),(.v (.int .i64 30)),(.v (.int .i64 60))],⟨[],[([244,0,171,0,985,0],Vv)],VF⟩⟩
theorem Wa:bb Tryz.prog ke39:=c9 (F:=db) KE (by kernel_rfl)
def JY:List Ent:=ke39::J0
theorem KC:∀ e∈JY,bb Tryz.prog e:=dg Wa KE
def Vm:V:=(.sl [(.int .i64 41),(.int .i64 11)])
def ke40:Ent:=⟨38,[],[nw,(.v (.int .i64 60)),(.v Vm)],⟨[],[],(.v (.int .i64 29))⟩⟩
theorem V9:bb Tryz.prog ke40:=c9 (F:=db) KC (by kernel_rfl)
def V2:List Ent:=ke40::JY
theorem WJ:∀ e∈V2,bb Tryz.prog e:=dg V9 KC
def ke41:Ent:=⟨18,[],[],⟨[],[],(.v (.bool true))⟩⟩
theorem V8:bb Tryz.prog ke41:=c9 (F:=db) WJ (by kernel_rfl)
end Go.Eng
