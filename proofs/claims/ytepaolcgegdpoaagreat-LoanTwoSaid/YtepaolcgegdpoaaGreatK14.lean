import Derived.Test.YtepaolcgegdpoaaGreatK13
import Derived.KernelRfl
/- Texts Sane6 to Sane6. -/
set_option linter.all false
namespace Go.Eng
open Go Go.Proofs
def Re:D:=(.tup [(.v .nilp),(.v (.int .i64 25))])
def ke38:Ent:=⟨121,[GM,(.arr 2 [uq,uv]),(.arr 7 [dT,dS]),(.arr 7 [sm,p9])],[(.ref [0,1] 0),(.v (.int .i64 60))],⟨[],[],Re⟩⟩
theorem RK:aO Tryz.prog ke38:=cr (F:=ct) HK (by kernel_rfl)
def G3:List Ent:=ke38::G4
theorem HJ:∀ e∈G3,aO Tryz.prog e:=cz RK HK
def Q5:O:=(.arr 2 [GH,GG,uq,uv])
def Rd:D:=(.tup [(.msl [244,0,171,0,985,0] 4),(.v (.int .i64 0))])
def ke39:Ent:=⟨21,[],[lM,(.v (.int .i64 20)),(.v (.int .i64 30)),(.v (.int .i64 60))],⟨[],[([244,0,171,0,985,0],Q5)],Rd⟩⟩
theorem RJ:aO Tryz.prog ke39:=cr (F:=ct) HJ (by kernel_rfl)
def G1:List Ent:=ke39::G3
theorem HH:∀ e∈G1,aO Tryz.prog e:=cz RJ HJ
def QW:V:=(.sl [(.int .i64 41),(.int .i64 11)])
def ke40:Ent:=⟨38,[],[lM,(.v (.int .i64 60)),(.v QW)],⟨[],[],(.v (.int .i64 29))⟩⟩
theorem RH:aO Tryz.prog ke40:=cr (F:=ct) HH (by kernel_rfl)
def RA:List Ent:=ke40::G1
theorem Sj:∀ e∈RA,aO Tryz.prog e:=cz RH HH
def ke41:Ent:=⟨18,[],[],⟨[],[],(.v (.bool true))⟩⟩
theorem RG:aO Tryz.prog ke41:=cr (F:=ct) Sj (by kernel_rfl)
end Go.Eng
