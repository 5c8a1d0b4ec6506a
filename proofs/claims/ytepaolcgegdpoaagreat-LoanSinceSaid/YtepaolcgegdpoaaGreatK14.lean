import Derived.Test.YtepaolcgegdpoaaGreatK13
import Derived.KernelRfl
/- Texts Sane6 to Sane6. -/
set_option linter.all false
namespace Go.Eng
open Go Go.Proofs
def Ra:D:=(.tup [(.v .nilp),(.v (.int .i64 25))])
def ke38:Ent:=⟨121,[GD,(.arr 2 [ue,ug]),(.arr 7 [dN,dM]),(.arr 7 [sh,pX])],[(.ref [0,1] 0),(.v (.int .i64 60))],⟨[],[],Ra⟩⟩
theorem RG:aR Tryz.prog ke38:=cl (F:=cm) HG (by kernel_rfl)
def GY:List Ent:=ke38::GZ
theorem HF:∀ e∈GY,aR Tryz.prog e:=cw RG HG
def Q1:O:=(.arr 2 [Gy,Gx,ue,ug])
def Q':D:=(.tup [(.msl [244,0,171,0,985,0] 4),(.v (.int .i64 0))])
def ke39:Ent:=⟨21,[],[lE,(.v (.int .i64 20)),(.v (.int .i64 30)),(.v (.int .i64 60))],⟨[],[([244,0,171,0,985,0],Q1)],Q'⟩⟩
theorem RF:aR Tryz.prog ke39:=cl (F:=cm) HF (by kernel_rfl)
def GW:List Ent:=ke39::GY
theorem HD:∀ e∈GW,aR Tryz.prog e:=cw RF HF
def QS:V:=(.sl [(.int .i64 41),(.int .i64 11)])
def ke40:Ent:=⟨38,[],[lE,(.v (.int .i64 60)),(.v QS)],⟨[],[],(.v (.int .i64 29))⟩⟩
theorem RD:aR Tryz.prog ke40:=cl (F:=cm) HD (by kernel_rfl)
def Rw:List Ent:=ke40::GW
theorem Sf:∀ e∈Rw,aR Tryz.prog e:=cw RD HD
def ke41:Ent:=⟨18,[],[],⟨[],[],(.v (.bool true))⟩⟩
theorem RC:aR Tryz.prog ke41:=cl (F:=cm) Sf (by kernel_rfl)
end Go.Eng
