import Derived.Test.YtepaolcgegdpoaaGreatK14
import Derived.KernelRfl
/- Texts Sane6 to Sane6. -/
set_option linter.all false
namespace Go.Eng
open Go Go.Proofs
def SK:D:=(.tup [(.v .nilp),(.v (.int .i64 25))])
def ke38:Ent:=⟨121,[HK,(.arr 2 [vj,vl]),(.arr 7 [dW,dV]),(.arr 7 [sX,qy])],[(.ref [0,1] 0),(.v (.int .i64 60))],⟨[],[],SK⟩⟩
theorem Te:aT Tryz.prog ke38:=cz (F:=cA) IL (by kernel_rfl)
def H0:List Ent:=ke38::H4
theorem IK:∀ e∈H0,aT Tryz.prog e:=cF Te IL
def SA:O:=(.arr 2 [HF,HE,vj,vl])
def SJ:D:=(.tup [(.msl [244,0,171,0,985,0] 4),(.v (.int .i64 0))])
def ke39:Ent:=⟨21,[],[mg,(.v (.int .i64 20)),(.v (.int .i64 30)),(.v (.int .i64 60))],⟨[],[([244,0,171,0,985,0],SA)],SJ⟩⟩
theorem Td:aT Tryz.prog ke39:=cz (F:=cA) IK (by kernel_rfl)
def HY:List Ent:=ke39::H0
theorem II:∀ e∈HY,aT Tryz.prog e:=cF Td IK
def Sq:V:=(.sl [(.int .i64 41),(.int .i64 11)])
def ke40:Ent:=⟨38,[],[mg,(.v (.int .i64 60)),(.v Sq)],⟨[],[],(.v (.int .i64 29))⟩⟩
theorem Tb:aT Tryz.prog ke40:=cz (F:=cA) II (by kernel_rfl)
def S4:List Ent:=ke40::HY
theorem TL:∀ e∈S4,aT Tryz.prog e:=cF Tb II
def ke41:Ent:=⟨18,[],[],⟨[],[],(.v (.bool true))⟩⟩
theorem Ta:aT Tryz.prog ke41:=cz (F:=cA) TL (by kernel_rfl)
end Go.Eng
