import Derived.Test.YtepaolcgegdpoaaGreatK14
import Derived.KernelRfl
/- Texts Sane6 to Sane6. -/
set_option linter.all false
namespace Go.Eng
open Go Go.Proofs
def Tz:D:=(.tup [(.v .nilp),(.v (.int .i64 25))])
def ke38:Ent:=⟨121,[HQ,(.arr 2 [va,ve]),(.arr 7 [eh,eg]),(.arr 7 [te,qL])],[(.ref [0,1] 0),(.v (.int .i64 60))],⟨[],[],Tz⟩⟩
theorem T8:aX Tryz.prog ke38:=cJ (F:=cK) IT (by kernel_rfl)
def H9:List Ent:=ke38::Ia
theorem IS:∀ e∈H9,aX Tryz.prog e:=cP T8 IT
def Tp:O:=(.arr 2 [HL,HK,va,ve])
def Ty:D:=(.tup [(.msl [244,0,171,0,985,0] 4),(.v (.int .i64 0))])
def ke39:Ent:=⟨21,[],[mg,(.v (.int .i64 20)),(.v (.int .i64 30)),(.v (.int .i64 60))],⟨[],[([244,0,171,0,985,0],Tp)],Ty⟩⟩
theorem T7:aX Tryz.prog ke39:=cJ (F:=cK) IS (by kernel_rfl)
def H7:List Ent:=ke39::H9
theorem IP:∀ e∈H7,aX Tryz.prog e:=cP T7 IS
def Tg:V:=(.sl [(.int .i64 41),(.int .i64 11)])
def ke40:Ent:=⟨38,[],[mg,(.v (.int .i64 60)),(.v Tg)],⟨[],[],(.v (.int .i64 29))⟩⟩
theorem T5:aX Tryz.prog ke40:=cJ (F:=cK) IP (by kernel_rfl)
def TV:List Ent:=ke40::H7
theorem UF:∀ e∈TV,aX Tryz.prog e:=cP T5 IP
def ke41:Ent:=⟨18,[],[],⟨[],[],(.v (.bool true))⟩⟩
theorem T4:aX Tryz.prog ke41:=cJ (F:=cK) UF (by kernel_rfl)
end Go.Eng
