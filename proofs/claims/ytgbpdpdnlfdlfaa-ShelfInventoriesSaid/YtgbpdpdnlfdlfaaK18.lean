import Derived.Test.YtgbpdpdnlfdlfaaK17
import Derived.KernelRfl
/- Texts Sane11 to Sane11. -/
set_option linter.all false
namespace Go.Eng
open Go Go.Proofs
def J':V:=(.sl [(.int .i64 5),(.int .i64 9)])
def KO:D:=(.agg [(.v (.bool false)),(.v J')])
def ke78:Ent:=⟨23,[],[cO,(.v (.int .i64 8)),KO],⟨[],[],(.v (.int .i64 0))⟩⟩
theorem Le:ak Try.prog ke78:=aJ (F:=aK) Bi (by kernel_rfl)
def La:List Ent:=ke78::zX
theorem Mz:∀ e∈La,ak Try.prog e:=aL Le Bi
def ke79:Ent:=⟨9,[],[],⟨[],[],(.v (.bool true))⟩⟩
theorem Ld:ak Try.prog ke79:=aJ (F:=aK) Mz (by kernel_rfl)
end Go.Eng
