import Derived.Test.YtepaolcgegdpoaaGreatK11
import Derived.KernelRfl
/- Texts Sane3 to Sane3. -/
set_option linter.all false
namespace Go.Eng
open Go Go.Proofs
def ke14:Ent:=⟨187,[jr,fH,(.arr 7 [eF,eE]),gl,gk,gU],[(.ref [0,1] 0),Kb],⟨[],[],Ka⟩⟩
theorem Wj:aW Tryz.prog ke14:=cJ (F:=cK) LG (by kernel_rfl)
def KN:List Ent:=ke14::KO
theorem LF:∀ e∈KN,aW Tryz.prog e:=cP Wj LG
def wP:D:=(.agg [(.v (.int .i64 1)),(.v (.int .i64 2))])
def qp:D:=(.tup [Kc,(.v (.bool true))])
def ke15:Ent:=⟨119,[jr,fH,(.arr 7 [eF,eE]),gl,gk,gU],[(.ref [0,1] 0),wP,(.v (.int .i64 22))],⟨[],[],qp⟩⟩
theorem Wi:aW Tryz.prog ke15:=cJ (F:=cK) LF (by kernel_rfl)
def KM:List Ent:=ke15::KN
theorem LD:∀ e∈KM,aW Tryz.prog e:=cP Wi LF
def Va:V:=(.agg [(.int .i64 20),(.int .i64 22)])
def Vn:O:=(.map 0 [((.int .i64 0),Va),((.int .i64 1),wN)])
def ke16:Ent:=⟨128,[jr,fH,(.arr 7 [eF,eE]),gl,gk,gU],[(.ref [0,1] 0),(.v (.sl [r9]))],⟨[(5,Vn)],[],(.v (.bool true))⟩⟩
theorem Wh:aW Tryz.prog ke16:=cJ (F:=cK) LD (by kernel_rfl)
def KL:List Ent:=ke16::KM
theorem LC:∀ e∈KL,aW Tryz.prog e:=cP Wh LD
def ke17:Ent:=⟨119,[jr,fH,(.arr 7 [eF,eE]),gl,gk,J8],[(.ref [0,1] 0),wP,(.v (.int .i64 22))],⟨[],[],qp⟩⟩
theorem Wg:aW Tryz.prog ke17:=cJ (F:=cK) LC (by kernel_rfl)
def KJ:List Ent:=ke17::KL
theorem LB:∀ e∈KJ,aW Tryz.prog e:=cP Wg LC
def U':V:=(.agg [(.int .i64 26),(.int .i64 22)])
def Vm:O:=(.map 0 [((.int .i64 0),U'),((.int .i64 1),wN)])
def ke18:Ent:=⟨128,[jr,fH,(.arr 7 [eF,eE]),gl,gk,gU],[(.ref [0,1] 0),(.v (.sl [uO,r9]))],⟨[(5,Vm)],[],(.v (.bool false))⟩⟩
theorem Wf:aW Tryz.prog ke18:=cJ (F:=cK) LB (by kernel_rfl)
def KI:List Ent:=ke18::KJ
theorem LA:∀ e∈KI,aW Tryz.prog e:=cP Wf LB
def U9:V:=(.sl [(.int .i64 30),(.int .i64 31)])
def Vz:D:=(.tup [(.v U9),(.v (.int .i64 0))])
def ke19:Ent:=⟨43,[],[nk,(.v (.int .i64 80))],⟨[],[],Vz⟩⟩
theorem We:aW Tryz.prog ke19:=cJ (F:=cK) LA (by kernel_rfl)
def KG:List Ent:=ke19::KI
theorem Lx:∀ e∈KG,aW Tryz.prog e:=cP We LA
def ke20:Ent:=⟨76,[fH],[(.ref [0,1] 0),(.v (.int .i64 60))],⟨[],[([207,0],DA),([1135,0],(.arr 7 [eF,eE])),([5916,0],gl),([204,0],gk),([205,0],gU)],(.ref [207,0] 0)⟩⟩
theorem Wc:aW Tryz.prog ke20:=cJ (F:=cK) Lx (by kernel_rfl)
def KF:List Ent:=ke20::KG
theorem Lw:∀ e∈KF,aW Tryz.prog e:=cP Wc Lx
end Go.Eng
