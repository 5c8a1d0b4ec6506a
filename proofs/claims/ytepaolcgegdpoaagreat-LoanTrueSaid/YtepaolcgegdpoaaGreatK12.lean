import Derived.Test.YtepaolcgegdpoaaGreatK11
import Derived.KernelRfl
/- Texts Sane3 to Sane3. -/
set_option linter.all false
namespace Go.Eng
open Go Go.Proofs
def ke14:Ent:=⟨187,[jJ,gf,(.arr 7 [eN,eM]),gJ,gI,iv],[(.ref [0,1] 0),Ln],⟨[],[],Lm⟩⟩
theorem XQ:aX Tryz.prog ke14:=cR (F:=cS) MM (by kernel_rfl)
def L7:List Ent:=ke14::L8
theorem ML:∀ e∈L7,aX Tryz.prog e:=cX XQ MM
def xt:D:=(.agg [(.v (.int .i64 1)),(.v (.int .i64 2))])
def qZ:D:=(.tup [Lo,(.v (.bool true))])
def ke15:Ent:=⟨119,[jJ,gf,(.arr 7 [eN,eM]),gJ,gI,iv],[(.ref [0,1] 0),xt,(.v (.int .i64 22))],⟨[],[],qZ⟩⟩
theorem XP:aX Tryz.prog ke15:=cR (F:=cS) ML (by kernel_rfl)
def L6:List Ent:=ke15::L7
theorem MK:∀ e∈L6,aX Tryz.prog e:=cX XP ML
def WG:V:=(.agg [(.int .i64 20),(.int .i64 22)])
def WU:O:=(.map 0 [((.int .i64 0),WG),((.int .i64 1),xq)])
def ke16:Ent:=⟨128,[jJ,gf,(.arr 7 [eN,eM]),gJ,gI,iv],[(.ref [0,1] 0),(.v (.sl [sK]))],⟨[(5,WU)],[],(.v (.bool true))⟩⟩
theorem XO:aX Tryz.prog ke16:=cR (F:=cS) MK (by kernel_rfl)
def L5:List Ent:=ke16::L6
theorem MJ:∀ e∈L5,aX Tryz.prog e:=cX XO MK
def ke17:Ent:=⟨119,[jJ,gf,(.arr 7 [eN,eM]),gJ,gI,Lj],[(.ref [0,1] 0),xt,(.v (.int .i64 22))],⟨[],[],qZ⟩⟩
theorem XN:aX Tryz.prog ke17:=cR (F:=cS) MJ (by kernel_rfl)
def L4:List Ent:=ke17::L5
theorem MI:∀ e∈L4,aX Tryz.prog e:=cX XN MJ
def WE:V:=(.agg [(.int .i64 26),(.int .i64 22)])
def WT:O:=(.map 0 [((.int .i64 0),WE),((.int .i64 1),xq)])
def ke18:Ent:=⟨128,[jJ,gf,(.arr 7 [eN,eM]),gJ,gI,iv],[(.ref [0,1] 0),(.v (.sl [vp,sK]))],⟨[(5,WT)],[],(.v (.bool false))⟩⟩
theorem XM:aX Tryz.prog ke18:=cR (F:=cS) MI (by kernel_rfl)
def L3:List Ent:=ke18::L4
theorem MH:∀ e∈L3,aX Tryz.prog e:=cX XM MI
def WD:V:=(.sl [(.int .i64 30),(.int .i64 31)])
def W5:D:=(.tup [(.v WD),(.v (.int .i64 0))])
def ke19:Ent:=⟨43,[],[nW,(.v (.int .i64 80))],⟨[],[],W5⟩⟩
theorem XL:aX Tryz.prog ke19:=cR (F:=cS) MH (by kernel_rfl)
def LZ:List Ent:=ke19::L3
theorem MF:∀ e∈LZ,aX Tryz.prog e:=cX XL MH
def ke20:Ent:=⟨76,[gf],[(.ref [0,1] 0),(.v (.int .i64 60))],⟨[],[([207,0],Eh),([1135,0],(.arr 7 [eN,eM])),([5916,0],gJ),([204,0],gI),([205,0],iv)],(.ref [207,0] 0)⟩⟩
theorem XJ:aX Tryz.prog ke20:=cR (F:=cS) MF (by kernel_rfl)
def LY:List Ent:=ke20::LZ
theorem ME:∀ e∈LY,aX Tryz.prog e:=cX XJ MF
end Go.Eng
