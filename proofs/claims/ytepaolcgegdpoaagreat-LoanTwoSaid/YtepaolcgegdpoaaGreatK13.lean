import Derived.Test.YtepaolcgegdpoaaGreatK12
import Derived.KernelRfl
/- Texts Sane5 to Sane5. -/
set_option linter.all false
namespace Go.Eng
open Go Go.Proofs
def ke30:Ent:=⟨119,[hM,eV,(.farr 7 [dT,dS]),fm,fk,fS],[(.ref [0,1] 0),uw,(.v (.int .i64 19))],⟨[],[],oT⟩⟩
theorem RS:aO Tryz.prog ke30:=cr (F:=ct) HS (by kernel_rfl)
def Ha:List Ent:=ke30::Hb
theorem HR:∀ e∈Ha,aO Tryz.prog e:=cz RS HS
def ke31:Ent:=⟨119,[hM,eV,(.farr 7 [dT,dS]),fm,fk,fS],[(.ref [0,1] 0),A5,(.v (.int .i64 19))],⟨[],[],oT⟩⟩
theorem RR:aO Tryz.prog ke31:=cr (F:=ct) HR (by kernel_rfl)
def G':List Ent:=ke31::Ha
theorem HQ:∀ e∈G',aO Tryz.prog e:=cz RR HR
def Q':O:=(.box [(.v (.int .i64 5))])
def GH:V:=(.agg [(.int .i64 1),(.int .i64 1)])
def GG:V:=(.agg [(.int .i64 1),(.int .i64 2)])
def Ri:D:=(.tup [(.msl [163,0,171,0,551,0] 2),(.v (.int .i64 0))])
def ke32:Ent:=⟨104,[Q'],[lM,(.v (.int .i64 5)),(.v (.int .i64 19)),(.v (.int .i64 60)),(.clo (.func 105) [] [(.ref [0,1] 0)])],⟨[],[([163,0,171,0,551,0],(.arr 2 [GH,GG]))],Ri⟩⟩
theorem RQ:aO Tryz.prog ke32:=cr (F:=ct) HQ (by kernel_rfl)
def G9:List Ent:=ke32::G'
theorem HP:∀ e∈G9,aO Tryz.prog e:=cz RQ HQ
def GF:V:=(.sl [(.int .i64 25),(.int .i64 30)])
def ke33:Ent:=⟨118,[eV],[(.ref [0,1] 0),(.v (.int .i64 60)),(.v GF)],⟨[],[],(.v (.bool true))⟩⟩
theorem RP:aO Tryz.prog ke33:=cr (F:=ct) HP (by kernel_rfl)
def G8:List Ent:=ke33::G9
theorem HO:∀ e∈G8,aO Tryz.prog e:=cz RP HP
def ke34:Ent:=⟨119,[hM,eV,(.arr 7 [dT,dS]),fm,fk,fS],[(.ref [0,1] 0),uw,(.v (.int .i64 27))],⟨[],[],oT⟩⟩
theorem RO:aO Tryz.prog ke34:=cr (F:=ct) HO (by kernel_rfl)
def G7:List Ent:=ke34::G8
theorem HN:∀ e∈G7,aO Tryz.prog e:=cz RO HO
def ke35:Ent:=⟨119,[hM,eV,(.arr 7 [dT,dS]),fm,fk,fS],[(.ref [0,1] 0),A5,(.v (.int .i64 27))],⟨[],[],oT⟩⟩
theorem RN:aO Tryz.prog ke35:=cr (F:=ct) HN (by kernel_rfl)
def G6:List Ent:=ke35::G7
theorem HM:∀ e∈G6,aO Tryz.prog e:=cz RN HN
def Q9:O:=(.arr 1 [(.int .i64 0),(.int .i64 0),(.int .i64 5)])
def Rh:D:=(.tup [(.msl [649,0] 3),(.v (.int .i64 0))])
def ke36:Ent:=⟨39,[],[lM,(.v GF),(.v (.int .i64 1)),(.v (.int .i64 27)),(.v (.int .i64 60))],⟨[],[([649,0],Q9)],Rh⟩⟩
theorem RM:aO Tryz.prog ke36:=cr (F:=ct) HM (by kernel_rfl)
def G5:List Ent:=ke36::G6
theorem HL:∀ e∈G5,aO Tryz.prog e:=cz RM HM
def GM:O:=(.box [(.msl [1,1] 2),(.msl [2,1] 2),(.v (.sl [A2])),(.msl [3,1] 2)])
def Q8:O:=(.box [(.ref [0,1] 0),(.msl [1135,0] 2),(.msl [5192,0] 1),(.map [204,0]),(.map [205,0])])
def Q7:O:=(.map 2 [(GJ,(.int .i64 0))])
def Q6:O:=(.map 0 [((.int .i64 0),uu)])
def ke37:Ent:=⟨76,[GM,(.arr 2 [uq,uv]),(.arr 7 [dT,dS]),(.arr 7 [sm,p9])],[(.ref [0,1] 0),(.v (.int .i64 60))],⟨[],[([207,0],Q8),([1135,0],(.arr 7 [dT,dS])),([5192,0],(.arr 1 [(.int .i64 0)])),([204,0],Q7),([205,0],Q6)],(.ref [207,0] 0)⟩⟩
theorem RL:aO Tryz.prog ke37:=cr (F:=ct) HL (by kernel_rfl)
def G4:List Ent:=ke37::G5
theorem HK:∀ e∈G4,aO Tryz.prog e:=cz RL HL
end Go.Eng
