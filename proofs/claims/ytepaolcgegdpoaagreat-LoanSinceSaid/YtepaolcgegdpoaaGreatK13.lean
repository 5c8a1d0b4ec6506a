import Derived.Test.YtepaolcgegdpoaaGreatK12
import Derived.KernelRfl
/- Texts Sane5 to Sane5. -/
set_option linter.all false
namespace Go.Eng
open Go Go.Proofs
def ke30:Ent:=⟨119,[gW,eV,(.farr 7 [dN,dM]),fi,fh,fR],[(.ref [0,1] 0),uh,(.v (.int .i64 19))],⟨[],[],oM⟩⟩
theorem RO:aR Tryz.prog ke30:=cl (F:=cm) HO (by kernel_rfl)
def G6:List Ent:=ke30::G7
theorem HN:∀ e∈G6,aR Tryz.prog e:=cw RO HO
def ke31:Ent:=⟨119,[gW,eV,(.farr 7 [dN,dM]),fi,fh,fR],[(.ref [0,1] 0),A7,(.v (.int .i64 19))],⟨[],[],oM⟩⟩
theorem RN:aR Tryz.prog ke31:=cl (F:=cm) HN (by kernel_rfl)
def G5:List Ent:=ke31::G6
theorem HM:∀ e∈G5,aR Tryz.prog e:=cw RN HN
def Q6:O:=(.box [(.v (.int .i64 5))])
def Gy:V:=(.agg [(.int .i64 1),(.int .i64 1)])
def Gx:V:=(.agg [(.int .i64 1),(.int .i64 2)])
def Rd:D:=(.tup [(.msl [163,0,171,0,551,0] 2),(.v (.int .i64 0))])
def ke32:Ent:=⟨104,[Q6],[lE,(.v (.int .i64 5)),(.v (.int .i64 19)),(.v (.int .i64 60)),(.clo (.func 105) [] [(.ref [0,1] 0)])],⟨[],[([163,0,171,0,551,0],(.arr 2 [Gy,Gx]))],Rd⟩⟩
theorem RM:aR Tryz.prog ke32:=cl (F:=cm) HM (by kernel_rfl)
def G4:List Ent:=ke32::G5
theorem HL:∀ e∈G4,aR Tryz.prog e:=cw RM HM
def Gw:V:=(.sl [(.int .i64 25),(.int .i64 30)])
def ke33:Ent:=⟨118,[eV],[(.ref [0,1] 0),(.v (.int .i64 60)),(.v Gw)],⟨[],[],(.v (.bool true))⟩⟩
theorem RL:aR Tryz.prog ke33:=cl (F:=cm) HL (by kernel_rfl)
def G3:List Ent:=ke33::G4
theorem HK:∀ e∈G3,aR Tryz.prog e:=cw RL HL
def ke34:Ent:=⟨119,[gW,eV,(.arr 7 [dN,dM]),fi,fh,fR],[(.ref [0,1] 0),uh,(.v (.int .i64 27))],⟨[],[],oM⟩⟩
theorem RK:aR Tryz.prog ke34:=cl (F:=cm) HK (by kernel_rfl)
def G2:List Ent:=ke34::G3
theorem HJ:∀ e∈G2,aR Tryz.prog e:=cw RK HK
def ke35:Ent:=⟨119,[gW,eV,(.arr 7 [dN,dM]),fi,fh,fR],[(.ref [0,1] 0),A7,(.v (.int .i64 27))],⟨[],[],oM⟩⟩
theorem RJ:aR Tryz.prog ke35:=cl (F:=cm) HJ (by kernel_rfl)
def G1:List Ent:=ke35::G2
theorem HI:∀ e∈G1,aR Tryz.prog e:=cw RJ HJ
def Q5:O:=(.arr 1 [(.int .i64 0),(.int .i64 0),(.int .i64 5)])
def Rc:D:=(.tup [(.msl [649,0] 3),(.v (.int .i64 0))])
def ke36:Ent:=⟨39,[],[lE,(.v Gw),(.v (.int .i64 1)),(.v (.int .i64 27)),(.v (.int .i64 60))],⟨[],[([649,0],Q5)],Rc⟩⟩
theorem RI:aR Tryz.prog ke36:=cl (F:=cm) HI (by kernel_rfl)
def G0:List Ent:=ke36::G1
theorem HH:∀ e∈G0,aR Tryz.prog e:=cw RI HI
def GD:O:=(.box [(.msl [1,1] 2),(.msl [2,1] 2),(.v (.sl [A4])),(.msl [3,1] 2)])
def Q4:O:=(.box [(.ref [0,1] 0),(.msl [1135,0] 2),(.msl [5192,0] 1),(.map [204,0]),(.map [205,0])])
def Q3:O:=(.map 2 [(GA,(.int .i64 0))])
def Q2:O:=(.map 0 [((.int .i64 0),uf)])
def ke37:Ent:=⟨76,[GD,(.arr 2 [ue,ug]),(.arr 7 [dN,dM]),(.arr 7 [sh,pX])],[(.ref [0,1] 0),(.v (.int .i64 60))],⟨[],[([207,0],Q4),([1135,0],(.arr 7 [dN,dM])),([5192,0],(.arr 1 [(.int .i64 0)])),([204,0],Q3),([205,0],Q2)],(.ref [207,0] 0)⟩⟩
theorem RH:aR Tryz.prog ke37:=cl (F:=cm) HH (by kernel_rfl)
def GZ:List Ent:=ke37::G0
theorem HG:∀ e∈GZ,aR Tryz.prog e:=cw RH HH
end Go.Eng
