import Derived.Test.YtepaolcgegdpoaaGreatK14
import Derived.KernelRfl
/- Texts Sane5 to Sane5. -/
set_option linter.all false
namespace Go.Eng
open Go Go.Proofs
def ke30:Ent:=⟨119,[jO,fZ,(.farr 7 [eM,eK]),gC,gB,ib],[(.ref [0,1] 0),wH,(.v (.int .i64 19))],⟨[],[],qL⟩⟩
theorem Wj:bb Tryz.prog ke30:=c9 (F:=db) KO (by kernel_rfl)
def J8:List Ent:=ke30::J9
theorem KN:∀ e∈J8,bb Tryz.prog e:=dg Wj KO
def ke31:Ent:=⟨119,[jO,fZ,(.farr 7 [eM,eK]),gC,gB,ib],[(.ref [0,1] 0),C8,(.v (.int .i64 19))],⟨[],[],qL⟩⟩
theorem Wi:bb Tryz.prog ke31:=c9 (F:=db) KN (by kernel_rfl)
def J7:List Ent:=ke31::J8
theorem KM:∀ e∈J7,bb Tryz.prog e:=dg Wi KN
def VB:O:=(.box [(.v (.int .i64 5))])
def JF:V:=(.agg [(.int .i64 1),(.int .i64 1)])
def JE:V:=(.agg [(.int .i64 1),(.int .i64 2)])
def VJ:D:=(.tup [(.msl [163,0,171,0,551,0] 2),(.v (.int .i64 0))])
def ke32:Ent:=⟨104,[VB],[nw,(.v (.int .i64 5)),(.v (.int .i64 19)),(.v (.int .i64 60)),(.clo (.func 105) [] [(.ref [0,1] 0)])],⟨[],[([163,0,171,0,551,0],(.arr 2 [JF,JE]))],VJ⟩⟩
theorem Wh:bb Tryz.prog ke32:=c9 (F:=db) KM (by kernel_rfl)
def J6:List Ent:=ke32::J7
theorem KL:∀ e∈J6,bb Tryz.prog e:=dg Wh KM
def JD:V:=(.sl [(.int .i64 25),(.int .i64 30)])
def ke33:Ent:=⟨118,[fZ],[(.ref [0,1] 0),(.v (.int .i64 60)),(.v JD)],⟨[],[],(.v (.bool true))⟩⟩
theorem Wg:bb Tryz.prog ke33:=c9 (F:=db) KL (by kernel_rfl)
def J5:List Ent:=ke33::J6
theorem KJ:∀ e∈J5,bb Tryz.prog e:=dg Wg KL
def ke34:Ent:=⟨119,[jO,fZ,(.arr 7 [eM,eK]),gC,gB,ib],[(.ref [0,1] 0),wH,(.v (.int .i64 27))],⟨[],[],qL⟩⟩
theorem Wf:bb Tryz.prog ke34:=c9 (F:=db) KJ (by kernel_rfl)
def J4:List Ent:=ke34::J5
theorem KI:∀ e∈J4,bb Tryz.prog e:=dg Wf KJ
def ke35:Ent:=⟨119,[jO,fZ,(.arr 7 [eM,eK]),gC,gB,ib],[(.ref [0,1] 0),C8,(.v (.int .i64 27))],⟨[],[],qL⟩⟩
theorem We:bb Tryz.prog ke35:=c9 (F:=db) KI (by kernel_rfl)
def J3:List Ent:=ke35::J4
theorem KH:∀ e∈J3,bb Tryz.prog e:=dg We KI
def VA:O:=(.arr 1 [(.int .i64 0),(.int .i64 0),(.int .i64 5)])
def VI:D:=(.tup [(.msl [649,0] 3),(.v (.int .i64 0))])
def ke36:Ent:=⟨39,[],[nw,(.v JD),(.v (.int .i64 1)),(.v (.int .i64 27)),(.v (.int .i64 60))],⟨[],[([649,0],VA)],VI⟩⟩
theorem Wd:bb Tryz.prog ke36:=c9 (F:=db) KH (by kernel_rfl)
def J2:List Ent:=ke36::J3
theorem KG:∀ e∈J2,bb Tryz.prog e:=dg Wd KH
def JK:O:=(.box [(.msl [1,1] 2),(.msl [2,1] 2),(.v (.sl [C5])),(.msl [3,1] 2)])
def Vz:O:=(.box [(.ref [0,1] 0),(.msl [1135,0] 2),(.msl [5192,0] 1),(.map [204,0]),(.map [205,0])])
def Vy:O:=(.map 2 [(JH,(.int .i64 0))])
def Vx:O:=(.map 0 [((.int .i64 0),wF)])
def ke37:Ent:=⟨76,[JK,(.arr 2 [wE,wG]),(.arr 7 [eM,eK]),(.arr 7 [uO,sh])],[(.ref [0,1] 0),(.v (.int .i64 60))],⟨[],[([207,0],Vz),([1135,0],(.arr 7 [eM,eK])),([5192,0],(.arr 1 [(.int .i64 0)])),([204,0],Vy),([205,0],Vx)],(.ref [207,0] 0)⟩⟩
theorem Wc:bb Tryz.prog ke37:=c9 (F:=db) KG (by kernel_rfl)
def J1:List Ent:=ke37::J2
theorem KF:∀ e∈J1,bb Tryz.prog e:=dg Wc KG
end Go.Eng
