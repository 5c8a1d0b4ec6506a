import Derived.Test.YtckmfkgppohnmaaDoorK7
import Derived.KernelRfl
/- Texts Sane2 to Sane2. -/
set_option linter.all false
namespace Go.Eng
open Go Go.Proofs
def zd:D:=(.agg [(.v (.int .i64 0)),(.v (.sl [(.int .i64 9)])),.nilsl,(.msl [0,1] 1),.nilsl,.nilsl,.nilsl,.nilsl,(.v (.int .i64 0)),(.v (.int .i64 1)),(.v (.int .i64 0)),(.v (.int .i64 0)),(.v (.int .i64 0)),(.v (.int .i64 0)),(.v (.int .i64 0)),(.v (.int .i64 0)),(.v (.int .i64 0)),(.v (.int .i64 0)),(.v (.int .i64 0)),(.v (.int .i64 0)),(.v (.int .i64 1)),(.msl [1,1] 2),.nilsl,.nilsl,.nilsl,.nilsl,.nilsl,.nilsl,(.v (.int .i64 0)),(.v (.int .i64 0)),(.v (.int .i64 0)),(.v (.int .i64 0)),(.v (.int .i64 0)),(.v (.int .i64 0)),(.v (.int .i64 0)),(.v (.int .i64 0)),(.v (.int .i64 0)),(.v (.int .i64 0)),(.v (.int .i64 0)),(.v (.int .i64 0)),(.v (.int .i64 707989)),(.v (.int .i64 0)),.nilsl,.nilsl,.nilsl,.nilsl,.nilsl,.nilsl,.nilsl,(.v (.int .i64 0)),(.v (.int .i64 0)),(.v (.int .i64 0)),(.v (.int .i64 0)),(.v (.int .i64 0)),(.v (.int .i64 0)),(.v (.int .i64 0)),(.v (.int .i64 0)),(.v (.int .i64 0)),(.v (.int .i64 0)),(.v (.int .i64 0)),(.v (.int .i64 0)),(.v (.int .i64 493827)),(.v (.int .i64 (-1)))])
def ke7:Ent:=⟨66,[(.arr 2 [cz]),cI],[zd],⟨[],[],(.v (.bool true))⟩⟩
theorem V':aQ Tryd.prog ke7:=cV (F:=cW) Kd (by kernel_rfl)
def JE:List Ent:=ke7::JF
theorem Kc:∀ e∈JE,aQ Tryd.prog e:=c7 V' Kd
def Vx:O:=(.box [(.v (.int .i64 0)),(.msl [70,0,28,0] 1),.nilsl,(.msl [314,0,28,0] 1),.nilsl,.nilsl,.nilsl,.nilsl,(.v (.int .i64 0)),(.v (.int .i64 1)),(.v (.int .i64 0)),(.v (.int .i64 0)),(.v (.int .i64 0)),(.v (.int .i64 0)),(.v (.int .i64 0)),(.v (.int .i64 0)),(.v (.int .i64 0)),(.v (.int .i64 0)),(.v (.int .i64 0)),(.v (.int .i64 0)),(.v (.int .i64 1)),(.msl [70,0,130,0] 2),.nilsl,.nilsl,.nilsl,.nilsl,.nilsl,.nilsl,(.v (.int .i64 0)),(.v (.int .i64 0)),(.v (.int .i64 0)),(.v (.int .i64 0)),(.v (.int .i64 0)),(.v (.int .i64 0)),(.v (.int .i64 0)),(.v (.int .i64 0)),(.v (.int .i64 0)),(.v (.int .i64 0)),(.v (.int .i64 0)),(.v (.int .i64 0)),(.v (.int .i64 707989)),(.v (.int .i64 0)),.nilsl,.nilsl,.nilsl,.nilsl,.nilsl,.nilsl,.nilsl,(.v (.int .i64 0)),(.v (.int .i64 0)),(.v (.int .i64 0)),(.v (.int .i64 0)),(.v (.int .i64 0)),(.v (.int .i64 0)),(.v (.int .i64 0)),(.v (.int .i64 0)),(.v (.int .i64 0)),(.v (.int .i64 0)),(.v (.int .i64 0)),(.v (.int .i64 0)),(.v (.int .i64 493827)),(.v (.int .i64 (-1)))])
def ke8:Ent:=⟨43,[(.arr 2 [cz]),cI],[zd],⟨[(1,cI),(0,(.arr 2 [cz]))],[([298,0],Vx),([70,0,28,0],(.arr 1 [(.int .i64 9)])),([314,0,28,0],(.arr 2 [cz])),([70,0,130,0],cI)],(.ref [298,0] 0)⟩⟩
theorem V9:aQ Tryd.prog ke8:=cV (F:=cW) Kc (by kernel_rfl)
def JD:List Ent:=ke8::JE
theorem Kb:∀ e∈JD,aQ Tryd.prog e:=c7 V9 Kc
def ke9:Ent:=⟨45,[(.arr 2 [cz]),cI],[zd],⟨[],[],(.v (.int .i64 0))⟩⟩
theorem V8:aQ Tryd.prog ke9:=cV (F:=cW) Kb (by kernel_rfl)
def J9:List Ent:=ke9::JD
theorem KH:∀ e∈J9,aQ Tryd.prog e:=c7 V8 Kb
def VY:D:=(.agg [(.v (.int .i64 0)),(.msl [70,0,28,0,297,0] 1),.nilsl,(.msl [314,0,28,0,297,0] 1),.nilsl,.nilsl,.nilsl,.nilsl,(.v (.int .i64 0)),(.v (.int .i64 1)),(.v (.int .i64 0)),(.v (.int .i64 0)),(.v (.int .i64 0)),(.v (.int .i64 0)),(.v (.int .i64 0)),(.v (.int .i64 0)),(.v (.int .i64 0)),(.v (.int .i64 0)),(.v (.int .i64 0)),(.v (.int .i64 0)),(.v (.int .i64 1)),(.msl [70,0,130,0,297,0] 2),.nilsl,.nilsl,.nilsl,.nilsl,.nilsl,.nilsl,(.v (.int .i64 0)),(.v (.int .i64 0)),(.v (.int .i64 0)),(.v (.int .i64 0)),(.v (.int .i64 0)),(.v (.int .i64 0)),(.v (.int .i64 0)),(.v (.int .i64 0)),(.v (.int .i64 0)),(.v (.int .i64 0)),(.v (.int .i64 0)),(.v (.int .i64 0)),(.v (.int .i64 707989)),(.v (.int .i64 2)),(.msl [70,0,1015,0] 1),.nilsl,(.msl [314,0,1015,0] 1),.nilsl,.nilsl,.nilsl,.nilsl,(.v (.int .i64 0)),(.v (.int .i64 1)),(.v (.int .i64 0)),(.v (.int .i64 0)),(.v (.int .i64 0)),(.v (.int .i64 0)),(.v (.int .i64 0)),(.v (.int .i64 0)),(.v (.int .i64 0)),(.v (.int .i64 0)),(.v (.int .i64 0)),(.v (.int .i64 0)),(.v (.int .i64 288542)),(.v (.int .i64 1))])
def VX:D:=(.tup [VY,(.v (.int .i64 0))])
def ke10:Ent:=⟨15,[(.arr 2 [cz]),cI],[zd],⟨[(1,cI),(0,(.arr 2 [cz]))],[([70,0,28,0,297,0],(.arr 1 [(.int .i64 9)])),([314,0,28,0,297,0],(.arr 2 [cz])),([70,0,130,0,297,0],cI),([70,0,1015,0],(.arr 1 [(.int .i64 9)])),([314,0,1015,0],(.arr 2 [cz]))],VX⟩⟩
theorem WE:aQ Tryd.prog ke10:=cV (F:=cW) KH (by kernel_rfl)
def J8:List Ent:=ke10::J9
theorem KG:∀ e∈J8,aQ Tryd.prog e:=c7 WE KH
def VW:D:=(.agg [(.msl [0,1] 1),.nilsl,(.msl [1,1] 1),.nilsl,.nilsl,.nilsl,.nilsl,(.v (.int .i64 0)),(.v (.int .i64 1)),(.v (.int .i64 0)),(.v (.int .i64 0)),(.v (.int .i64 0)),(.v (.int .i64 0)),(.v (.int .i64 0)),(.v (.int .i64 0)),(.v (.int .i64 0)),(.v (.int .i64 0)),(.v (.int .i64 0)),(.v (.int .i64 0))])
def ke11:Ent:=⟨78,[(.arr 1 [(.int .i64 9)]),(.arr 2 [cz])],[(.v (.int .i64 0)),VW],⟨[],[],(.v (.bool true))⟩⟩
theorem WD:aQ Tryd.prog ke11:=cV (F:=cW) KG (by kernel_rfl)
def J7:List Ent:=ke11::J8
theorem KF:∀ e∈J7,aQ Tryd.prog e:=c7 WD KG
def zc:D:=(.agg [(.v (.int .i64 0)),(.msl [0,1] 1),.nilsl,(.msl [1,1] 1),.nilsl,.nilsl,.nilsl,.nilsl,(.v (.int .i64 0)),(.v (.int .i64 1)),(.v (.int .i64 0)),(.v (.int .i64 0)),(.v (.int .i64 0)),(.v (.int .i64 0)),(.v (.int .i64 0)),(.v (.int .i64 0)),(.v (.int .i64 0)),(.v (.int .i64 0)),(.v (.int .i64 0)),(.v (.int .i64 0)),(.v (.int .i64 1)),(.msl [2,1] 2),.nilsl,.nilsl,.nilsl,.nilsl,.nilsl,.nilsl,(.v (.int .i64 0)),(.v (.int .i64 0)),(.v (.int .i64 0)),(.v (.int .i64 0)),(.v (.int .i64 0)),(.v (.int .i64 0)),(.v (.int .i64 0)),(.v (.int .i64 0)),(.v (.int .i64 0)),(.v (.int .i64 0)),(.v (.int .i64 0)),(.v (.int .i64 0)),(.v (.int .i64 707989)),(.v (.int .i64 2)),(.msl [3,1] 1),.nilsl,(.msl [4,1] 1),.nilsl,.nilsl,.nilsl,.nilsl,(.v (.int .i64 0)),(.v (.int .i64 1)),(.v (.int .i64 0)),(.v (.int .i64 0)),(.v (.int .i64 0)),(.v (.int .i64 0)),(.v (.int .i64 0)),(.v (.int .i64 0)),(.v (.int .i64 0)),(.v (.int .i64 0)),(.v (.int .i64 0)),(.v (.int .i64 0)),(.v (.int .i64 288542)),(.v (.int .i64 1))])
def ke12:Ent:=⟨66,[(.arr 1 [(.int .i64 9)]),(.arr 2 [cz]),cI,(.arr 1 [(.int .i64 9)]),(.arr 2 [cz])],[zc],⟨[],[],(.v (.bool true))⟩⟩
theorem WC:aQ Tryd.prog ke12:=cV (F:=cW) KF (by kernel_rfl)
def J6:List Ent:=ke12::J7
theorem KE:∀ e∈J6,aQ Tryd.prog e:=c7 WC KF
def VV:D:=(.agg [(.v (.int .i64 0)),(.v (.int .i64 1)),.nilsl,(.v (.int .i64 0))])
def VU:D:=(.tup [VV,(.v (.int .i64 0))])
def ke13:Ent:=⟨17,[(.arr 1 [(.int .i64 9)]),(.arr 2 [cz]),cI,(.arr 1 [(.int .i64 9)]),(.arr 2 [cz])],[zc,(.v (.int .i64 1))],⟨[],[],VU⟩⟩
theorem WB:aQ Tryd.prog ke13:=cV (F:=cW) KE (by kernel_rfl)
def J5:List Ent:=ke13::J6
theorem KD:∀ e∈J5,aQ Tryd.prog e:=c7 WB KE
def Vw:O:=(.box [(.v (.int .i64 0)),(.msl [70,0,28,0] 1),.nilsl,(.msl [314,0,28,0] 1),.nilsl,.nilsl,.nilsl,.nilsl,(.v (.int .i64 0)),(.v (.int .i64 1)),(.v (.int .i64 0)),(.v (.int .i64 0)),(.v (.int .i64 0)),(.v (.int .i64 0)),(.v (.int .i64 0)),(.v (.int .i64 0)),(.v (.int .i64 0)),(.v (.int .i64 0)),(.v (.int .i64 0)),(.v (.int .i64 0)),(.v (.int .i64 1)),(.msl [70,0,130,0] 2),.nilsl,.nilsl,.nilsl,.nilsl,.nilsl,.nilsl,(.v (.int .i64 0)),(.v (.int .i64 0)),(.v (.int .i64 0)),(.v (.int .i64 0)),(.v (.int .i64 0)),(.v (.int .i64 0)),(.v (.int .i64 0)),(.v (.int .i64 0)),(.v (.int .i64 0)),(.v (.int .i64 0)),(.v (.int .i64 0)),(.v (.int .i64 0)),(.v (.int .i64 707989)),(.v (.int .i64 2)),(.msl [70,0,222,0] 1),.nilsl,(.msl [314,0,222,0] 1),.nilsl,.nilsl,.nilsl,.nilsl,(.v (.int .i64 0)),(.v (.int .i64 1)),(.v (.int .i64 0)),(.v (.int .i64 0)),(.v (.int .i64 0)),(.v (.int .i64 0)),(.v (.int .i64 0)),(.v (.int .i64 0)),(.v (.int .i64 0)),(.v (.int .i64 0)),(.v (.int .i64 0)),(.v (.int .i64 0)),(.v (.int .i64 288542)),(.v (.int .i64 1))])
def ke14:Ent:=⟨43,[(.arr 1 [(.int .i64 9)]),(.arr 2 [cz]),cI,(.arr 1 [(.int .i64 9)]),(.arr 2 [cz])],[zc],⟨[(4,(.arr 2 [cz])),(3,(.arr 1 [(.int .i64 9)])),(2,cI),(1,(.arr 2 [cz])),(0,(.arr 1 [(.int .i64 9)]))],[([298,0],Vw),([70,0,28,0],(.arr 1 [(.int .i64 9)])),([314,0,28,0],(.arr 2 [cz])),([70,0,130,0],cI),([70,0,222,0],(.arr 1 [(.int .i64 9)])),([314,0,222,0],(.arr 2 [cz]))],(.ref [298,0] 0)⟩⟩
theorem WA:aQ Tryd.prog ke14:=cV (F:=cW) KD (by kernel_rfl)
def J4:List Ent:=ke14::J5
theorem KC:∀ e∈J4,aQ Tryd.prog e:=c7 WA KD
end Go.Eng
