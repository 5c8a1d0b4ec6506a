import Derived.Test.YtepaolcgegdpoaaGreatK11
import Derived.KernelRfl
/- Texts Sane4 to Sane4. -/
set_option linter.all false
namespace Go.Eng
open Go Go.Proofs
def ke21:Ent:=⟨78,[eV],[(.ref [0,1] 0),(.v (.int .i64 60))],⟨[],[([207,0,30,0,35,0],GO),([1135,0,30,0,35,0],(.farr 7 [dT,dS])),([5916,0,30,0,35,0],fm),([204,0,30,0,35,0],fk),([205,0,30,0,35,0],fS)],GP⟩⟩
theorem R3:aO Tryz.prog ke21:=cr (F:=ct) H5 (by kernel_rfl)
def Hl:List Ent:=ke21::Hm
theorem H4:∀ e∈Hl,aO Tryz.prog e:=cz R3 H5
def xa:D:=(.agg [(.v (.int .i64 1)),(.v (.int .i64 1))])
def A3:O:=(.arr 1 [(.int .i64 0),(.int .i64 5)])
def ke22:Ent:=⟨80,[hM,eV,(.farr 7 [dT,dS]),fm,fk,fS],[(.ref [0,1] 0),xa,(.v (.int .i64 24))],⟨[],[([520,0],A3)],(.msl [520,0] 2)⟩⟩
theorem R2:aO Tryz.prog ke22:=cr (F:=ct) H4 (by kernel_rfl)
def Hk:List Ent:=ke22::Hl
theorem H0:∀ e∈Hk,aO Tryz.prog e:=cz R2 H4
def Rm:D:=(.tup [(.msl [520,0,279,0] 2),(.v (.int .i64 0))])
def ke23:Ent:=⟨23,[],[lM,xa,(.v (.int .i64 24)),(.v (.int .i64 60))],⟨[],[([520,0,279,0],A3)],Rm⟩⟩
theorem R1:aO Tryz.prog ke23:=cr (F:=ct) H0 (by kernel_rfl)
def Hj:List Ent:=ke23::Hk
theorem HZ:∀ e∈Hj,aO Tryz.prog e:=cz R1 H0
def ke24:Ent:=⟨80,[hM,eV,(.farr 7 [dT,dS]),fm,fk,fS],[(.ref [0,1] 0),xa,(.v (.int .i64 30))],⟨[],[([520,0],A3)],(.msl [520,0] 2)⟩⟩
theorem R0:aO Tryz.prog ke24:=cr (F:=ct) HZ (by kernel_rfl)
def Hi:List Ent:=ke24::Hj
theorem HY:∀ e∈Hi,aO Tryz.prog e:=cz R0 HZ
def ke25:Ent:=⟨119,[hM,eV,(.farr 7 [dT,dS]),fm,fk,fS],[(.ref [0,1] 0),uw,(.v (.int .i64 30))],⟨[],[],oT⟩⟩
theorem RZ:aO Tryz.prog ke25:=cr (F:=ct) HY (by kernel_rfl)
def Hh:List Ent:=ke25::Hi
theorem HX:∀ e∈Hh,aO Tryz.prog e:=cz RZ HY
def A5:D:=(.agg [(.v (.int .i64 1)),(.v (.int .i64 3))])
def ke26:Ent:=⟨119,[hM,eV,(.farr 7 [dT,dS]),fm,fk,fS],[(.ref [0,1] 0),A5,(.v (.int .i64 30))],⟨[],[],oT⟩⟩
theorem RY:aO Tryz.prog ke26:=cr (F:=ct) HX (by kernel_rfl)
def Hg:List Ent:=ke26::Hh
theorem HW:∀ e∈Hg,aO Tryz.prog e:=cz RY HX
def Rk:D:=(.tup [(.v (.int .i64 2)),(.v (.int .i64 0))])
def ke27:Ent:=⟨17,[],[lM,(.v (.int .i64 1)),(.v (.int .i64 30)),(.v (.int .i64 60))],⟨[],[],Rk⟩⟩
theorem RX:aO Tryz.prog ke27:=cr (F:=ct) HW (by kernel_rfl)
def Hf:List Ent:=ke27::Hg
theorem HV:∀ e∈Hf,aO Tryz.prog e:=cz RX HW
def Rj:D:=(.tup [(.v (.int .i64 0)),(.v (.int .i64 0))])
def ke28:Ent:=⟨16,[],[lM,(.v (.int .i64 10)),(.v (.int .i64 40)),(.v (.int .i64 60))],⟨[],[],Rj⟩⟩
theorem RW:aO Tryz.prog ke28:=cr (F:=ct) HV (by kernel_rfl)
def He:List Ent:=ke28::Hf
theorem HU:∀ e∈He,aO Tryz.prog e:=cz RW HV
def ke29:Ent:=⟨80,[hM,eV,(.farr 7 [dT,dS]),fm,fk,fS],[(.ref [0,1] 0),xa,(.v (.int .i64 19))],⟨[],[([601,0],(.arr 1 [(.int .i64 5)]))],(.msl [601,0] 1)⟩⟩
theorem RU:aO Tryz.prog ke29:=cr (F:=ct) HU (by kernel_rfl)
def Hb:List Ent:=ke29::He
theorem HS:∀ e∈Hb,aO Tryz.prog e:=cz RU HU
end Go.Eng
