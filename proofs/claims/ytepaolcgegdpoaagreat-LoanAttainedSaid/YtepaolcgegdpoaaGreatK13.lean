import Derived.Test.YtepaolcgegdpoaaGreatK12
import Derived.KernelRfl
/- Texts Sane4 to Sane4. -/
set_option linter.all false
namespace Go.Eng
open Go Go.Proofs
def ke21:Ent:=⟨78,[fo],[(.ref [0,1] 0),(.v (.int .i64 60))],⟨[],[([207,0,30,0,35,0],HM),([1135,0,30,0,35,0],(.farr 7 [dW,dV])),([5916,0,30,0,35,0],fN),([204,0,30,0,35,0],fM),([205,0,30,0,35,0],gu)],HN⟩⟩
theorem Tw:aT Tryz.prog ke21:=cz (F:=cA) I5 (by kernel_rfl)
def Im:List Ent:=ke21::Io
theorem I4:∀ e∈Im,aT Tryz.prog e:=cF Tw I5
def xM:D:=(.agg [(.v (.int .i64 1)),(.v (.int .i64 1))])
def BT:O:=(.arr 1 [(.int .i64 0),(.int .i64 5)])
def ke22:Ent:=⟨80,[iD,fo,(.farr 7 [dW,dV]),fN,fM,gu],[(.ref [0,1] 0),xM,(.v (.int .i64 24))],⟨[],[([520,0],BT)],(.msl [520,0] 2)⟩⟩
theorem Tv:aT Tryz.prog ke22:=cz (F:=cA) I4 (by kernel_rfl)
def Il:List Ent:=ke22::Im
theorem I3:∀ e∈Il,aT Tryz.prog e:=cF Tv I4
def SR:D:=(.tup [(.msl [520,0,279,0] 2),(.v (.int .i64 0))])
def ke23:Ent:=⟨23,[],[mg,xM,(.v (.int .i64 24)),(.v (.int .i64 60))],⟨[],[([520,0,279,0],BT)],SR⟩⟩
theorem Tu:aT Tryz.prog ke23:=cz (F:=cA) I3 (by kernel_rfl)
def Ik:List Ent:=ke23::Il
theorem I2:∀ e∈Ik,aT Tryz.prog e:=cF Tu I3
def ke24:Ent:=⟨80,[iD,fo,(.farr 7 [dW,dV]),fN,fM,gu],[(.ref [0,1] 0),xM,(.v (.int .i64 30))],⟨[],[([520,0],BT)],(.msl [520,0] 2)⟩⟩
theorem Tt:aT Tryz.prog ke24:=cz (F:=cA) I2 (by kernel_rfl)
def Ij:List Ent:=ke24::Ik
theorem I1:∀ e∈Ij,aT Tryz.prog e:=cF Tt I2
def ke25:Ent:=⟨119,[iD,fo,(.farr 7 [dW,dV]),fN,fM,gu],[(.ref [0,1] 0),vm,(.v (.int .i64 30))],⟨[],[],pz⟩⟩
theorem Ts:aT Tryz.prog ke25:=cz (F:=cA) I1 (by kernel_rfl)
def Ii:List Ent:=ke25::Ij
theorem I0:∀ e∈Ii,aT Tryz.prog e:=cF Ts I1
def BV:D:=(.agg [(.v (.int .i64 1)),(.v (.int .i64 3))])
def ke26:Ent:=⟨119,[iD,fo,(.farr 7 [dW,dV]),fN,fM,gu],[(.ref [0,1] 0),BV,(.v (.int .i64 30))],⟨[],[],pz⟩⟩
theorem Tr:aT Tryz.prog ke26:=cz (F:=cA) I0 (by kernel_rfl)
def Ih:List Ent:=ke26::Ii
theorem IZ:∀ e∈Ih,aT Tryz.prog e:=cF Tr I0
def SP:D:=(.tup [(.v (.int .i64 2)),(.v (.int .i64 0))])
def ke27:Ent:=⟨17,[],[mg,(.v (.int .i64 1)),(.v (.int .i64 30)),(.v (.int .i64 60))],⟨[],[],SP⟩⟩
theorem Tq:aT Tryz.prog ke27:=cz (F:=cA) IZ (by kernel_rfl)
def Ig:List Ent:=ke27::Ih
theorem IY:∀ e∈Ig,aT Tryz.prog e:=cF Tq IZ
def SO:D:=(.tup [(.v (.int .i64 0)),(.v (.int .i64 0))])
def ke28:Ent:=⟨16,[],[mg,(.v (.int .i64 10)),(.v (.int .i64 40)),(.v (.int .i64 60))],⟨[],[],SO⟩⟩
theorem Tp:aT Tryz.prog ke28:=cz (F:=cA) IY (by kernel_rfl)
def If:List Ent:=ke28::Ig
theorem IX:∀ e∈If,aT Tryz.prog e:=cF Tp IY
def ke29:Ent:=⟨80,[iD,fo,(.farr 7 [dW,dV]),fN,fM,gu],[(.ref [0,1] 0),xM,(.v (.int .i64 19))],⟨[],[([601,0],(.arr 1 [(.int .i64 5)]))],(.msl [601,0] 1)⟩⟩
theorem To:aT Tryz.prog ke29:=cz (F:=cA) IX (by kernel_rfl)
def Ic:List Ent:=ke29::If
theorem IV:∀ e∈Ic,aT Tryz.prog e:=cF To IX
end Go.Eng
