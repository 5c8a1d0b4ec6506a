import Derived.Test.YtepaolcgegdpoaaGreatK11
import Derived.KernelRfl
/- Texts Sane3 to Sane3. -/
set_option linter.all false
namespace Go.Eng
open Go Go.Proofs
def ke14:Ent:=⟨187,[iD,fo,(.arr 7 [dW,dV]),fN,fM,gu],[(.ref [0,1] 0),HP],⟨[],[],HO⟩⟩
theorem TE:aT Tryz.prog ke14:=cz (F:=cA) Jc (by kernel_rfl)
def Iv:List Ent:=ke14::Iw
theorem Jb:∀ e∈Iv,aT Tryz.prog e:=cF TE Jc
def vm:D:=(.agg [(.v (.int .i64 1)),(.v (.int .i64 2))])
def pz:D:=(.tup [HQ,(.v (.bool true))])
def ke15:Ent:=⟨119,[iD,fo,(.arr 7 [dW,dV]),fN,fM,gu],[(.ref [0,1] 0),vm,(.v (.int .i64 22))],⟨[],[],pz⟩⟩
theorem TD:aT Tryz.prog ke15:=cz (F:=cA) Jb (by kernel_rfl)
def Iu:List Ent:=ke15::Iv
theorem Ja:∀ e∈Iu,aT Tryz.prog e:=cF TD Jb
def Su:V:=(.agg [(.int .i64 20),(.int .i64 22)])
def SH:O:=(.map 0 [((.int .i64 0),Su),((.int .i64 1),vk)])
def ke16:Ent:=⟨128,[iD,fo,(.arr 7 [dW,dV]),fN,fM,gu],[(.ref [0,1] 0),(.v (.sl [qy]))],⟨[(5,SH)],[],(.v (.bool true))⟩⟩
theorem TC:aT Tryz.prog ke16:=cz (F:=cA) Ja (by kernel_rfl)
def It:List Ent:=ke16::Iu
theorem I':∀ e∈It,aT Tryz.prog e:=cF TC Ja
def ke17:Ent:=⟨119,[iD,fo,(.arr 7 [dW,dV]),fN,fM,HL],[(.ref [0,1] 0),vm,(.v (.int .i64 22))],⟨[],[],pz⟩⟩
theorem TB:aT Tryz.prog ke17:=cz (F:=cA) I' (by kernel_rfl)
def Is:List Ent:=ke17::It
theorem I9:∀ e∈Is,aT Tryz.prog e:=cF TB I'
def Ss:V:=(.agg [(.int .i64 26),(.int .i64 22)])
def SG:O:=(.map 0 [((.int .i64 0),Ss),((.int .i64 1),vk)])
def ke18:Ent:=⟨128,[iD,fo,(.arr 7 [dW,dV]),fN,fM,gu],[(.ref [0,1] 0),(.v (.sl [sX,qy]))],⟨[(5,SG)],[],(.v (.bool false))⟩⟩
theorem TA:aT Tryz.prog ke18:=cz (F:=cA) I9 (by kernel_rfl)
def Ir:List Ent:=ke18::Is
theorem I8:∀ e∈Ir,aT Tryz.prog e:=cF TA I9
def Sr:V:=(.sl [(.int .i64 30),(.int .i64 31)])
def SS:D:=(.tup [(.v Sr),(.v (.int .i64 0))])
def ke19:Ent:=⟨43,[],[mg,(.v (.int .i64 80))],⟨[],[],SS⟩⟩
theorem Tz:aT Tryz.prog ke19:=cz (F:=cA) I8 (by kernel_rfl)
def Ip:List Ent:=ke19::Ir
theorem I6:∀ e∈Ip,aT Tryz.prog e:=cF Tz I8
def ke20:Ent:=⟨76,[fo],[(.ref [0,1] 0),(.v (.int .i64 60))],⟨[],[([207,0],BU),([1135,0],(.arr 7 [dW,dV])),([5916,0],fN),([204,0],fM),([205,0],gu)],(.ref [207,0] 0)⟩⟩
theorem Tx:aT Tryz.prog ke20:=cz (F:=cA) I6 (by kernel_rfl)
def Io:List Ent:=ke20::Ip
theorem I5:∀ e∈Io,aT Tryz.prog e:=cF Tx I6
end Go.Eng
