import Derived.Test.YtepaolcgegdpoaaGreatK10
import Derived.KernelRfl
/- Texts Sane3 to Sane3. -/
set_option linter.all false
namespace Go.Eng
open Go Go.Proofs
def ke14:Ent:=⟨187,[hM,eV,(.arr 7 [dT,dS]),fm,fk,fS],[(.ref [0,1] 0),GR],⟨[],[],GQ⟩⟩
theorem Sc:aO Tryz.prog ke14:=cr (F:=ct) Ie (by kernel_rfl)
def Ht:List Ent:=ke14::Hu
theorem Ic:∀ e∈Ht,aO Tryz.prog e:=cz Sc Ie
def uw:D:=(.agg [(.v (.int .i64 1)),(.v (.int .i64 2))])
def oT:D:=(.tup [GS,(.v (.bool true))])
def ke15:Ent:=⟨119,[hM,eV,(.arr 7 [dT,dS]),fm,fk,fS],[(.ref [0,1] 0),uw,(.v (.int .i64 22))],⟨[],[],oT⟩⟩
theorem Sb:aO Tryz.prog ke15:=cr (F:=ct) Ic (by kernel_rfl)
def Hs:List Ent:=ke15::Ht
theorem Ib:∀ e∈Hs,aO Tryz.prog e:=cz Sb Ic
def QZ:V:=(.agg [(.int .i64 20),(.int .i64 22)])
def Rb:O:=(.map 0 [((.int .i64 0),QZ),((.int .i64 1),uu)])
def ke16:Ent:=⟨128,[hM,eV,(.arr 7 [dT,dS]),fm,fk,fS],[(.ref [0,1] 0),(.v (.sl [p9]))],⟨[(5,Rb)],[],(.v (.bool true))⟩⟩
theorem Sa:aO Tryz.prog ke16:=cr (F:=ct) Ib (by kernel_rfl)
def Hr:List Ent:=ke16::Hs
theorem Ia:∀ e∈Hr,aO Tryz.prog e:=cz Sa Ib
def ke17:Ent:=⟨119,[hM,eV,(.arr 7 [dT,dS]),fm,fk,GN],[(.ref [0,1] 0),uw,(.v (.int .i64 22))],⟨[],[],oT⟩⟩
theorem R':aO Tryz.prog ke17:=cr (F:=ct) Ia (by kernel_rfl)
def Hq:List Ent:=ke17::Hr
theorem H9:∀ e∈Hq,aO Tryz.prog e:=cz R' Ia
def QY:V:=(.agg [(.int .i64 26),(.int .i64 22)])
def Ra:O:=(.map 0 [((.int .i64 0),QY),((.int .i64 1),uu)])
def ke18:Ent:=⟨128,[hM,eV,(.arr 7 [dT,dS]),fm,fk,fS],[(.ref [0,1] 0),(.v (.sl [sm,p9]))],⟨[(5,Ra)],[],(.v (.bool false))⟩⟩
theorem R9:aO Tryz.prog ke18:=cr (F:=ct) H9 (by kernel_rfl)
def Hp:List Ent:=ke18::Hq
theorem H8:∀ e∈Hp,aO Tryz.prog e:=cz R9 H9
def QX:V:=(.sl [(.int .i64 30),(.int .i64 31)])
def Rp:D:=(.tup [(.v QX),(.v (.int .i64 0))])
def ke19:Ent:=⟨43,[],[lM,(.v (.int .i64 80))],⟨[],[],Rp⟩⟩
theorem R8:aO Tryz.prog ke19:=cr (F:=ct) H8 (by kernel_rfl)
def Hn:List Ent:=ke19::Hp
theorem H6:∀ e∈Hn,aO Tryz.prog e:=cz R8 H8
def ke20:Ent:=⟨76,[eV],[(.ref [0,1] 0),(.v (.int .i64 60))],⟨[],[([207,0],A4),([1135,0],(.arr 7 [dT,dS])),([5916,0],fm),([204,0],fk),([205,0],fS)],(.ref [207,0] 0)⟩⟩
theorem R4:aO Tryz.prog ke20:=cr (F:=ct) H6 (by kernel_rfl)
def Hm:List Ent:=ke20::Hn
theorem H5:∀ e∈Hm,aO Tryz.prog e:=cz R4 H6
end Go.Eng
