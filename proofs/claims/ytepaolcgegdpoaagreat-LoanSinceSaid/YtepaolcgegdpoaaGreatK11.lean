import Derived.Test.YtepaolcgegdpoaaGreatK10
import Derived.KernelRfl
/- Texts Sane3 to Sane3. -/
set_option linter.all false
namespace Go.Eng
open Go Go.Proofs
def ke14:Ent:=⟨187,[gW,eV,(.arr 7 [dN,dM]),fi,fh,fR],[(.ref [0,1] 0),GM],⟨[],[],GL⟩⟩
theorem R9:aR Tryz.prog ke14:=cl (F:=cm) H9 (by kernel_rfl)
def Ho:List Ent:=ke14::Hp
theorem H8:∀ e∈Ho,aR Tryz.prog e:=cw R9 H9
def uh:D:=(.agg [(.v (.int .i64 1)),(.v (.int .i64 2))])
def oM:D:=(.tup [GN,(.v (.bool true))])
def ke15:Ent:=⟨119,[gW,eV,(.arr 7 [dN,dM]),fi,fh,fR],[(.ref [0,1] 0),uh,(.v (.int .i64 22))],⟨[],[],oM⟩⟩
theorem R8:aR Tryz.prog ke15:=cl (F:=cm) H8 (by kernel_rfl)
def Hn:List Ent:=ke15::Ho
theorem H7:∀ e∈Hn,aR Tryz.prog e:=cw R8 H8
def QV:V:=(.agg [(.int .i64 20),(.int .i64 22)])
def Q8:O:=(.map 0 [((.int .i64 0),QV),((.int .i64 1),uf)])
def ke16:Ent:=⟨128,[gW,eV,(.arr 7 [dN,dM]),fi,fh,fR],[(.ref [0,1] 0),(.v (.sl [pX]))],⟨[(5,Q8)],[],(.v (.bool true))⟩⟩
theorem R6:aR Tryz.prog ke16:=cl (F:=cm) H7 (by kernel_rfl)
def Hm:List Ent:=ke16::Hn
theorem H6:∀ e∈Hm,aR Tryz.prog e:=cw R6 H7
def ke17:Ent:=⟨119,[gW,eV,(.arr 7 [dN,dM]),fi,fh,GF],[(.ref [0,1] 0),uh,(.v (.int .i64 22))],⟨[],[],oM⟩⟩
theorem R4:aR Tryz.prog ke17:=cl (F:=cm) H6 (by kernel_rfl)
def Hl:List Ent:=ke17::Hm
theorem H5:∀ e∈Hl,aR Tryz.prog e:=cw R4 H6
def QU:V:=(.agg [(.int .i64 26),(.int .i64 22)])
def Q7:O:=(.map 0 [((.int .i64 0),QU),((.int .i64 1),uf)])
def ke18:Ent:=⟨128,[gW,eV,(.arr 7 [dN,dM]),fi,fh,fR],[(.ref [0,1] 0),(.v (.sl [sh,pX]))],⟨[(5,Q7)],[],(.v (.bool false))⟩⟩
theorem R3:aR Tryz.prog ke18:=cl (F:=cm) H5 (by kernel_rfl)
def Hk:List Ent:=ke18::Hl
theorem H4:∀ e∈Hk,aR Tryz.prog e:=cw R3 H5
def QT:V:=(.sl [(.int .i64 30),(.int .i64 31)])
def Rj:D:=(.tup [(.v QT),(.v (.int .i64 0))])
def ke19:Ent:=⟨43,[],[lE,(.v (.int .i64 80))],⟨[],[],Rj⟩⟩
theorem R2:aR Tryz.prog ke19:=cl (F:=cm) H4 (by kernel_rfl)
def Hi:List Ent:=ke19::Hk
theorem HZ:∀ e∈Hi,aR Tryz.prog e:=cw R2 H4
def ke20:Ent:=⟨76,[eV],[(.ref [0,1] 0),(.v (.int .i64 60))],⟨[],[([207,0],A6),([1135,0],(.arr 7 [dN,dM])),([5916,0],fi),([204,0],fh),([205,0],fR)],(.ref [207,0] 0)⟩⟩
theorem R0:aR Tryz.prog ke20:=cl (F:=cm) HZ (by kernel_rfl)
def Hh:List Ent:=ke20::Hi
theorem HY:∀ e∈Hh,aR Tryz.prog e:=cw R0 HZ
end Go.Eng
