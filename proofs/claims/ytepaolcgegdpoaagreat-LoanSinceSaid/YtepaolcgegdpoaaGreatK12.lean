import Derived.Test.YtepaolcgegdpoaaGreatK11
import Derived.KernelRfl
/- Texts Sane4 to Sane4. -/
set_option linter.all false
namespace Go.Eng
open Go Go.Proofs
def ke21:Ent:=⟨78,[eV],[(.ref [0,1] 0),(.v (.int .i64 60))],⟨[],[([207,0,30,0,35,0],GG),([1135,0,30,0,35,0],(.farr 7 [dN,dM])),([5916,0,30,0,35,0],fi),([204,0,30,0,35,0],fh),([205,0,30,0,35,0],fR)],GK⟩⟩
theorem RZ:aR Tryz.prog ke21:=cl (F:=cm) HY (by kernel_rfl)
def Hg:List Ent:=ke21::Hh
theorem HX:∀ e∈Hg,aR Tryz.prog e:=cw RZ HY
def wZ:D:=(.agg [(.v (.int .i64 1)),(.v (.int .i64 1))])
def A5:O:=(.arr 1 [(.int .i64 0),(.int .i64 5)])
def ke22:Ent:=⟨80,[gW,eV,(.farr 7 [dN,dM]),fi,fh,fR],[(.ref [0,1] 0),wZ,(.v (.int .i64 24))],⟨[],[([520,0],A5)],(.msl [520,0] 2)⟩⟩
theorem RY:aR Tryz.prog ke22:=cl (F:=cm) HX (by kernel_rfl)
def Hf:List Ent:=ke22::Hg
theorem HW:∀ e∈Hf,aR Tryz.prog e:=cw RY HX
def Ri:D:=(.tup [(.msl [520,0,279,0] 2),(.v (.int .i64 0))])
def ke23:Ent:=⟨23,[],[lE,wZ,(.v (.int .i64 24)),(.v (.int .i64 60))],⟨[],[([520,0,279,0],A5)],Ri⟩⟩
theorem RX:aR Tryz.prog ke23:=cl (F:=cm) HW (by kernel_rfl)
def He:List Ent:=ke23::Hf
theorem HV:∀ e∈He,aR Tryz.prog e:=cw RX HW
def ke24:Ent:=⟨80,[gW,eV,(.farr 7 [dN,dM]),fi,fh,fR],[(.ref [0,1] 0),wZ,(.v (.int .i64 30))],⟨[],[([520,0],A5)],(.msl [520,0] 2)⟩⟩
theorem RW:aR Tryz.prog ke24:=cl (F:=cm) HV (by kernel_rfl)
def Hd:List Ent:=ke24::He
theorem HU:∀ e∈Hd,aR Tryz.prog e:=cw RW HV
def ke25:Ent:=⟨119,[gW,eV,(.farr 7 [dN,dM]),fi,fh,fR],[(.ref [0,1] 0),uh,(.v (.int .i64 30))],⟨[],[],oM⟩⟩
theorem RU:aR Tryz.prog ke25:=cl (F:=cm) HU (by kernel_rfl)
def Hb:List Ent:=ke25::Hd
theorem HT:∀ e∈Hb,aR Tryz.prog e:=cw RU HU
def A7:D:=(.agg [(.v (.int .i64 1)),(.v (.int .i64 3))])
def ke26:Ent:=⟨119,[gW,eV,(.farr 7 [dN,dM]),fi,fh,fR],[(.ref [0,1] 0),A7,(.v (.int .i64 30))],⟨[],[],oM⟩⟩
theorem RT:aR Tryz.prog ke26:=cl (F:=cm) HT (by kernel_rfl)
def Ha:List Ent:=ke26::Hb
theorem HS:∀ e∈Ha,aR Tryz.prog e:=cw RT HT
def Rf:D:=(.tup [(.v (.int .i64 2)),(.v (.int .i64 0))])
def ke27:Ent:=⟨17,[],[lE,(.v (.int .i64 1)),(.v (.int .i64 30)),(.v (.int .i64 60))],⟨[],[],Rf⟩⟩
theorem RS:aR Tryz.prog ke27:=cl (F:=cm) HS (by kernel_rfl)
def G':List Ent:=ke27::Ha
theorem HR:∀ e∈G',aR Tryz.prog e:=cw RS HS
def Re:D:=(.tup [(.v (.int .i64 0)),(.v (.int .i64 0))])
def ke28:Ent:=⟨16,[],[lE,(.v (.int .i64 10)),(.v (.int .i64 40)),(.v (.int .i64 60))],⟨[],[],Re⟩⟩
theorem RR:aR Tryz.prog ke28:=cl (F:=cm) HR (by kernel_rfl)
def G9:List Ent:=ke28::G'
theorem HQ:∀ e∈G9,aR Tryz.prog e:=cw RR HR
def ke29:Ent:=⟨80,[gW,eV,(.farr 7 [dN,dM]),fi,fh,fR],[(.ref [0,1] 0),wZ,(.v (.int .i64 19))],⟨[],[([601,0],(.arr 1 [(.int .i64 5)]))],(.msl [601,0] 1)⟩⟩
theorem RQ:aR Tryz.prog ke29:=cl (F:=cm) HQ (by kernel_rfl)
def G7:List Ent:=ke29::G9
theorem HO:∀ e∈G7,aR Tryz.prog e:=cw RQ HQ
end Go.Eng
