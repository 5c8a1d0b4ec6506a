import Derived.Test.YtepaolcgegdpoaaGreatK11
import Derived.KernelRfl
/- Texts Sane3 to Sane3. -/
set_option linter.all false
namespace Go.Eng
open Go Go.Proofs
def ke14:Ent:=⟨187,[iV,fw,(.arr 7 [eh,eg]),fS,fR,gu],[(.ref [0,1] 0),HV],⟨[],[],HU⟩⟩
theorem Uy:aX Tryz.prog ke14:=cJ (F:=cK) Ji (by kernel_rfl)
def IB:List Ent:=ke14::IC
theorem Jh:∀ e∈IB,aX Tryz.prog e:=cP Uy Ji
def vf:D:=(.agg [(.v (.int .i64 1)),(.v (.int .i64 2))])
def pE:D:=(.tup [HW,(.v (.bool true))])
def ke15:Ent:=⟨119,[iV,fw,(.arr 7 [eh,eg]),fS,fR,gu],[(.ref [0,1] 0),vf,(.v (.int .i64 22))],⟨[],[],pE⟩⟩
theorem Ux:aX Tryz.prog ke15:=cJ (F:=cK) Jh (by kernel_rfl)
def IA:List Ent:=ke15::IB
theorem Jg:∀ e∈IA,aX Tryz.prog e:=cP Ux Jh
def Tj:V:=(.agg [(.int .i64 20),(.int .i64 22)])
def Tw:O:=(.map 0 [((.int .i64 0),Tj),((.int .i64 1),vd)])
def ke16:Ent:=⟨128,[iV,fw,(.arr 7 [eh,eg]),fS,fR,gu],[(.ref [0,1] 0),(.v (.sl [qL]))],⟨[(5,Tw)],[],(.v (.bool true))⟩⟩
theorem Uw:aX Tryz.prog ke16:=cJ (F:=cK) Jg (by kernel_rfl)
def Iz:List Ent:=ke16::IA
theorem Jf:∀ e∈Iz,aX Tryz.prog e:=cP Uw Jg
def ke17:Ent:=⟨119,[iV,fw,(.arr 7 [eh,eg]),fS,fR,HR],[(.ref [0,1] 0),vf,(.v (.int .i64 22))],⟨[],[],pE⟩⟩
theorem Uv:aX Tryz.prog ke17:=cJ (F:=cK) Jf (by kernel_rfl)
def Iy:List Ent:=ke17::Iz
theorem Je:∀ e∈Iy,aX Tryz.prog e:=cP Uv Jf
def Ti:V:=(.agg [(.int .i64 26),(.int .i64 22)])
def Tv:O:=(.map 0 [((.int .i64 0),Ti),((.int .i64 1),vd)])
def ke18:Ent:=⟨128,[iV,fw,(.arr 7 [eh,eg]),fS,fR,gu],[(.ref [0,1] 0),(.v (.sl [te,qL]))],⟨[(5,Tv)],[],(.v (.bool false))⟩⟩
theorem Uu:aX Tryz.prog ke18:=cJ (F:=cK) Je (by kernel_rfl)
def Ix:List Ent:=ke18::Iy
theorem Jd:∀ e∈Ix,aX Tryz.prog e:=cP Uu Je
def Th:V:=(.sl [(.int .i64 30),(.int .i64 31)])
def TH:D:=(.tup [(.v Th),(.v (.int .i64 0))])
def ke19:Ent:=⟨43,[],[mg,(.v (.int .i64 80))],⟨[],[],TH⟩⟩
theorem Ut:aX Tryz.prog ke19:=cJ (F:=cK) Jd (by kernel_rfl)
def Iv:List Ent:=ke19::Ix
theorem Jb:∀ e∈Iv,aX Tryz.prog e:=cP Ut Jd
def ke20:Ent:=⟨76,[fw],[(.ref [0,1] 0),(.v (.int .i64 60))],⟨[],[([207,0],B4),([1135,0],(.arr 7 [eh,eg])),([5916,0],fS),([204,0],fR),([205,0],gu)],(.ref [207,0] 0)⟩⟩
theorem Ur:aX Tryz.prog ke20:=cJ (F:=cK) Jb (by kernel_rfl)
def Iu:List Ent:=ke20::Iv
theorem Ja:∀ e∈Iu,aX Tryz.prog e:=cP Ur Jb
end Go.Eng
