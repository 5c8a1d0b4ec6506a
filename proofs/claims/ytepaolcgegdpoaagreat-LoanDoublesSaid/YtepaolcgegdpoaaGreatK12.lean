import Derived.Test.YtepaolcgegdpoaaGreatK11
import Derived.KernelRfl
/- Texts Sane3 to Sane3. -/
set_option linter.all false
namespace Go.Eng
open Go Go.Proofs
def ke14:Ent:=⟨187,[iY,fz,(.arr 7 [eg,ef]),fU,fT,gD],[(.ref [0,1] 0),If],⟨[],[],Ie⟩⟩
theorem TM:aV Tryz.prog ke14:=cF (F:=cG) Jy (by kernel_rfl)
def IT:List Ent:=ke14::IU
theorem Jx:∀ e∈IT,aV Tryz.prog e:=cL TM Jy
def vz:D:=(.agg [(.v (.int .i64 1)),(.v (.int .i64 2))])
def pT:D:=(.tup [Ig,(.v (.bool true))])
def ke15:Ent:=⟨119,[iY,fz,(.arr 7 [eg,ef]),fU,fT,gD],[(.ref [0,1] 0),vz,(.v (.int .i64 22))],⟨[],[],pT⟩⟩
theorem TL:aV Tryz.prog ke15:=cF (F:=cG) Jx (by kernel_rfl)
def IS:List Ent:=ke15::IT
theorem Jw:∀ e∈IS,aV Tryz.prog e:=cL TL Jx
def SD:V:=(.agg [(.int .i64 20),(.int .i64 22)])
def SQ:O:=(.map 0 [((.int .i64 0),SD),((.int .i64 1),vx)])
def ke16:Ent:=⟨128,[iY,fz,(.arr 7 [eg,ef]),fU,fT,gD],[(.ref [0,1] 0),(.v (.sl [ri]))],⟨[(5,SQ)],[],(.v (.bool true))⟩⟩
theorem TK:aV Tryz.prog ke16:=cF (F:=cG) Jw (by kernel_rfl)
def IQ:List Ent:=ke16::IS
theorem Jv:∀ e∈IQ,aV Tryz.prog e:=cL TK Jw
def ke17:Ent:=⟨119,[iY,fz,(.arr 7 [eg,ef]),fU,fT,Ia],[(.ref [0,1] 0),vz,(.v (.int .i64 22))],⟨[],[],pT⟩⟩
theorem TJ:aV Tryz.prog ke17:=cF (F:=cG) Jv (by kernel_rfl)
def IP:List Ent:=ke17::IQ
theorem Ju:∀ e∈IP,aV Tryz.prog e:=cL TJ Jv
def SC:V:=(.agg [(.int .i64 26),(.int .i64 22)])
def SP:O:=(.map 0 [((.int .i64 0),SC),((.int .i64 1),vx)])
def ke18:Ent:=⟨128,[iY,fz,(.arr 7 [eg,ef]),fU,fT,gD],[(.ref [0,1] 0),(.v (.sl [tF,ri]))],⟨[(5,SP)],[],(.v (.bool false))⟩⟩
theorem TI:aV Tryz.prog ke18:=cF (F:=cG) Ju (by kernel_rfl)
def IN:List Ent:=ke18::IP
theorem Jt:∀ e∈IN,aV Tryz.prog e:=cL TI Ju
def SB:V:=(.sl [(.int .i64 30),(.int .i64 31)])
def S2:D:=(.tup [(.v SB),(.v (.int .i64 0))])
def ke19:Ent:=⟨43,[],[mo,(.v (.int .i64 80))],⟨[],[],S2⟩⟩
theorem TH:aV Tryz.prog ke19:=cF (F:=cG) Jt (by kernel_rfl)
def IL:List Ent:=ke19::IN
theorem Jr:∀ e∈IL,aV Tryz.prog e:=cL TH Jt
def ke20:Ent:=⟨76,[fz],[(.ref [0,1] 0),(.v (.int .i64 60))],⟨[],[([207,0],BB),([1135,0],(.arr 7 [eg,ef])),([5916,0],fU),([204,0],fT),([205,0],gD)],(.ref [207,0] 0)⟩⟩
theorem TF:aV Tryz.prog ke20:=cF (F:=cG) Jr (by kernel_rfl)
def IK:List Ent:=ke20::IL
theorem Jq:∀ e∈IK,aV Tryz.prog e:=cL TF Jr
end Go.Eng
