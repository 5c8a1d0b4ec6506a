import Derived.Test.YtepaolcgegdpoaaGreatK13
import Derived.KernelRfl
/- Texts Sane5 to Sane5. -/
set_option linter.all false
namespace Go.Eng
open Go Go.Proofs
def ke30:Ent:=⟨119,[iD,fo,(.farr 7 [dW,dV]),fN,fM,gu],[(.ref [0,1] 0),vm,(.v (.int .i64 19))],⟨[],[],pz⟩⟩
theorem Tm:aT Tryz.prog ke30:=cz (F:=cA) IV (by kernel_rfl)
def Ib:List Ent:=ke30::Ic
theorem IU:∀ e∈Ib,aT Tryz.prog e:=cF Tm IV
def ke31:Ent:=⟨119,[iD,fo,(.farr 7 [dW,dV]),fN,fM,gu],[(.ref [0,1] 0),BV,(.v (.int .i64 19))],⟨[],[],pz⟩⟩
theorem Tl:aT Tryz.prog ke31:=cz (F:=cA) IU (by kernel_rfl)
def Ia:List Ent:=ke31::Ib
theorem IT:∀ e∈Ia,aT Tryz.prog e:=cF Tl IU
def SF:O:=(.box [(.v (.int .i64 5))])
def HF:V:=(.agg [(.int .i64 1),(.int .i64 1)])
def HE:V:=(.agg [(.int .i64 1),(.int .i64 2)])
def SN:D:=(.tup [(.msl [163,0,171,0,551,0] 2),(.v (.int .i64 0))])
def ke32:Ent:=⟨104,[SF],[mg,(.v (.int .i64 5)),(.v (.int .i64 19)),(.v (.int .i64 60)),(.clo (.func 105) [] [(.ref [0,1] 0)])],⟨[],[([163,0,171,0,551,0],(.arr 2 [HF,HE]))],SN⟩⟩
theorem Tk:aT Tryz.prog ke32:=cz (F:=cA) IT (by kernel_rfl)
def H9:List Ent:=ke32::Ia
theorem IS:∀ e∈H9,aT Tryz.prog e:=cF Tk IT
def HD:V:=(.sl [(.int .i64 25),(.int .i64 30)])
def ke33:Ent:=⟨118,[fo],[(.ref [0,1] 0),(.v (.int .i64 60)),(.v HD)],⟨[],[],(.v (.bool true))⟩⟩
theorem Tj:aT Tryz.prog ke33:=cz (F:=cA) IS (by kernel_rfl)
def H8:List Ent:=ke33::H9
theorem IQ:∀ e∈H8,aT Tryz.prog e:=cF Tj IS
def ke34:Ent:=⟨119,[iD,fo,(.arr 7 [dW,dV]),fN,fM,gu],[(.ref [0,1] 0),vm,(.v (.int .i64 27))],⟨[],[],pz⟩⟩
theorem Ti:aT Tryz.prog ke34:=cz (F:=cA) IQ (by kernel_rfl)
def H7:List Ent:=ke34::H8
theorem IP:∀ e∈H7,aT Tryz.prog e:=cF Ti IQ
def ke35:Ent:=⟨119,[iD,fo,(.arr 7 [dW,dV]),fN,fM,gu],[(.ref [0,1] 0),BV,(.v (.int .i64 27))],⟨[],[],pz⟩⟩
theorem Th:aT Tryz.prog ke35:=cz (F:=cA) IP (by kernel_rfl)
def H6:List Ent:=ke35::H7
theorem IN:∀ e∈H6,aT Tryz.prog e:=cF Th IP
def SE:O:=(.arr 1 [(.int .i64 0),(.int .i64 0),(.int .i64 5)])
def SM:D:=(.tup [(.msl [649,0] 3),(.v (.int .i64 0))])
def ke36:Ent:=⟨39,[],[mg,(.v HD),(.v (.int .i64 1)),(.v (.int .i64 27)),(.v (.int .i64 60))],⟨[],[([649,0],SE)],SM⟩⟩
theorem Tg:aT Tryz.prog ke36:=cz (F:=cA) IN (by kernel_rfl)
def H5:List Ent:=ke36::H6
theorem IM:∀ e∈H5,aT Tryz.prog e:=cF Tg IN
def HK:O:=(.box [(.msl [1,1] 2),(.msl [2,1] 2),(.v (.sl [BS])),(.msl [3,1] 2)])
def SD:O:=(.box [(.ref [0,1] 0),(.msl [1135,0] 2),(.msl [5192,0] 1),(.map [204,0]),(.map [205,0])])
def SC:O:=(.map 2 [(HH,(.int .i64 0))])
def SB:O:=(.map 0 [((.int .i64 0),vk)])
def ke37:Ent:=⟨76,[HK,(.arr 2 [vj,vl]),(.arr 7 [dW,dV]),(.arr 7 [sX,qy])],[(.ref [0,1] 0),(.v (.int .i64 60))],⟨[],[([207,0],SD),([1135,0],(.arr 7 [dW,dV])),([5192,0],(.arr 1 [(.int .i64 0)])),([204,0],SC),([205,0],SB)],(.ref [207,0] 0)⟩⟩
theorem Tf:aT Tryz.prog ke37:=cz (F:=cA) IM (by kernel_rfl)
def H4:List Ent:=ke37::H5
theorem IL:∀ e∈H4,aT Tryz.prog e:=cF Tf IM
end Go.Eng
