import Derived.Test.YtepaolcgegdpoaaGreatK13
import Derived.KernelRfl
/- Texts Sane5 to Sane5. -/
set_option linter.all false
namespace Go.Eng
open Go Go.Proofs
def ke30:Ent:=⟨119,[iY,fz,(.farr 7 [eg,ef]),fU,fT,gD],[(.ref [0,1] 0),vz,(.v (.int .i64 19))],⟨[],[],pT⟩⟩
theorem Tu:aV Tryz.prog ke30:=cF (F:=cG) Jg (by kernel_rfl)
def Iz:List Ent:=ke30::IA
theorem Jf:∀ e∈Iz,aV Tryz.prog e:=cL Tu Jg
def ke31:Ent:=⟨119,[iY,fz,(.farr 7 [eg,ef]),fU,fT,gD],[(.ref [0,1] 0),BC,(.v (.int .i64 19))],⟨[],[],pT⟩⟩
theorem Tt:aV Tryz.prog ke31:=cF (F:=cG) Jf (by kernel_rfl)
def Iy:List Ent:=ke31::Iz
theorem Je:∀ e∈Iy,aV Tryz.prog e:=cL Tt Jf
def SO:O:=(.box [(.v (.int .i64 5))])
def H4:V:=(.agg [(.int .i64 1),(.int .i64 1)])
def H0:V:=(.agg [(.int .i64 1),(.int .i64 2)])
def SX:D:=(.tup [(.msl [163,0,171,0,551,0] 2),(.v (.int .i64 0))])
def ke32:Ent:=⟨104,[SO],[mo,(.v (.int .i64 5)),(.v (.int .i64 19)),(.v (.int .i64 60)),(.clo (.func 105) [] [(.ref [0,1] 0)])],⟨[],[([163,0,171,0,551,0],(.arr 2 [H4,H0]))],SX⟩⟩
theorem Ts:aV Tryz.prog ke32:=cF (F:=cG) Je (by kernel_rfl)
def Ix:List Ent:=ke32::Iy
theorem Jd:∀ e∈Ix,aV Tryz.prog e:=cL Ts Je
def HZ:V:=(.sl [(.int .i64 25),(.int .i64 30)])
def ke33:Ent:=⟨118,[fz],[(.ref [0,1] 0),(.v (.int .i64 60)),(.v HZ)],⟨[],[],(.v (.bool true))⟩⟩
theorem Tr:aV Tryz.prog ke33:=cF (F:=cG) Jd (by kernel_rfl)
def Iw:List Ent:=ke33::Ix
theorem Jc:∀ e∈Iw,aV Tryz.prog e:=cL Tr Jd
def ke34:Ent:=⟨119,[iY,fz,(.arr 7 [eg,ef]),fU,fT,gD],[(.ref [0,1] 0),vz,(.v (.int .i64 27))],⟨[],[],pT⟩⟩
theorem Tq:aV Tryz.prog ke34:=cF (F:=cG) Jc (by kernel_rfl)
def Iv:List Ent:=ke34::Iw
theorem Jb:∀ e∈Iv,aV Tryz.prog e:=cL Tq Jc
def ke35:Ent:=⟨119,[iY,fz,(.arr 7 [eg,ef]),fU,fT,gD],[(.ref [0,1] 0),BC,(.v (.int .i64 27))],⟨[],[],pT⟩⟩
theorem Tp:aV Tryz.prog ke35:=cF (F:=cG) Jb (by kernel_rfl)
def Iu:List Ent:=ke35::Iv
theorem Ja:∀ e∈Iu,aV Tryz.prog e:=cL Tp Jb
def SN:O:=(.arr 1 [(.int .i64 0),(.int .i64 0),(.int .i64 5)])
def SW:D:=(.tup [(.msl [649,0] 3),(.v (.int .i64 0))])
def ke36:Ent:=⟨39,[],[mo,(.v HZ),(.v (.int .i64 1)),(.v (.int .i64 27)),(.v (.int .i64 60))],⟨[],[([649,0],SN)],SW⟩⟩
theorem To:aV Tryz.prog ke36:=cF (F:=cG) Ja (by kernel_rfl)
def It:List Ent:=ke36::Iu
theorem I':∀ e∈It,aV Tryz.prog e:=cL To Ja
def H9:O:=(.box [(.msl [1,1] 2),(.msl [2,1] 2),(.v (.sl [Bz])),(.msl [3,1] 2)])
def SM:O:=(.box [(.ref [0,1] 0),(.msl [1135,0] 2),(.msl [5192,0] 1),(.map [204,0]),(.map [205,0])])
def SL:O:=(.map 2 [(H6,(.int .i64 0))])
def SK:O:=(.map 0 [((.int .i64 0),vx)])
def ke37:Ent:=⟨76,[H9,(.arr 2 [vw,vy]),(.arr 7 [eg,ef]),(.arr 7 [tF,ri])],[(.ref [0,1] 0),(.v (.int .i64 60))],⟨[],[([207,0],SM),([1135,0],(.arr 7 [eg,ef])),([5192,0],(.arr 1 [(.int .i64 0)])),([204,0],SL),([205,0],SK)],(.ref [207,0] 0)⟩⟩
theorem Tn:aV Tryz.prog ke37:=cF (F:=cG) I' (by kernel_rfl)
def Is:List Ent:=ke37::It
theorem I9:∀ e∈Is,aV Tryz.prog e:=cL Tn I'
end Go.Eng
