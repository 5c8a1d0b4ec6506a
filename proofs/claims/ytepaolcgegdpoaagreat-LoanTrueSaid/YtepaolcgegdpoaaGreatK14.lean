import Derived.Test.YtepaolcgegdpoaaGreatK13
import Derived.KernelRfl
/- Texts Sane5 to Sane5. -/
set_option linter.all false
namespace Go.Eng
open Go Go.Proofs
def ke30:Ent:=⟨119,[jJ,gf,(.farr 7 [eN,eM]),gJ,gI,iv],[(.ref [0,1] 0),xt,(.v (.int .i64 19))],⟨[],[],qZ⟩⟩
theorem Xy:aX Tryz.prog ke30:=cR (F:=cS) Mu (by kernel_rfl)
def LL:List Ent:=ke30::LM
theorem Mt:∀ e∈LL,aX Tryz.prog e:=cX Xy Mu
def ke31:Ent:=⟨119,[jJ,gf,(.farr 7 [eN,eM]),gJ,gI,iv],[(.ref [0,1] 0),Ei,(.v (.int .i64 19))],⟨[],[],qZ⟩⟩
theorem Xx:aX Tryz.prog ke31:=cR (F:=cS) Mt (by kernel_rfl)
def LK:List Ent:=ke31::LL
theorem Ms:∀ e∈LK,aX Tryz.prog e:=cX Xx Mt
def WS:O:=(.box [(.v (.int .i64 5))])
def Ld:V:=(.agg [(.int .i64 1),(.int .i64 1)])
def Lc:V:=(.agg [(.int .i64 1),(.int .i64 2)])
def W0:D:=(.tup [(.msl [163,0,171,0,551,0] 2),(.v (.int .i64 0))])
def ke32:Ent:=⟨104,[WS],[nW,(.v (.int .i64 5)),(.v (.int .i64 19)),(.v (.int .i64 60)),(.clo (.func 105) [] [(.ref [0,1] 0)])],⟨[],[([163,0,171,0,551,0],(.arr 2 [Ld,Lc]))],W0⟩⟩
theorem Xw:aX Tryz.prog ke32:=cR (F:=cS) Ms (by kernel_rfl)
def LJ:List Ent:=ke32::LK
theorem Mr:∀ e∈LJ,aX Tryz.prog e:=cX Xw Ms
def Lb:V:=(.sl [(.int .i64 25),(.int .i64 30)])
def ke33:Ent:=⟨118,[gf],[(.ref [0,1] 0),(.v (.int .i64 60)),(.v Lb)],⟨[],[],(.v (.bool true))⟩⟩
theorem Xv:aX Tryz.prog ke33:=cR (F:=cS) Mr (by kernel_rfl)
def LH:List Ent:=ke33::LJ
theorem Mq:∀ e∈LH,aX Tryz.prog e:=cX Xv Mr
def ke34:Ent:=⟨119,[jJ,gf,(.arr 7 [eN,eM]),gJ,gI,iv],[(.ref [0,1] 0),xt,(.v (.int .i64 27))],⟨[],[],qZ⟩⟩
theorem Xu:aX Tryz.prog ke34:=cR (F:=cS) Mq (by kernel_rfl)
def LG:List Ent:=ke34::LH
theorem Mp:∀ e∈LG,aX Tryz.prog e:=cX Xu Mq
def ke35:Ent:=⟨119,[jJ,gf,(.arr 7 [eN,eM]),gJ,gI,iv],[(.ref [0,1] 0),Ei,(.v (.int .i64 27))],⟨[],[],qZ⟩⟩
theorem Xt:aX Tryz.prog ke35:=cR (F:=cS) Mp (by kernel_rfl)
def LF:List Ent:=ke35::LG
theorem Mo:∀ e∈LF,aX Tryz.prog e:=cX Xt Mp
def WR:O:=(.arr 1 [(.int .i64 0),(.int .i64 0),(.int .i64 5)])
def WZ:D:=(.tup [(.msl [649,0] 3),(.v (.int .i64 0))])
def ke36:Ent:=⟨39,[],[nW,(.v Lb),(.v (.int .i64 1)),(.v (.int .i64 27)),(.v (.int .i64 60))],⟨[],[([649,0],WR)],WZ⟩⟩
theorem Xs:aX Tryz.prog ke36:=cR (F:=cS) Mo (by kernel_rfl)
def LD:List Ent:=ke36::LF
theorem Mn:∀ e∈LD,aX Tryz.prog e:=cX Xs Mo
def Li:O:=(.box [(.msl [1,1] 2),(.msl [2,1] 2),(.v (.sl [Ef])),(.msl [3,1] 2)])
def WQ:O:=(.box [(.ref [0,1] 0),(.msl [1135,0] 2),(.msl [5192,0] 1),(.map [204,0]),(.map [205,0])])
def WO:O:=(.map 2 [(Lf,(.int .i64 0))])
def WN:O:=(.map 0 [((.int .i64 0),xq)])
def ke37:Ent:=⟨76,[Li,(.arr 2 [xp,xr]),(.arr 7 [eN,eM]),(.arr 7 [vp,sK])],[(.ref [0,1] 0),(.v (.int .i64 60))],⟨[],[([207,0],WQ),([1135,0],(.arr 7 [eN,eM])),([5192,0],(.arr 1 [(.int .i64 0)])),([204,0],WO),([205,0],WN)],(.ref [207,0] 0)⟩⟩
theorem Xr:aX Tryz.prog ke37:=cR (F:=cS) Mn (by kernel_rfl)
def LC:List Ent:=ke37::LD
theorem Mm:∀ e∈LC,aX Tryz.prog e:=cX Xr Mn
end Go.Eng
