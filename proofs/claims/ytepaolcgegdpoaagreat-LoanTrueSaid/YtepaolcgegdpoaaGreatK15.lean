import Derived.Test.YtepaolcgegdpoaaGreatK14
import Derived.KernelRfl
/- Texts Sane6 to Sane6. -/
set_option linter.all false
namespace Go.Eng
open Go Go.Proofs
def WX:D:=(.tup [(.v .nilp),(.v (.int .i64 25))])
def ke38:Ent:=⟨121,[Li,(.arr 2 [xp,xr]),(.arr 7 [eN,eM]),(.arr 7 [vp,sK])],[(.ref [0,1] 0),(.v (.int .i64 60))],⟨[],[],WX⟩⟩
theorem Xq:aX Tryz.prog ke38:=cR (F:=cS) Mm (by kernel_rfl)
def LB:List Ent:=ke38::LC
theorem Ml:∀ e∈LB,aX Tryz.prog e:=cX Xq Mm
def WM:O:=(.arr 2 [Ld,Lc,xp,xr])
def WW:D:=(.tup [(.msl [244,0,171,0,985,0] 4),(.v (.int .i64 0))])
def ke39:Ent:=⟨21,[],[nW,(.v (.int .i64 20)),(.v (.int .i64 30)),(.v (.int .i64 60))],⟨[],[([244,0,171,0,985,0],WM)],WW⟩⟩
theorem Xp:aX Tryz.prog ke39:=cR (F:=cS) Ml (by kernel_rfl)
def Ly:List Ent:=ke39::LB
theorem Mj:∀ e∈Ly,aX Tryz.prog e:=cX Xp Ml
def WC:V:=(.sl [(.int .i64 41),(.int .i64 11)])
def ke40:Ent:=⟨38,[],[nW,(.v (.int .i64 60)),(.v WC)],⟨[],[],(.v (.int .i64 29))⟩⟩
theorem Xn:aX Tryz.prog ke40:=cR (F:=cS) Mj (by kernel_rfl)
def Xg:List Ent:=ke40::Ly
theorem XY:∀ e∈Xg,aX Tryz.prog e:=cX Xn Mj
def ke41:Ent:=⟨18,[],[],⟨[],[],(.v (.bool true))⟩⟩
theorem Xm:aX Tryz.prog ke41:=cR (F:=cS) XY (by kernel_rfl)
end Go.Eng
