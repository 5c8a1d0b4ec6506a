import Derived.Test.YtepaolcgegdpoaaGreatK14
import Derived.KernelRfl
/- Texts Sane6 to Sane6. -/
set_option linter.all false
namespace Go.Eng
open Go Go.Proofs
def Vq:D:=(.tup [(.v .nilp),(.v (.int .i64 25))])
def ke38:Ent:=⟨121,[J7,(.arr 2 [wM,wO]),(.arr 7 [eF,eE]),(.arr 7 [uO,r9])],[(.ref [0,1] 0),(.v (.int .i64 60))],⟨[],[],Vq⟩⟩
theorem VU:aW Tryz.prog ke38:=cJ (F:=cK) Lc (by kernel_rfl)
def Km:List Ent:=ke38::Kn
theorem Lb:∀ e∈Km,aW Tryz.prog e:=cP VU Lc
def Vg:O:=(.arr 2 [J2,J1,wM,wO])
def Vp:D:=(.tup [(.msl [244,0,171,0,985,0] 4),(.v (.int .i64 0))])
def ke39:Ent:=⟨21,[],[nk,(.v (.int .i64 20)),(.v (.int .i64 30)),(.v (.int .i64 60))],⟨[],[([244,0,171,0,985,0],Vg)],Vp⟩⟩
theorem VT:aW Tryz.prog ke39:=cJ (F:=cK) Lb (by kernel_rfl)
def Kk:List Ent:=ke39::Km
theorem K8:∀ e∈Kk,aW Tryz.prog e:=cP VT Lb
def U8:V:=(.sl [(.int .i64 41),(.int .i64 11)])
def ke40:Ent:=⟨38,[],[nk,(.v (.int .i64 60)),(.v U8)],⟨[],[],(.v (.int .i64 29))⟩⟩
theorem VR:aW Tryz.prog ke40:=cJ (F:=cK) K8 (by kernel_rfl)
def VK:List Ent:=ke40::Kk
theorem Wq:∀ e∈VK,aW Tryz.prog e:=cP VR K8
def ke41:Ent:=⟨18,[],[],⟨[],[],(.v (.bool true))⟩⟩
theorem VQ:aW Tryz.prog ke41:=cJ (F:=cK) Wq (by kernel_rfl)
end Go.Eng
