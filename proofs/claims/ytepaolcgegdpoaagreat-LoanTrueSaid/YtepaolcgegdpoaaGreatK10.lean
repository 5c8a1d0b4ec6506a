import Derived.Test.YtepaolcgegdpoaaGreatK9
import Derived.KernelRfl
/- Texts Sane1 to Sane1. -/
set_option linter.all false
namespace Go.Eng
open Go Go.Proofs
def cS:List Nat:=[63,111,65,115,37,76,42,120,187,78,27,119,128,43,80,23,17,16,104,118,39,121,21,38,18]
def Lh:V:=(.sl [(.int .i64 1),(.int .i64 2),(.int .i64 3)])
def Lo:D:=(.agg [(.v (.int .i64 10)),(.v (.int .i64 5)),(.v (.int .i64 1)),(.v Lh),(.v (.int .i64 10)),(.v (.int .i64 10)),(.v (.int .i64 0))])
def ke0:Ent:=⟨63,[],[Lo],⟨[],[],(.v (.int .i64 0))⟩⟩
theorem XW:aX Tryz.prog ke0:=cR (F:=cS) MS (by kernel_rfl)
def Mc:List Ent:=ke0::Md
theorem MR:∀ e∈Mc,aX Tryz.prog e:=cX XW MS
def eN:V:=(.agg [(.int .i64 10),(.int .i64 5),(.int .i64 1),Lh,(.int .i64 10),(.int .i64 10),(.int .i64 0)])
def eM:V:=(.agg [(.int .i64 11),(.int .i64 6),(.int .i64 1),(.sl [(.int .i64 2)]),(.int .i64 40),(.int .i64 40),(.int .i64 0)])
def ke1:Ent:=⟨111,[],[(.v (.sl [eN,eM])),(.v (.int .i64 60)),(.v (.clo (.func 63) [] [])),(.v (.clo (.func 112) [] []))],⟨[],[],(.v (.bool true))⟩⟩
theorem XV:aX Tryz.prog ke1:=cR (F:=cS) MR (by kernel_rfl)
def L0:List Ent:=ke1::Mc
theorem MG:∀ e∈L0,aX Tryz.prog e:=cX XV MR
def Le:V:=(.sl [(.int .i64 1),(.int .i64 2)])
def W3:D:=(.agg [(.v (.int .i64 20)),(.v (.int .i64 10)),(.v (.int .i64 7)),(.v Le),(.v (.int .i64 20)),(.v (.int .i64 50)),(.v (.int .i64 60)),(.v (.int .i64 0))])
def ke2:Ent:=⟨65,[],[W3],⟨[],[],(.v (.int .i64 0))⟩⟩
theorem XK:aX Tryz.prog ke2:=cR (F:=cS) MG (by kernel_rfl)
def LN:List Ent:=ke2::L0
theorem Mv:∀ e∈LN,aX Tryz.prog e:=cX XK MG
def WY:D:=(.agg [(.v (.int .i64 21)),(.v (.int .i64 10)),(.v (.int .i64 5)),(.v (.sl [(.int .i64 3)])),(.v (.int .i64 5)),(.v (.int .i64 30)),(.v (.int .i64 60)),(.v (.int .i64 0))])
def ke3:Ent:=⟨65,[],[WY],⟨[],[],(.v (.int .i64 0))⟩⟩
theorem Xz:aX Tryz.prog ke3:=cR (F:=cS) Mv (by kernel_rfl)
def LA:List Ent:=ke3::LN
theorem Mk:∀ e∈LA,aX Tryz.prog e:=cX Xz Mv
def vp:V:=(.agg [(.int .i64 30),(.int .i64 5),(.int .i64 1),(.int .i64 1),(.int .i64 25),(.int .i64 70),(.int .i64 0)])
def sK:V:=(.agg [(.int .i64 31),(.int .i64 0),(.int .i64 1),(.int .i64 2),(.int .i64 22),(.int .i64 80),(.int .i64 0)])
def ke4:Ent:=⟨115,[],[(.v (.sl [vp,sK])),(.v (.int .i64 60)),(.v (.clo (.func 67) [] [])),(.v (.clo (.func 116) [] []))],⟨[],[],(.v (.bool true))⟩⟩
theorem Xo:aX Tryz.prog ke4:=cR (F:=cS) Mk (by kernel_rfl)
def Lx:List Ent:=ke4::LA
theorem Mi:∀ e∈Lx,aX Tryz.prog e:=cX Xo Mk
def xp:V:=(.agg [(.int .i64 1),(.int .i64 3)])
def xr:V:=(.agg [(.int .i64 2),(.int .i64 1)])
def Lg:V:=(.agg [(.int .i64 20),(.int .i64 10),(.int .i64 7),Le,(.int .i64 20),(.int .i64 50),(.int .i64 60),(.int .i64 0)])
def Ef:V:=(.agg [(.int .i64 21),(.int .i64 10),(.int .i64 5),(.sl [(.int .i64 3)]),(.int .i64 5),(.int .i64 30),(.int .i64 60),(.int .i64 0)])
def nW:D:=(.agg [(.v (.sl [xp,xr])),(.v (.sl [eN,eM])),(.v (.sl [Lg,Ef])),(.v (.sl [vp,sK]))])
def ke5:Ent:=⟨37,[],[nW],⟨[],[],(.v (.int .i64 0))⟩⟩
theorem Xl:aX Tryz.prog ke5:=cR (F:=cS) Mi (by kernel_rfl)
def Lw:List Ent:=ke5::Lx
theorem Mh:∀ e∈Lw,aX Tryz.prog e:=cX Xl Mi
def gf:O:=(.box [(.v (.sl [xp,xr])),(.v (.sl [eN,eM])),(.v (.sl [Lg,Ef])),(.v (.sl [vp,sK]))])
def WV:O:=(.box [(.ref [0,1] 0),(.msl [1135,0] 2),.nilsl,(.map [204,0]),(.map [205,0])])
def ke6:Ent:=⟨76,[gf],[(.ref [0,1] 0),(.v (.int .i64 50))],⟨[],[([207,0],WV),([1135,0],(.arr 7 [eN,eM])),([204,0],(.map 2 [])),([205,0],(.map 0 []))],(.ref [207,0] 0)⟩⟩
theorem Xk:aX Tryz.prog ke6:=cR (F:=cS) Mh (by kernel_rfl)
def Lv:List Ent:=ke6::Lw
theorem Mg:∀ e∈Lv,aX Tryz.prog e:=cX Xk Mh
def WL:V:=(.sl [(.int .i64 10),(.int .i64 11)])
def Xa:D:=(.tup [(.v WL),(.v (.int .i64 0))])
def ke7:Ent:=⟨42,[],[nW,(.v (.int .i64 50))],⟨[],[],Xa⟩⟩
theorem Xj:aX Tryz.prog ke7:=cR (F:=cS) Mg (by kernel_rfl)
def Lu:List Ent:=ke7::Lv
theorem Mf:∀ e∈Lu,aX Tryz.prog e:=cX Xj Mg
end Go.Eng
