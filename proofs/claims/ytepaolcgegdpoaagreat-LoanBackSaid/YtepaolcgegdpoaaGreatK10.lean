import Derived.Test.YtepaolcgegdpoaaGreatK9
import Derived.KernelRfl
/- Texts Sane1 to Sane1. -/
set_option linter.all false
namespace Go.Eng
open Go Go.Proofs
def cK:List Nat:=[63,111,65,115,37,76,42,120,187,78,27,119,128,43,80,23,17,16,104,118,39,121,21,38,18]
def J6:V:=(.sl [(.int .i64 1),(.int .i64 2),(.int .i64 3)])
def Kc:D:=(.agg [(.v (.int .i64 10)),(.v (.int .i64 5)),(.v (.int .i64 1)),(.v J6),(.v (.int .i64 10)),(.v (.int .i64 10)),(.v (.int .i64 0))])
def ke0:Ent:=⟨63,[],[Kc],⟨[],[],(.v (.int .i64 0))⟩⟩
theorem Wp:aW Tryz.prog ke0:=cJ (F:=cK) LN (by kernel_rfl)
def KU:List Ent:=ke0::KV
theorem LM:∀ e∈KU,aW Tryz.prog e:=cP Wp LN
def eF:V:=(.agg [(.int .i64 10),(.int .i64 5),(.int .i64 1),J6,(.int .i64 10),(.int .i64 10),(.int .i64 0)])
def eE:V:=(.agg [(.int .i64 11),(.int .i64 6),(.int .i64 1),(.sl [(.int .i64 2)]),(.int .i64 40),(.int .i64 40),(.int .i64 0)])
def ke1:Ent:=⟨111,[],[(.v (.sl [eF,eE])),(.v (.int .i64 60)),(.v (.clo (.func 63) [] [])),(.v (.clo (.func 112) [] []))],⟨[],[],(.v (.bool true))⟩⟩
theorem Wo:aW Tryz.prog ke1:=cJ (F:=cK) LM (by kernel_rfl)
def KH:List Ent:=ke1::KU
theorem Ly:∀ e∈KH,aW Tryz.prog e:=cP Wo LM
def J3:V:=(.sl [(.int .i64 1),(.int .i64 2)])
def Vx:D:=(.agg [(.v (.int .i64 20)),(.v (.int .i64 10)),(.v (.int .i64 7)),(.v J3),(.v (.int .i64 20)),(.v (.int .i64 50)),(.v (.int .i64 60)),(.v (.int .i64 0))])
def ke2:Ent:=⟨65,[],[Vx],⟨[],[],(.v (.int .i64 0))⟩⟩
theorem Wd:aW Tryz.prog ke2:=cJ (F:=cK) Ly (by kernel_rfl)
def Kw:List Ent:=ke2::KH
theorem Ll:∀ e∈Kw,aW Tryz.prog e:=cP Wd Ly
def Vr:D:=(.agg [(.v (.int .i64 21)),(.v (.int .i64 10)),(.v (.int .i64 5)),(.v (.sl [(.int .i64 3)])),(.v (.int .i64 5)),(.v (.int .i64 30)),(.v (.int .i64 60)),(.v (.int .i64 0))])
def ke3:Ent:=⟨65,[],[Vr],⟨[],[],(.v (.int .i64 0))⟩⟩
theorem V3:aW Tryz.prog ke3:=cJ (F:=cK) Ll (by kernel_rfl)
def Kl:List Ent:=ke3::Kw
theorem La:∀ e∈Kl,aW Tryz.prog e:=cP V3 Ll
def uO:V:=(.agg [(.int .i64 30),(.int .i64 5),(.int .i64 1),(.int .i64 1),(.int .i64 25),(.int .i64 70),(.int .i64 0)])
def r9:V:=(.agg [(.int .i64 31),(.int .i64 0),(.int .i64 1),(.int .i64 2),(.int .i64 22),(.int .i64 80),(.int .i64 0)])
def ke4:Ent:=⟨115,[],[(.v (.sl [uO,r9])),(.v (.int .i64 60)),(.v (.clo (.func 67) [] [])),(.v (.clo (.func 116) [] []))],⟨[],[],(.v (.bool true))⟩⟩
theorem VS:aW Tryz.prog ke4:=cJ (F:=cK) La (by kernel_rfl)
def Kj:List Ent:=ke4::Kl
theorem K0:∀ e∈Kj,aW Tryz.prog e:=cP VS La
def wM:V:=(.agg [(.int .i64 1),(.int .i64 3)])
def wO:V:=(.agg [(.int .i64 2),(.int .i64 1)])
def J5:V:=(.agg [(.int .i64 20),(.int .i64 10),(.int .i64 7),J3,(.int .i64 20),(.int .i64 50),(.int .i64 60),(.int .i64 0)])
def Dy:V:=(.agg [(.int .i64 21),(.int .i64 10),(.int .i64 5),(.sl [(.int .i64 3)]),(.int .i64 5),(.int .i64 30),(.int .i64 60),(.int .i64 0)])
def nk:D:=(.agg [(.v (.sl [wM,wO])),(.v (.sl [eF,eE])),(.v (.sl [J5,Dy])),(.v (.sl [uO,r9]))])
def ke5:Ent:=⟨37,[],[nk],⟨[],[],(.v (.int .i64 0))⟩⟩
theorem VP:aW Tryz.prog ke5:=cJ (F:=cK) K0 (by kernel_rfl)
def Ki:List Ent:=ke5::Kj
theorem KZ:∀ e∈Ki,aW Tryz.prog e:=cP VP K0
def fH:O:=(.box [(.v (.sl [wM,wO])),(.v (.sl [eF,eE])),(.v (.sl [J5,Dy])),(.v (.sl [uO,r9]))])
def Vo:O:=(.box [(.ref [0,1] 0),(.msl [1135,0] 2),.nilsl,(.map [204,0]),(.map [205,0])])
def ke6:Ent:=⟨76,[fH],[(.ref [0,1] 0),(.v (.int .i64 50))],⟨[],[([207,0],Vo),([1135,0],(.arr 7 [eF,eE])),([204,0],(.map 2 [])),([205,0],(.map 0 []))],(.ref [207,0] 0)⟩⟩
theorem VO:aW Tryz.prog ke6:=cJ (F:=cK) KZ (by kernel_rfl)
def Kh:List Ent:=ke6::Ki
theorem KY:∀ e∈Kh,aW Tryz.prog e:=cP VO KZ
def Vf:V:=(.sl [(.int .i64 10),(.int .i64 11)])
def VE:D:=(.tup [(.v Vf),(.v (.int .i64 0))])
def ke7:Ent:=⟨42,[],[nk,(.v (.int .i64 50))],⟨[],[],VE⟩⟩
theorem VN:aW Tryz.prog ke7:=cJ (F:=cK) KY (by kernel_rfl)
def Kg:List Ent:=ke7::Kh
theorem KX:∀ e∈Kg,aW Tryz.prog e:=cP VN KY
end Go.Eng
