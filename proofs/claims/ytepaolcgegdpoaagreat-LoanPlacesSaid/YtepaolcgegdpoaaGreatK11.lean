import Derived.Test.YtepaolcgegdpoaaGreatK10
import Derived.KernelRfl
/- Texts Sane1 to Sane1. -/
set_option linter.all false
namespace Go.Eng
open Go Go.Proofs
def db:List Nat:=[63,111,65,115,37,76,42,120,187,78,27,119,128,43,80,23,17,16,104,118,39,121,21,38,18]
def JJ:V:=(.sl [(.int .i64 1),(.int .i64 2),(.int .i64 3)])
def JQ:D:=(.agg [(.v (.int .i64 10)),(.v (.int .i64 5)),(.v (.int .i64 1)),(.v JJ),(.v (.int .i64 10)),(.v (.int .i64 10)),(.v (.int .i64 0))])
def ke0:Ent:=⟨63,[],[JQ],⟨[],[],(.v (.int .i64 0))⟩⟩
theorem WI:bb Tryz.prog ke0:=c9 (F:=db) Ll (by kernel_rfl)
def Kv:List Ent:=ke0::Kw
theorem Lk:∀ e∈Kv,bb Tryz.prog e:=dg WI Ll
def eM:V:=(.agg [(.int .i64 10),(.int .i64 5),(.int .i64 1),JJ,(.int .i64 10),(.int .i64 10),(.int .i64 0)])
def eK:V:=(.agg [(.int .i64 11),(.int .i64 6),(.int .i64 1),(.sl [(.int .i64 2)]),(.int .i64 40),(.int .i64 40),(.int .i64 0)])
def ke1:Ent:=⟨111,[],[(.v (.sl [eM,eK])),(.v (.int .i64 60)),(.v (.clo (.func 63) [] [])),(.v (.clo (.func 112) [] []))],⟨[],[],(.v (.bool true))⟩⟩
theorem WH:bb Tryz.prog ke1:=c9 (F:=db) Lk (by kernel_rfl)
def Kk:List Ent:=ke1::Kv
theorem K8:∀ e∈Kk,bb Tryz.prog e:=dg WH Lk
def JG:V:=(.sl [(.int .i64 1),(.int .i64 2)])
def VM:D:=(.agg [(.v (.int .i64 20)),(.v (.int .i64 10)),(.v (.int .i64 7)),(.v JG),(.v (.int .i64 20)),(.v (.int .i64 50)),(.v (.int .i64 60)),(.v (.int .i64 0))])
def ke2:Ent:=⟨65,[],[VM],⟨[],[],(.v (.int .i64 0))⟩⟩
theorem Wv:bb Tryz.prog ke2:=c9 (F:=db) K8 (by kernel_rfl)
def J':List Ent:=ke2::Kk
theorem KP:∀ e∈J',bb Tryz.prog e:=dg Wv K8
def VH:D:=(.agg [(.v (.int .i64 21)),(.v (.int .i64 10)),(.v (.int .i64 5)),(.v (.sl [(.int .i64 3)])),(.v (.int .i64 5)),(.v (.int .i64 30)),(.v (.int .i64 60)),(.v (.int .i64 0))])
def ke3:Ent:=⟨65,[],[VH],⟨[],[],(.v (.int .i64 0))⟩⟩
theorem Wk:bb Tryz.prog ke3:=c9 (F:=db) KP (by kernel_rfl)
def JZ:List Ent:=ke3::J'
theorem KD:∀ e∈JZ,bb Tryz.prog e:=dg Wk KP
def uO:V:=(.agg [(.int .i64 30),(.int .i64 5),(.int .i64 1),(.int .i64 1),(.int .i64 25),(.int .i64 70),(.int .i64 0)])
def sh:V:=(.agg [(.int .i64 31),(.int .i64 0),(.int .i64 1),(.int .i64 2),(.int .i64 22),(.int .i64 80),(.int .i64 0)])
def ke4:Ent:=⟨115,[],[(.v (.sl [uO,sh])),(.v (.int .i64 60)),(.v (.clo (.func 67) [] [])),(.v (.clo (.func 116) [] []))],⟨[],[],(.v (.bool true))⟩⟩
theorem V':bb Tryz.prog ke4:=c9 (F:=db) KD (by kernel_rfl)
def JX:List Ent:=ke4::JZ
theorem KB:∀ e∈JX,bb Tryz.prog e:=dg V' KD
def wE:V:=(.agg [(.int .i64 1),(.int .i64 3)])
def wG:V:=(.agg [(.int .i64 2),(.int .i64 1)])
def JI:V:=(.agg [(.int .i64 20),(.int .i64 10),(.int .i64 7),JG,(.int .i64 20),(.int .i64 50),(.int .i64 60),(.int .i64 0)])
def C5:V:=(.agg [(.int .i64 21),(.int .i64 10),(.int .i64 5),(.sl [(.int .i64 3)]),(.int .i64 5),(.int .i64 30),(.int .i64 60),(.int .i64 0)])
def nw:D:=(.agg [(.v (.sl [wE,wG])),(.v (.sl [eM,eK])),(.v (.sl [JI,C5])),(.v (.sl [uO,sh]))])
def ke5:Ent:=⟨37,[],[nw],⟨[],[],(.v (.int .i64 0))⟩⟩
theorem V7:bb Tryz.prog ke5:=c9 (F:=db) KB (by kernel_rfl)
def JW:List Ent:=ke5::JX
theorem KA:∀ e∈JW,bb Tryz.prog e:=dg V7 KB
def fZ:O:=(.box [(.v (.sl [wE,wG])),(.v (.sl [eM,eK])),(.v (.sl [JI,C5])),(.v (.sl [uO,sh]))])
def VE:O:=(.box [(.ref [0,1] 0),(.msl [1135,0] 2),.nilsl,(.map [204,0]),(.map [205,0])])
def ke6:Ent:=⟨76,[fZ],[(.ref [0,1] 0),(.v (.int .i64 50))],⟨[],[([207,0],VE),([1135,0],(.arr 7 [eM,eK])),([204,0],(.map 2 [])),([205,0],(.map 0 []))],(.ref [207,0] 0)⟩⟩
theorem V6:bb Tryz.prog ke6:=c9 (F:=db) KA (by kernel_rfl)
def JV:List Ent:=ke6::JW
theorem Kz:∀ e∈JV,bb Tryz.prog e:=dg V6 KA
def Vu:V:=(.sl [(.int .i64 10),(.int .i64 11)])
def VT:D:=(.tup [(.v Vu),(.v (.int .i64 0))])
def ke7:Ent:=⟨42,[],[nw,(.v (.int .i64 50))],⟨[],[],VT⟩⟩
theorem V5:bb Tryz.prog ke7:=c9 (F:=db) Kz (by kernel_rfl)
def JU:List Ent:=ke7::JV
theorem Ky:∀ e∈JU,bb Tryz.prog e:=dg V5 Kz
end Go.Eng
