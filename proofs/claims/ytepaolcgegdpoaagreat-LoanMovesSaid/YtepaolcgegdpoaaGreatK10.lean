import Derived.Test.YtepaolcgegdpoaaGreatK9
import Derived.KernelRfl
/- Texts Sane1 to Sane1. -/
set_option linter.all false
namespace Go.Eng
open Go Go.Proofs
def cK:List Nat:=[63,111,65,115,37,76,42,120,187,78,27,119,128,43,80,23,17,16,104,118,39,121,21,38,18]
def HP:V:=(.sl [(.int .i64 1),(.int .i64 2),(.int .i64 3)])
def HW:D:=(.agg [(.v (.int .i64 10)),(.v (.int .i64 5)),(.v (.int .i64 1)),(.v HP),(.v (.int .i64 10)),(.v (.int .i64 10)),(.v (.int .i64 0))])
def ke0:Ent:=⟨63,[],[HW],⟨[],[],(.v (.int .i64 0))⟩⟩
theorem UE:aX Tryz.prog ke0:=cJ (F:=cK) Jo (by kernel_rfl)
def IH:List Ent:=ke0::II
theorem Jn:∀ e∈IH,aX Tryz.prog e:=cP UE Jo
def eh:V:=(.agg [(.int .i64 10),(.int .i64 5),(.int .i64 1),HP,(.int .i64 10),(.int .i64 10),(.int .i64 0)])
def eg:V:=(.agg [(.int .i64 11),(.int .i64 6),(.int .i64 1),(.sl [(.int .i64 2)]),(.int .i64 40),(.int .i64 40),(.int .i64 0)])
def ke1:Ent:=⟨111,[],[(.v (.sl [eh,eg])),(.v (.int .i64 60)),(.v (.clo (.func 63) [] [])),(.v (.clo (.func 112) [] []))],⟨[],[],(.v (.bool true))⟩⟩
theorem UD:aX Tryz.prog ke1:=cJ (F:=cK) Jn (by kernel_rfl)
def Iw:List Ent:=ke1::IH
theorem Jc:∀ e∈Iw,aX Tryz.prog e:=cP UD Jn
def HM:V:=(.sl [(.int .i64 1),(.int .i64 2)])
def TF:D:=(.agg [(.v (.int .i64 20)),(.v (.int .i64 10)),(.v (.int .i64 7)),(.v HM),(.v (.int .i64 20)),(.v (.int .i64 50)),(.v (.int .i64 60)),(.v (.int .i64 0))])
def ke2:Ent:=⟨65,[],[TF],⟨[],[],(.v (.int .i64 0))⟩⟩
theorem Us:aX Tryz.prog ke2:=cJ (F:=cK) Jc (by kernel_rfl)
def Ik:List Ent:=ke2::Iw
theorem I2:∀ e∈Ik,aX Tryz.prog e:=cP Us Jc
def TA:D:=(.agg [(.v (.int .i64 21)),(.v (.int .i64 10)),(.v (.int .i64 5)),(.v (.sl [(.int .i64 3)])),(.v (.int .i64 5)),(.v (.int .i64 30)),(.v (.int .i64 60)),(.v (.int .i64 0))])
def ke3:Ent:=⟨65,[],[TA],⟨[],[],(.v (.int .i64 0))⟩⟩
theorem Uh:aX Tryz.prog ke3:=cJ (F:=cK) I2 (by kernel_rfl)
def H8:List Ent:=ke3::Ik
theorem IQ:∀ e∈H8,aX Tryz.prog e:=cP Uh I2
def te:V:=(.agg [(.int .i64 30),(.int .i64 5),(.int .i64 1),(.int .i64 1),(.int .i64 25),(.int .i64 70),(.int .i64 0)])
def qL:V:=(.agg [(.int .i64 31),(.int .i64 0),(.int .i64 1),(.int .i64 2),(.int .i64 22),(.int .i64 80),(.int .i64 0)])
def ke4:Ent:=⟨115,[],[(.v (.sl [te,qL])),(.v (.int .i64 60)),(.v (.clo (.func 67) [] [])),(.v (.clo (.func 116) [] []))],⟨[],[],(.v (.bool true))⟩⟩
theorem T6:aX Tryz.prog ke4:=cJ (F:=cK) IQ (by kernel_rfl)
def H6:List Ent:=ke4::H8
theorem IN:∀ e∈H6,aX Tryz.prog e:=cP T6 IQ
def va:V:=(.agg [(.int .i64 1),(.int .i64 3)])
def ve:V:=(.agg [(.int .i64 2),(.int .i64 1)])
def HO:V:=(.agg [(.int .i64 20),(.int .i64 10),(.int .i64 7),HM,(.int .i64 20),(.int .i64 50),(.int .i64 60),(.int .i64 0)])
def B2:V:=(.agg [(.int .i64 21),(.int .i64 10),(.int .i64 5),(.sl [(.int .i64 3)]),(.int .i64 5),(.int .i64 30),(.int .i64 60),(.int .i64 0)])
def mg:D:=(.agg [(.v (.sl [va,ve])),(.v (.sl [eh,eg])),(.v (.sl [HO,B2])),(.v (.sl [te,qL]))])
def ke5:Ent:=⟨37,[],[mg],⟨[],[],(.v (.int .i64 0))⟩⟩
theorem T3:aX Tryz.prog ke5:=cJ (F:=cK) IN (by kernel_rfl)
def H5:List Ent:=ke5::H6
theorem IM:∀ e∈H5,aX Tryz.prog e:=cP T3 IN
def fw:O:=(.box [(.v (.sl [va,ve])),(.v (.sl [eh,eg])),(.v (.sl [HO,B2])),(.v (.sl [te,qL]))])
def Tx:O:=(.box [(.ref [0,1] 0),(.msl [1135,0] 2),.nilsl,(.map [204,0]),(.map [205,0])])
def ke6:Ent:=⟨76,[fw],[(.ref [0,1] 0),(.v (.int .i64 50))],⟨[],[([207,0],Tx),([1135,0],(.arr 7 [eh,eg])),([204,0],(.map 2 [])),([205,0],(.map 0 []))],(.ref [207,0] 0)⟩⟩
theorem TZ:aX Tryz.prog ke6:=cJ (F:=cK) IM (by kernel_rfl)
def H4:List Ent:=ke6::H5
theorem IL:∀ e∈H4,aX Tryz.prog e:=cP TZ IM
def To:V:=(.sl [(.int .i64 10),(.int .i64 11)])
def TM:D:=(.tup [(.v To),(.v (.int .i64 0))])
def ke7:Ent:=⟨42,[],[mg,(.v (.int .i64 50))],⟨[],[],TM⟩⟩
theorem TY:aX Tryz.prog ke7:=cJ (F:=cK) IL (by kernel_rfl)
def H0:List Ent:=ke7::H4
theorem IK:∀ e∈H0,aX Tryz.prog e:=cP TY IL
end Go.Eng
