import Derived.Test.YtepaolcgegdpoaaGreatK12
import Derived.KernelRfl
/- Texts Sane4 to Sane4. -/
set_option linter.all false
namespace Go.Eng
open Go Go.Proofs
def ke21:Ent:=⟨78,[fw],[(.ref [0,1] 0),(.v (.int .i64 60))],⟨[],[([207,0,30,0,35,0],HS),([1135,0,30,0,35,0],(.farr 7 [eh,eg])),([5916,0,30,0,35,0],fS),([204,0,30,0,35,0],fR),([205,0,30,0,35,0],gu)],HT⟩⟩
theorem Uq:aX Tryz.prog ke21:=cJ (F:=cK) Ja (by kernel_rfl)
def It:List Ent:=ke21::Iu
theorem I':∀ e∈It,aX Tryz.prog e:=cP Uq Ja
def yf:D:=(.agg [(.v (.int .i64 1)),(.v (.int .i64 1))])
def B3:O:=(.arr 1 [(.int .i64 0),(.int .i64 5)])
def ke22:Ent:=⟨80,[iV,fw,(.farr 7 [eh,eg]),fS,fR,gu],[(.ref [0,1] 0),yf,(.v (.int .i64 24))],⟨[],[([520,0],B3)],(.msl [520,0] 2)⟩⟩
theorem Up:aX Tryz.prog ke22:=cJ (F:=cK) I' (by kernel_rfl)
def Is:List Ent:=ke22::It
theorem I9:∀ e∈Is,aX Tryz.prog e:=cP Up I'
def TG:D:=(.tup [(.msl [520,0,279,0] 2),(.v (.int .i64 0))])
def ke23:Ent:=⟨23,[],[mg,yf,(.v (.int .i64 24)),(.v (.int .i64 60))],⟨[],[([520,0,279,0],B3)],TG⟩⟩
theorem Uo:aX Tryz.prog ke23:=cJ (F:=cK) I9 (by kernel_rfl)
def Ir:List Ent:=ke23::Is
theorem I8:∀ e∈Ir,aX Tryz.prog e:=cP Uo I9
def ke24:Ent:=⟨80,[iV,fw,(.farr 7 [eh,eg]),fS,fR,gu],[(.ref [0,1] 0),yf,(.v (.int .i64 30))],⟨[],[([520,0],B3)],(.msl [520,0] 2)⟩⟩
theorem Un:aX Tryz.prog ke24:=cJ (F:=cK) I8 (by kernel_rfl)
def Iq:List Ent:=ke24::Ir
theorem I7:∀ e∈Iq,aX Tryz.prog e:=cP Un I8
def ke25:Ent:=⟨119,[iV,fw,(.farr 7 [eh,eg]),fS,fR,gu],[(.ref [0,1] 0),vf,(.v (.int .i64 30))],⟨[],[],pE⟩⟩
theorem Um:aX Tryz.prog ke25:=cJ (F:=cK) I7 (by kernel_rfl)
def Ip:List Ent:=ke25::Iq
theorem I6:∀ e∈Ip,aX Tryz.prog e:=cP Um I7
def B5:D:=(.agg [(.v (.int .i64 1)),(.v (.int .i64 3))])
def ke26:Ent:=⟨119,[iV,fw,(.farr 7 [eh,eg]),fS,fR,gu],[(.ref [0,1] 0),B5,(.v (.int .i64 30))],⟨[],[],pE⟩⟩
theorem Ul:aX Tryz.prog ke26:=cJ (F:=cK) I6 (by kernel_rfl)
def Io:List Ent:=ke26::Ip
theorem I5:∀ e∈Io,aX Tryz.prog e:=cP Ul I6
def TE:D:=(.tup [(.v (.int .i64 2)),(.v (.int .i64 0))])
def ke27:Ent:=⟨17,[],[mg,(.v (.int .i64 1)),(.v (.int .i64 30)),(.v (.int .i64 60))],⟨[],[],TE⟩⟩
theorem Uk:aX Tryz.prog ke27:=cJ (F:=cK) I5 (by kernel_rfl)
def Im:List Ent:=ke27::Io
theorem I4:∀ e∈Im,aX Tryz.prog e:=cP Uk I5
def TD:D:=(.tup [(.v (.int .i64 0)),(.v (.int .i64 0))])
def ke28:Ent:=⟨16,[],[mg,(.v (.int .i64 10)),(.v (.int .i64 40)),(.v (.int .i64 60))],⟨[],[],TD⟩⟩
theorem Uj:aX Tryz.prog ke28:=cJ (F:=cK) I4 (by kernel_rfl)
def Il:List Ent:=ke28::Im
theorem I3:∀ e∈Il,aX Tryz.prog e:=cP Uj I4
def ke29:Ent:=⟨80,[iV,fw,(.farr 7 [eh,eg]),fS,fR,gu],[(.ref [0,1] 0),yf,(.v (.int .i64 19))],⟨[],[([601,0],(.arr 1 [(.int .i64 5)]))],(.msl [601,0] 1)⟩⟩
theorem Ui:aX Tryz.prog ke29:=cJ (F:=cK) I3 (by kernel_rfl)
def Ij:List Ent:=ke29::Il
theorem I1:∀ e∈Ij,aX Tryz.prog e:=cP Ui I3
end Go.Eng
