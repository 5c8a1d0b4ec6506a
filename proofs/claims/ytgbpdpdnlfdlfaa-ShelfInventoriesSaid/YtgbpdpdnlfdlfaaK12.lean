import Derived.Test.YtgbpdpdnlfdlfaaK11
import Derived.KernelRfl
/- Texts Sane5 to Sane5. -/
set_option linter.all false
namespace Go.Eng
open Go Go.Proofs
def Kn:O:=(.box [(.msl [1239,0,236,0,368,0,181,0,236,0,244,0,181,0] 2)])
def qB:V:=(.sl [(.int .i64 0),(.int .i64 1),(.int .i64 2),(.int .i64 (-1))])
def ke31:Ent:=⟨130,[(.box [(.ref [1,1] 0)]),kq,fW,a8,(.box [(.msl [5,1] 4)]),qG,(.box [.nilsl]),uu],[(.v (.int .i64 1)),(.ref [0,1] 0),(.ref [4,1] 0),(.ref [6,1] 0),(.ref [7,1] 0)],⟨[(6,Kn),(5,qG)],[([1239,0,236,0,368,0,181,0,236,0,244,0,181,0],(.arr 1 [qB,ko]))],(.tup [])⟩⟩
theorem L':ak Try.prog ke31:=aJ (F:=aK) B8 (by kernel_rfl)
def AQ:List Ent:=ke31::AR
theorem B7:∀ e∈AQ,ak Try.prog e:=aL L' B8
def zq:V:=(.sl [(.int .i64 1),(.int .i64 0),(.int .i64 2),(.int .i64 (-1))])
def qD:O:=(.arr 1 [qB,ko,zq,qC])
def ke32:Ent:=⟨130,[(.box [(.ref [1,1] 0)]),kq,fW,a8,(.box [(.msl [5,1] 4)]),qF,(.box [(.msl [7,1] 2)]),(.arr 1 [qB,ko]),qE],[(.v (.int .i64 1)),(.ref [0,1] 0),(.ref [4,1] 0),(.ref [6,1] 0),(.ref [8,1] 0)],⟨[(6,(.box [(.msl [7,1] 4)])),(7,qD),(5,qF)],[],(.tup [])⟩⟩
theorem L9:ak Try.prog ke32:=aJ (F:=aK) B7 (by kernel_rfl)
def AP:List Ent:=ke32::AQ
theorem B6:∀ e∈AP,ak Try.prog e:=aL L9 B7
def zE:O:=(.arr 1 [(.int .i64 (-1)),(.int .i64 (-1)),(.int .i64 0),(.int .i64 (-1))])
def ke33:Ent:=⟨130,[(.box [(.ref [1,1] 0)]),kq,fW,a8,(.box [(.msl [5,1] 4)]),zE,(.box [(.msl [7,1] 4)]),qD,qE],[(.v (.int .i64 1)),(.ref [0,1] 0),(.ref [4,1] 0),(.ref [6,1] 0),(.ref [8,1] 0)],⟨[(5,zE)],[],(.tup [])⟩⟩
theorem L8:ak Try.prog ke33:=aJ (F:=aK) B6 (by kernel_rfl)
def AO:List Ent:=ke33::AP
theorem B5:∀ e∈AO,ak Try.prog e:=aL L8 B6
def zD:O:=(.arr 1 [(.int .i64 (-1)),(.int .i64 (-1)),(.int .i64 (-1)),(.int .i64 0)])
def ke34:Ent:=⟨130,[(.box [(.ref [1,1] 0)]),kq,fW,a8,(.box [(.msl [5,1] 4)]),zD,(.box [(.msl [7,1] 4)]),qD,qE],[(.v (.int .i64 1)),(.ref [0,1] 0),(.ref [4,1] 0),(.ref [6,1] 0),(.ref [8,1] 0)],⟨[(5,zD)],[],(.tup [])⟩⟩
theorem L7:ak Try.prog ke34:=aJ (F:=aK) B5 (by kernel_rfl)
def AN:List Ent:=ke34::AO
theorem B4:∀ e∈AN,ak Try.prog e:=aL L7 B5
def ke35:Ent:=⟨116,[b9,fW,a8],[(.ref [0,1] 0)],⟨[],[([1239,0,236,0,368,0,181,0,236,0,244,0,181,0,236,0,120,0,181,0,622,0],qD)],(.msl [1239,0,236,0,368,0,181,0,236,0,244,0,181,0,236,0,120,0,181,0,622,0] 4)⟩⟩
theorem L6:ak Try.prog ke35:=aJ (F:=aK) B4 (by kernel_rfl)
def AM:List Ent:=ke35::AN
theorem B3:∀ e∈AM,ak Try.prog e:=aL L6 B4
def Km:O:=(.farr 1 [qB,ko,zq,qC])
def ke36:Ent:=⟨82,[Km,(.arr 1 [(.int .i64 3)])],[(.msl [0,1] 4),(.v (.int .i64 2)),(.msl [1,1] 1)],⟨[],[],(.v (.bool true))⟩⟩
theorem L5:ak Try.prog ke36:=aJ (F:=aK) B3 (by kernel_rfl)
def AL:List Ent:=ke36::AM
theorem B2:∀ e∈AL,ak Try.prog e:=aL L5 B3
def KE:D:=(.tup [(.msl [9970,0] 1),(.v (.int .i64 0))])
def ke37:Ent:=⟨31,[],[cO,(.v (.int .i64 9)),(.v (.int .i64 3))],⟨[],[([9970,0],(.arr 1 [(.int .i64 3)]))],KE⟩⟩
theorem L4:ak Try.prog ke37:=aJ (F:=aK) B2 (by kernel_rfl)
def AK:List Ent:=ke37::AL
theorem B1:∀ e∈AK,ak Try.prog e:=aL L4 B2
def zC:O:=(.arr 1 [(.int .i64 3),(.int .i64 2),(.int .i64 0),(.int .i64 2)])
def ke38:Ent:=⟨97,[],[cO,(.v (.int .i64 8)),(.v (.clo (.func 98) [] []))],⟨[],[([134,0],jx),([129,0],zC),([132,0],eA)],(.ref [134,0] 0)⟩⟩
theorem L3:ak Try.prog ke38:=aJ (F:=aK) B1 (by kernel_rfl)
def AJ:List Ent:=ke38::AK
theorem B0:∀ e∈AJ,ak Try.prog e:=aL L3 B1
end Go.Eng
