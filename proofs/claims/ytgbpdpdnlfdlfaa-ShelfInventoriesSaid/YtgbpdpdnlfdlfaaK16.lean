import Derived.Test.YtgbpdpdnlfdlfaaK15
import Derived.KernelRfl
/- Texts Sane9 to Sane9. -/
set_option linter.all false
namespace Go.Eng
open Go Go.Proofs
def ke63:Ent:=⟨73,[iL,eY,dj,a8],[(.ref [0,1] 0),(.v (.int .i64 0))],⟨[(3,a8),(2,dj)],[([61,0,120,0,64,0],m7)],(.msl [61,0,120,0,64,0] 2)⟩⟩
theorem Lw:ak Try.prog ke63:=aJ (F:=aK) By (by kernel_rfl)
def Af:List Ent:=ke63::Ag
theorem Bx:∀ e∈Af,ak Try.prog e:=aL Lw By
def zT:D:=(.agg [(.v (.int .i64 7)),(.v (.int .i64 0)),(.v (.bool true)),(.v (.bool false))])
def ke64:Ent:=⟨63,[],[zT,cO,(.v (.int .i64 6))],⟨[],[([134,0,245,0,40,0],kr),([129,0,245,0,40,0],iK),([132,0,245,0,40,0],a8)],gW⟩⟩
theorem Lv:ak Try.prog ke64:=aJ (F:=aK) Bx (by kernel_rfl)
def Ae:List Ent:=ke64::Af
theorem Bw:∀ e∈Ae,ak Try.prog e:=aL Lv Bx
def Kz:O:=(.arr 1 [(.int .i64 2),(.int .i64 0),(.int .i64 0),(.int .i64 5)])
def Ky:O:=(.arr 1 [(.int .i64 5),(.int .i64 9)])
def KR:D:=(.agg [(.v (.bool false)),(.msl [3445,0] 2)])
def KQ:D:=(.tup [.nilsl,KR,(.v (.bool false))])
def ke65:Ent:=⟨64,[b9,Kz,a8],[(.ref [0,1] 0)],⟨[],[([3445,0],Ky)],KQ⟩⟩
theorem Lu:ak Try.prog ke65:=aJ (F:=aK) Bw (by kernel_rfl)
def Ad:List Ent:=ke65::Ae
theorem Bv:∀ e∈Ad,ak Try.prog e:=aL Lu Bw
def Kx:O:=(.arr 1 [(.int .i64 1),(.int .i64 0),(.int .i64 0),(.int .i64 2)])
def ke66:Ent:=⟨64,[b9,Kx,eA],[(.ref [0,1] 0)],⟨[],[([4677,0],(.arr 1 [(.int .i64 9)]))],lC⟩⟩
theorem Lt:ak Try.prog ke66:=aJ (F:=aK) Bv (by kernel_rfl)
def Ac:List Ent:=ke66::Ad
theorem Bu:∀ e∈Ac,ak Try.prog e:=aL Lt Bv
def ke67:Ent:=⟨73,[b9,iK,a8],[(.ref [0,1] 0),(.v (.int .i64 1))],⟨[(2,a8),(1,iK)],[([61,0,244,0,64,0],(.arr 1 [(.int .i64 2)]))],(.msl [61,0,244,0,64,0] 1)⟩⟩
theorem Lr:ak Try.prog ke67:=aJ (F:=aK) Bu (by kernel_rfl)
def Ab:List Ent:=ke67::Ac
theorem Bt:∀ e∈Ab,ak Try.prog e:=aL Lr Bu
def ke68:Ent:=⟨63,[eY],[zT,qH,(.v (.int .i64 6))],⟨[],[([134,0,245,0,40,0],uw),([129,0,245,0,40,0],dj),([132,0,245,0,40,0],a8)],gW⟩⟩
theorem Lq:ak Try.prog ke68:=aJ (F:=aK) Bt (by kernel_rfl)
def Aa:List Ent:=ke68::Ab
theorem Bs:∀ e∈Aa,ak Try.prog e:=aL Lq Bt
def ke69:Ent:=⟨64,[iL,eY,zL,a8],[(.ref [0,1] 0)],⟨[],[([8913,0],jw)],fx⟩⟩
theorem Lo:ak Try.prog ke69:=aJ (F:=aK) Bs (by kernel_rfl)
def z8:List Ent:=ke69::Aa
theorem Bq:∀ e∈z8,ak Try.prog e:=aL Lo Bs
def ke70:Ent:=⟨64,[iL,eY,zJ,a8],[(.ref [0,1] 0)],⟨[],[([8913,0],lB)],fx⟩⟩
theorem Lm:ak Try.prog ke70:=aJ (F:=aK) Bq (by kernel_rfl)
def z7:List Ent:=ke70::z8
theorem Bp:∀ e∈z7,ak Try.prog e:=aL Lm Bq
def ke71:Ent:=⟨64,[iL,eY,zH,eA],[(.ref [0,1] 0)],⟨[],[([4677,0],(.arr 1 [(.int .i64 9)]))],lC⟩⟩
theorem Ll:ak Try.prog ke71:=aJ (F:=aK) Bp (by kernel_rfl)
def z6:List Ent:=ke71::z7
theorem Bo:∀ e∈z6,ak Try.prog e:=aL Ll Bp
end Go.Eng
