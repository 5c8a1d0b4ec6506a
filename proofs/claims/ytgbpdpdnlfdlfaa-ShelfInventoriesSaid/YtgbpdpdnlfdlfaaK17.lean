import Derived.Test.YtgbpdpdnlfdlfaaK16
import Derived.KernelRfl
/- Texts Sane10 to Sane10. -/
set_option linter.all false
namespace Go.Eng
open Go Go.Proofs
def ke72:Ent:=⟨73,[iL,eY,dj,a8],[(.ref [0,1] 0),(.v (.int .i64 1))],⟨[(3,a8),(2,dj)],[([61,0,120,0,64,0],m7)],(.msl [61,0,120,0,64,0] 2)⟩⟩
theorem Lk:ak Try.prog ke72:=aJ (F:=aK) Bo (by kernel_rfl)
def z5:List Ent:=ke72::z6
theorem Bn:∀ e∈z5,ak Try.prog e:=aL Lk Bo
def ke73:Ent:=⟨63,[],[uz,cO,(.v (.int .i64 6))],⟨[],[([134,0,245,0,40,0],kr),([129,0,245,0,40,0],iK),([132,0,245,0,40,0],a8)],gW⟩⟩
theorem Lj:ak Try.prog ke73:=aJ (F:=aK) Bn (by kernel_rfl)
def z2:List Ent:=ke73::z5
theorem Bm:∀ e∈z2,ak Try.prog e:=aL Lj Bn
def Kw:O:=(.arr 1 [(.int .i64 3),(.int .i64 2),(.int .i64 0),(.int .i64 4)])
def ke74:Ent:=⟨64,[b9,Kw,eA],[(.ref [0,1] 0)],⟨[],[([8759,0],lB)],oD⟩⟩
theorem Li:ak Try.prog ke74:=aJ (F:=aK) Bm (by kernel_rfl)
def z1:List Ent:=ke74::z2
theorem Bl:∀ e∈z1,ak Try.prog e:=aL Li Bm
def ke75:Ent:=⟨63,[eY],[uz,qH,(.v (.int .i64 6))],⟨[],[([134,0,245,0,40,0],uw),([129,0,245,0,40,0],dj),([132,0,245,0,40,0],a8)],gW⟩⟩
theorem Lh:ak Try.prog ke75:=aJ (F:=aK) Bl (by kernel_rfl)
def zZ:List Ent:=ke75::z1
theorem Bk:∀ e∈zZ,ak Try.prog e:=aL Lh Bl
def ke76:Ent:=⟨64,[iL,eY,zM,eA],[(.ref [0,1] 0)],⟨[],[([8759,0],jw)],oD⟩⟩
theorem Lg:ak Try.prog ke76:=aJ (F:=aK) Bk (by kernel_rfl)
def zY:List Ent:=ke76::zZ
theorem Bj:∀ e∈zY,ak Try.prog e:=aL Lg Bk
def Kv:O:=(.arr 1 [(.int .i64 5),(.int .i64 7)])
def KP:D:=(.tup [(.msl [946,0] 2),(.v (.int .i64 0))])
def ke77:Ent:=⟨30,[],[cO,(.v (.int .i64 4)),(.v (.int .i64 6))],⟨[],[([946,0],Kv)],KP⟩⟩
theorem Lf:ak Try.prog ke77:=aJ (F:=aK) Bj (by kernel_rfl)
def zX:List Ent:=ke77::zY
theorem Bi:∀ e∈zX,ak Try.prog e:=aL Lf Bj
end Go.Eng
