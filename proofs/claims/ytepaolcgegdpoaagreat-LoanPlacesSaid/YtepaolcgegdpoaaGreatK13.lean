import Derived.Test.YtepaolcgegdpoaaGreatK12
import Derived.KernelRfl
/- Texts Sane3 to Sane3. -/
set_option linter.all false
namespace Go.Eng
open Go Go.Proofs
def ke14:Ent:=⟨187,[jO,fZ,(.arr 7 [eM,eK]),gC,gB,ib],[(.ref [0,1] 0),JP],⟨[],[],JO⟩⟩
theorem WB:bb Tryz.prog ke14:=c9 (F:=db) Lf (by kernel_rfl)
def Kp:List Ent:=ke14::Kq
theorem Le:∀ e∈Kp,bb Tryz.prog e:=dg WB Lf
def wH:D:=(.agg [(.v (.int .i64 1)),(.v (.int .i64 2))])
def qL:D:=(.tup [JQ,(.v (.bool true))])
def ke15:Ent:=⟨119,[jO,fZ,(.arr 7 [eM,eK]),gC,gB,ib],[(.ref [0,1] 0),wH,(.v (.int .i64 22))],⟨[],[],qL⟩⟩
theorem WA:bb Tryz.prog ke15:=c9 (F:=db) Le (by kernel_rfl)
def Ko:List Ent:=ke15::Kp
theorem Ld:∀ e∈Ko,bb Tryz.prog e:=dg WA Le
def Vp:V:=(.agg [(.int .i64 20),(.int .i64 22)])
def VD:O:=(.map 0 [((.int .i64 0),Vp),((.int .i64 1),wF)])
def ke16:Ent:=⟨128,[jO,fZ,(.arr 7 [eM,eK]),gC,gB,ib],[(.ref [0,1] 0),(.v (.sl [sh]))],⟨[(5,VD)],[],(.v (.bool true))⟩⟩
theorem Wz:bb Tryz.prog ke16:=c9 (F:=db) Ld (by kernel_rfl)
def Kn:List Ent:=ke16::Ko
theorem Lc:∀ e∈Kn,bb Tryz.prog e:=dg Wz Ld
def ke17:Ent:=⟨119,[jO,fZ,(.arr 7 [eM,eK]),gC,gB,JL],[(.ref [0,1] 0),wH,(.v (.int .i64 22))],⟨[],[],qL⟩⟩
theorem Wy:bb Tryz.prog ke17:=c9 (F:=db) Lc (by kernel_rfl)
def Km:List Ent:=ke17::Kn
theorem Lb:∀ e∈Km,bb Tryz.prog e:=dg Wy Lc
def Vo:V:=(.agg [(.int .i64 26),(.int .i64 22)])
def VC:O:=(.map 0 [((.int .i64 0),Vo),((.int .i64 1),wF)])
def ke18:Ent:=⟨128,[jO,fZ,(.arr 7 [eM,eK]),gC,gB,ib],[(.ref [0,1] 0),(.v (.sl [uO,sh]))],⟨[(5,VC)],[],(.v (.bool false))⟩⟩
theorem Wx:bb Tryz.prog ke18:=c9 (F:=db) Lb (by kernel_rfl)
def Kl:List Ent:=ke18::Km
theorem La:∀ e∈Kl,bb Tryz.prog e:=dg Wx Lb
def Vn:V:=(.sl [(.int .i64 30),(.int .i64 31)])
def VO:D:=(.tup [(.v Vn),(.v (.int .i64 0))])
def ke19:Ent:=⟨43,[],[nw,(.v (.int .i64 80))],⟨[],[],VO⟩⟩
theorem Ww:bb Tryz.prog ke19:=c9 (F:=db) La (by kernel_rfl)
def Kj:List Ent:=ke19::Kl
theorem K0:∀ e∈Kj,bb Tryz.prog e:=dg Ww La
def ke20:Ent:=⟨76,[fZ],[(.ref [0,1] 0),(.v (.int .i64 60))],⟨[],[([207,0],C7),([1135,0],(.arr 7 [eM,eK])),([5916,0],gC),([204,0],gB),([205,0],ib)],(.ref [207,0] 0)⟩⟩
theorem Wu:bb Tryz.prog ke20:=c9 (F:=db) K0 (by kernel_rfl)
def Ki:List Ent:=ke20::Kj
theorem KZ:∀ e∈Ki,bb Tryz.prog e:=dg Wu K0
end Go.Eng
