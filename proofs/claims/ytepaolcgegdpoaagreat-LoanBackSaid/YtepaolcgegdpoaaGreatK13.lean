import Derived.Test.YtepaolcgegdpoaaGreatK12
import Derived.KernelRfl
/- Texts Sane4 to Sane4. -/
set_option linter.all false
namespace Go.Eng
open Go Go.Proofs
def ke21:Ent:=⟨78,[fH],[(.ref [0,1] 0),(.v (.int .i64 60))],⟨[],[([207,0,30,0,35,0],J9),([1135,0,30,0,35,0],(.farr 7 [eF,eE])),([5916,0,30,0,35,0],gl),([204,0,30,0,35,0],gk),([205,0,30,0,35,0],gU)],J'⟩⟩
theorem Wb:aW Tryz.prog ke21:=cJ (F:=cK) Lw (by kernel_rfl)
def KE:List Ent:=ke21::KF
theorem Lv:∀ e∈KE,aW Tryz.prog e:=cP Wb Lw
def zx:D:=(.agg [(.v (.int .i64 1)),(.v (.int .i64 1))])
def Dz:O:=(.arr 1 [(.int .i64 0),(.int .i64 5)])
def ke22:Ent:=⟨80,[jr,fH,(.farr 7 [eF,eE]),gl,gk,gU],[(.ref [0,1] 0),zx,(.v (.int .i64 24))],⟨[],[([520,0],Dz)],(.msl [520,0] 2)⟩⟩
theorem Wa:aW Tryz.prog ke22:=cJ (F:=cK) Lv (by kernel_rfl)
def KD:List Ent:=ke22::KE
theorem Lu:∀ e∈KD,aW Tryz.prog e:=cP Wa Lv
def Vy:D:=(.tup [(.msl [520,0,279,0] 2),(.v (.int .i64 0))])
def ke23:Ent:=⟨23,[],[nk,zx,(.v (.int .i64 24)),(.v (.int .i64 60))],⟨[],[([520,0,279,0],Dz)],Vy⟩⟩
theorem V':aW Tryz.prog ke23:=cJ (F:=cK) Lu (by kernel_rfl)
def KC:List Ent:=ke23::KD
theorem Lt:∀ e∈KC,aW Tryz.prog e:=cP V' Lu
def ke24:Ent:=⟨80,[jr,fH,(.farr 7 [eF,eE]),gl,gk,gU],[(.ref [0,1] 0),zx,(.v (.int .i64 30))],⟨[],[([520,0],Dz)],(.msl [520,0] 2)⟩⟩
theorem V9:aW Tryz.prog ke24:=cJ (F:=cK) Lt (by kernel_rfl)
def KB:List Ent:=ke24::KC
theorem Lr:∀ e∈KB,aW Tryz.prog e:=cP V9 Lt
def ke25:Ent:=⟨119,[jr,fH,(.farr 7 [eF,eE]),gl,gk,gU],[(.ref [0,1] 0),wP,(.v (.int .i64 30))],⟨[],[],qp⟩⟩
theorem V8:aW Tryz.prog ke25:=cJ (F:=cK) Lr (by kernel_rfl)
def KA:List Ent:=ke25::KB
theorem Lq:∀ e∈KA,aW Tryz.prog e:=cP V8 Lr
def DB:D:=(.agg [(.v (.int .i64 1)),(.v (.int .i64 3))])
def ke26:Ent:=⟨119,[jr,fH,(.farr 7 [eF,eE]),gl,gk,gU],[(.ref [0,1] 0),DB,(.v (.int .i64 30))],⟨[],[],qp⟩⟩
theorem V7:aW Tryz.prog ke26:=cJ (F:=cK) Lq (by kernel_rfl)
def Kz:List Ent:=ke26::KA
theorem Lo:∀ e∈Kz,aW Tryz.prog e:=cP V7 Lq
def Vv:D:=(.tup [(.v (.int .i64 2)),(.v (.int .i64 0))])
def ke27:Ent:=⟨17,[],[nk,(.v (.int .i64 1)),(.v (.int .i64 30)),(.v (.int .i64 60))],⟨[],[],Vv⟩⟩
theorem V6:aW Tryz.prog ke27:=cJ (F:=cK) Lo (by kernel_rfl)
def Ky:List Ent:=ke27::Kz
theorem Ln:∀ e∈Ky,aW Tryz.prog e:=cP V6 Lo
def Vu:D:=(.tup [(.v (.int .i64 0)),(.v (.int .i64 0))])
def ke28:Ent:=⟨16,[],[nk,(.v (.int .i64 10)),(.v (.int .i64 40)),(.v (.int .i64 60))],⟨[],[],Vu⟩⟩
theorem V5:aW Tryz.prog ke28:=cJ (F:=cK) Ln (by kernel_rfl)
def Kx:List Ent:=ke28::Ky
theorem Lm:∀ e∈Kx,aW Tryz.prog e:=cP V5 Ln
def ke29:Ent:=⟨80,[jr,fH,(.farr 7 [eF,eE]),gl,gk,gU],[(.ref [0,1] 0),zx,(.v (.int .i64 19))],⟨[],[([601,0],(.arr 1 [(.int .i64 5)]))],(.msl [601,0] 1)⟩⟩
theorem V4:aW Tryz.prog ke29:=cJ (F:=cK) Lm (by kernel_rfl)
def Kv:List Ent:=ke29::Kx
theorem Lk:∀ e∈Kv,aW Tryz.prog e:=cP V4 Lm
end Go.Eng
