import Derived.Test.YtepaolcgegdpoaaGreatK12
import Derived.KernelRfl
/- Texts Sane4 to Sane4. -/
set_option linter.all false
namespace Go.Eng
open Go Go.Proofs
def ke21:Ent:=⟨78,[gf],[(.ref [0,1] 0),(.v (.int .i64 60))],⟨[],[([207,0,30,0,35,0],Lk),([1135,0,30,0,35,0],(.farr 7 [eN,eM])),([5916,0,30,0,35,0],gJ),([204,0,30,0,35,0],gI),([205,0,30,0,35,0],iv)],Ll⟩⟩
theorem XI:aX Tryz.prog ke21:=cR (F:=cS) ME (by kernel_rfl)
def LX:List Ent:=ke21::LY
theorem MD:∀ e∈LX,aX Tryz.prog e:=cX XI ME
def Ah:D:=(.agg [(.v (.int .i64 1)),(.v (.int .i64 1))])
def Eg:O:=(.arr 1 [(.int .i64 0),(.int .i64 5)])
def ke22:Ent:=⟨80,[jJ,gf,(.farr 7 [eN,eM]),gJ,gI,iv],[(.ref [0,1] 0),Ah,(.v (.int .i64 24))],⟨[],[([520,0],Eg)],(.msl [520,0] 2)⟩⟩
theorem XH:aX Tryz.prog ke22:=cR (F:=cS) MD (by kernel_rfl)
def LW:List Ent:=ke22::LX
theorem MC:∀ e∈LW,aX Tryz.prog e:=cX XH MD
def W4:D:=(.tup [(.msl [520,0,279,0] 2),(.v (.int .i64 0))])
def ke23:Ent:=⟨23,[],[nW,Ah,(.v (.int .i64 24)),(.v (.int .i64 60))],⟨[],[([520,0,279,0],Eg)],W4⟩⟩
theorem XG:aX Tryz.prog ke23:=cR (F:=cS) MC (by kernel_rfl)
def LV:List Ent:=ke23::LW
theorem MB:∀ e∈LV,aX Tryz.prog e:=cX XG MC
def ke24:Ent:=⟨80,[jJ,gf,(.farr 7 [eN,eM]),gJ,gI,iv],[(.ref [0,1] 0),Ah,(.v (.int .i64 30))],⟨[],[([520,0],Eg)],(.msl [520,0] 2)⟩⟩
theorem XF:aX Tryz.prog ke24:=cR (F:=cS) MB (by kernel_rfl)
def LU:List Ent:=ke24::LV
theorem MA:∀ e∈LU,aX Tryz.prog e:=cX XF MB
def ke25:Ent:=⟨119,[jJ,gf,(.farr 7 [eN,eM]),gJ,gI,iv],[(.ref [0,1] 0),xt,(.v (.int .i64 30))],⟨[],[],qZ⟩⟩
theorem XE:aX Tryz.prog ke25:=cR (F:=cS) MA (by kernel_rfl)
def LS:List Ent:=ke25::LU
theorem Mz:∀ e∈LS,aX Tryz.prog e:=cX XE MA
def Ei:D:=(.agg [(.v (.int .i64 1)),(.v (.int .i64 3))])
def ke26:Ent:=⟨119,[jJ,gf,(.farr 7 [eN,eM]),gJ,gI,iv],[(.ref [0,1] 0),Ei,(.v (.int .i64 30))],⟨[],[],qZ⟩⟩
theorem XD:aX Tryz.prog ke26:=cR (F:=cS) Mz (by kernel_rfl)
def LQ:List Ent:=ke26::LS
theorem My:∀ e∈LQ,aX Tryz.prog e:=cX XD Mz
def W2:D:=(.tup [(.v (.int .i64 2)),(.v (.int .i64 0))])
def ke27:Ent:=⟨17,[],[nW,(.v (.int .i64 1)),(.v (.int .i64 30)),(.v (.int .i64 60))],⟨[],[],W2⟩⟩
theorem XC:aX Tryz.prog ke27:=cR (F:=cS) My (by kernel_rfl)
def LP:List Ent:=ke27::LQ
theorem Mx:∀ e∈LP,aX Tryz.prog e:=cX XC My
def W1:D:=(.tup [(.v (.int .i64 0)),(.v (.int .i64 0))])
def ke28:Ent:=⟨16,[],[nW,(.v (.int .i64 10)),(.v (.int .i64 40)),(.v (.int .i64 60))],⟨[],[],W1⟩⟩
theorem XB:aX Tryz.prog ke28:=cR (F:=cS) Mx (by kernel_rfl)
def LO:List Ent:=ke28::LP
theorem Mw:∀ e∈LO,aX Tryz.prog e:=cX XB Mx
def ke29:Ent:=⟨80,[jJ,gf,(.farr 7 [eN,eM]),gJ,gI,iv],[(.ref [0,1] 0),Ah,(.v (.int .i64 19))],⟨[],[([601,0],(.arr 1 [(.int .i64 5)]))],(.msl [601,0] 1)⟩⟩
theorem XA:aX Tryz.prog ke29:=cR (F:=cS) Mw (by kernel_rfl)
def LM:List Ent:=ke29::LO
theorem Mu:∀ e∈LM,aX Tryz.prog e:=cX XA Mw
end Go.Eng
