import Derived.Test.YtepaolcgegdpoaaGreatK13
import Derived.KernelRfl
/- Texts Sane4 to Sane4. -/
set_option linter.all false
namespace Go.Eng
open Go Go.Proofs
def ke21:Ent:=⟨78,[fZ],[(.ref [0,1] 0),(.v (.int .i64 60))],⟨[],[([207,0,30,0,35,0],JM),([1135,0,30,0,35,0],(.farr 7 [eM,eK])),([5916,0,30,0,35,0],gC),([204,0,30,0,35,0],gB),([205,0,30,0,35,0],ib)],JN⟩⟩
theorem Wt:bb Tryz.prog ke21:=c9 (F:=db) KZ (by kernel_rfl)
def Kh:List Ent:=ke21::Ki
theorem KY:∀ e∈Kh,bb Tryz.prog e:=dg Wt KZ
def zf:D:=(.agg [(.v (.int .i64 1)),(.v (.int .i64 1))])
def C6:O:=(.arr 1 [(.int .i64 0),(.int .i64 5)])
def ke22:Ent:=⟨80,[jO,fZ,(.farr 7 [eM,eK]),gC,gB,ib],[(.ref [0,1] 0),zf,(.v (.int .i64 24))],⟨[],[([520,0],C6)],(.msl [520,0] 2)⟩⟩
theorem Ws:bb Tryz.prog ke22:=c9 (F:=db) KY (by kernel_rfl)
def Kg:List Ent:=ke22::Kh
theorem KX:∀ e∈Kg,bb Tryz.prog e:=dg Ws KY
def VN:D:=(.tup [(.msl [520,0,279,0] 2),(.v (.int .i64 0))])
def ke23:Ent:=⟨23,[],[nw,zf,(.v (.int .i64 24)),(.v (.int .i64 60))],⟨[],[([520,0,279,0],C6)],VN⟩⟩
theorem Wr:bb Tryz.prog ke23:=c9 (F:=db) KX (by kernel_rfl)
def Kf:List Ent:=ke23::Kg
theorem KW:∀ e∈Kf,bb Tryz.prog e:=dg Wr KX
def ke24:Ent:=⟨80,[jO,fZ,(.farr 7 [eM,eK]),gC,gB,ib],[(.ref [0,1] 0),zf,(.v (.int .i64 30))],⟨[],[([520,0],C6)],(.msl [520,0] 2)⟩⟩
theorem Wq:bb Tryz.prog ke24:=c9 (F:=db) KW (by kernel_rfl)
def Ke:List Ent:=ke24::Kf
theorem KV:∀ e∈Ke,bb Tryz.prog e:=dg Wq KW
def ke25:Ent:=⟨119,[jO,fZ,(.farr 7 [eM,eK]),gC,gB,ib],[(.ref [0,1] 0),wH,(.v (.int .i64 30))],⟨[],[],qL⟩⟩
theorem Wp:bb Tryz.prog ke25:=c9 (F:=db) KV (by kernel_rfl)
def Kd:List Ent:=ke25::Ke
theorem KU:∀ e∈Kd,bb Tryz.prog e:=dg Wp KV
def C8:D:=(.agg [(.v (.int .i64 1)),(.v (.int .i64 3))])
def ke26:Ent:=⟨119,[jO,fZ,(.farr 7 [eM,eK]),gC,gB,ib],[(.ref [0,1] 0),C8,(.v (.int .i64 30))],⟨[],[],qL⟩⟩
theorem Wo:bb Tryz.prog ke26:=c9 (F:=db) KU (by kernel_rfl)
def Kc:List Ent:=ke26::Kd
theorem KT:∀ e∈Kc,bb Tryz.prog e:=dg Wo KU
def VL:D:=(.tup [(.v (.int .i64 2)),(.v (.int .i64 0))])
def ke27:Ent:=⟨17,[],[nw,(.v (.int .i64 1)),(.v (.int .i64 30)),(.v (.int .i64 60))],⟨[],[],VL⟩⟩
theorem Wn:bb Tryz.prog ke27:=c9 (F:=db) KT (by kernel_rfl)
def Kb:List Ent:=ke27::Kc
theorem KR:∀ e∈Kb,bb Tryz.prog e:=dg Wn KT
def VK:D:=(.tup [(.v (.int .i64 0)),(.v (.int .i64 0))])
def ke28:Ent:=⟨16,[],[nw,(.v (.int .i64 10)),(.v (.int .i64 40)),(.v (.int .i64 60))],⟨[],[],VK⟩⟩
theorem Wm:bb Tryz.prog ke28:=c9 (F:=db) KR (by kernel_rfl)
def Ka:List Ent:=ke28::Kb
theorem KQ:∀ e∈Ka,bb Tryz.prog e:=dg Wm KR
def ke29:Ent:=⟨80,[jO,fZ,(.farr 7 [eM,eK]),gC,gB,ib],[(.ref [0,1] 0),zf,(.v (.int .i64 19))],⟨[],[([601,0],(.arr 1 [(.int .i64 5)]))],(.msl [601,0] 1)⟩⟩
theorem Wl:bb Tryz.prog ke29:=c9 (F:=db) KQ (by kernel_rfl)
def J9:List Ent:=ke29::Ka
theorem KO:∀ e∈J9,bb Tryz.prog e:=dg Wl KQ
end Go.Eng
