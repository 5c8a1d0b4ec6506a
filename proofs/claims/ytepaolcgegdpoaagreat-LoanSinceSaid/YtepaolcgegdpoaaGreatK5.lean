import Derived.Test.YtepaolcgegdpoaaGreatK4
import Derived.Test.YtepaolcgegdpoaaGreatProg
import Derived.KernelRfl
/- Texts L0 to LM1. -/
set_option linter.all false
namespace Go.Eng
open Go Go.Proofs
abbrev KS (K:List (Nat×Spec)):Prop:=∀ f s,tbl K f=some s->aL Tryz.prog f s
@[go_sem] theorem ta0:aX Tryz.prog 0=some (false,1):=by kernel_rfl
@[go_sem] theorem ta1:aX Tryz.prog 1=some (false,1):=by kernel_rfl
@[go_sem] theorem tz1:a8 Tryz.prog 1=some .nilFunc:=by kernel_rfl
@[go_sem] theorem ta2:aX Tryz.prog 2=some (false,1):=by kernel_rfl
@[go_sem] theorem ti2:lj Tryz.prog 2=some .i64:=by kernel_rfl
@[go_sem] theorem tz2:a8 Tryz.prog 2=some (.int .i64 0):=by kernel_rfl
@[go_sem] theorem v5:aX Tryz.prog 3=some (false,1):=by kernel_rfl
@[go_sem] theorem ti3:lj Tryz.prog 3=some .i64:=by kernel_rfl
@[go_sem] theorem tz3:a8 Tryz.prog 3=some (.int .i64 0):=by kernel_rfl
@[go_sem] theorem ta4:aX Tryz.prog 4=some (false,1):=by kernel_rfl
@[go_sem] theorem tz4:a8 Tryz.prog 4=some (.bool false):=by kernel_rfl
@[go_sem] theorem acU:aX Tryz.prog 18=some (true,1):=by kernel_rfl
@[go_sem] theorem aa5:gg Tryz.prog 18=some [(0,1)]:=by kernel_rfl
@[go_sem] theorem aaA:a8 Tryz.prog 18=some (.agg #[(.pointer none)]):=by kernel_rfl
@[go_sem] theorem ab1:bE Tryz.prog 18 0=some (0,1,false):=by kernel_rfl
@[go_sem] theorem acO:aX Tryz.prog 22=some (false,1):=by kernel_rfl
@[go_sem] theorem ack:bQ Tryz.prog 22=some (100,5,40):=by kernel_rfl
@[go_sem] theorem abl:cT Tryz.prog 22=some 0:=by kernel_rfl
@[go_sem] theorem aav:a8 Tryz.prog 22=some (.slice none 0 0):=by kernel_rfl
@[go_sem] theorem acN:aX Tryz.prog 23=some (false,1):=by kernel_rfl
@[go_sem] theorem acj:bQ Tryz.prog 23=some (131,7,56):=by kernel_rfl
@[go_sem] theorem abk:cT Tryz.prog 23=some 0:=by kernel_rfl
@[go_sem] theorem aau:a8 Tryz.prog 23=some (.slice none 0 0):=by kernel_rfl
@[go_sem] theorem acM:aX Tryz.prog 25=some (true,3):=by kernel_rfl
@[go_sem] theorem aa4:gg Tryz.prog 25=some [(0,1),(1,1),(2,1)]:=by kernel_rfl
@[go_sem] theorem aat:a8 Tryz.prog 25=some (.agg #[(.slice none 0 0),(.slice none 0 0),(.slice none 0 0)]):=by kernel_rfl
@[go_sem] theorem ab0:bE Tryz.prog 25 0=some (0,1,false):=by kernel_rfl
@[go_sem] theorem abZ:bE Tryz.prog 25 1=some (1,1,false):=by kernel_rfl
@[go_sem] theorem abY:bE Tryz.prog 25 2=some (2,1,false):=by kernel_rfl
@[go_sem] theorem acL:aX Tryz.prog 26=some (false,1):=by kernel_rfl
@[go_sem] theorem aci:bQ Tryz.prog 26=some (46,2,16):=by kernel_rfl
@[go_sem] theorem abj:cT Tryz.prog 26=some 0:=by kernel_rfl
@[go_sem] theorem aas:a8 Tryz.prog 26=some (.slice none 0 0):=by kernel_rfl
@[go_sem] theorem acK:aX Tryz.prog 27=some (false,1):=by kernel_rfl
@[go_sem] theorem ach:bQ Tryz.prog 27=some (36,7,72):=by kernel_rfl
@[go_sem] theorem abi:cT Tryz.prog 27=some 0:=by kernel_rfl
@[go_sem] theorem aar:a8 Tryz.prog 27=some (.slice none 0 0):=by kernel_rfl
@[go_sem] theorem acJ:aX Tryz.prog 28=some (false,1):=by kernel_rfl
@[go_sem] theorem acg:bQ Tryz.prog 28=some (40,8,80):=by kernel_rfl
@[go_sem] theorem abh:cT Tryz.prog 28=some 0:=by kernel_rfl
@[go_sem] theorem aaq:a8 Tryz.prog 28=some (.slice none 0 0):=by kernel_rfl
@[go_sem] theorem acI:aX Tryz.prog 29=some (false,1):=by kernel_rfl
@[go_sem] theorem Ej:bQ Tryz.prog 29=some (81,7,56):=by kernel_rfl
@[go_sem] theorem abg:cT Tryz.prog 29=some 0:=by kernel_rfl
@[go_sem] theorem aap:a8 Tryz.prog 29=some (.slice none 0 0):=by kernel_rfl
@[go_sem] theorem acH:aX Tryz.prog 31=some (true,4):=by kernel_rfl
@[go_sem] theorem aa3:gg Tryz.prog 31=some [(0,1),(1,1),(2,1),(3,1)]:=by kernel_rfl
@[go_sem] theorem aao:a8 Tryz.prog 31=some (.agg #[(.slice none 0 0),(.slice none 0 0),(.slice none 0 0),(.slice none 0 0)]):=by kernel_rfl
@[go_sem] theorem abX:bE Tryz.prog 31 0=some (0,1,false):=by kernel_rfl
@[go_sem] theorem abW:bE Tryz.prog 31 1=some (1,1,false):=by kernel_rfl
@[go_sem] theorem abV:bE Tryz.prog 31 2=some (2,1,false):=by kernel_rfl
@[go_sem] theorem abU:bE Tryz.prog 31 3=some (3,1,false):=by kernel_rfl
@[go_sem] theorem acG:aX Tryz.prog 32=some (false,1):=by kernel_rfl
@[go_sem] theorem acf:bQ Tryz.prog 32=some (3,1,8):=by kernel_rfl
@[go_sem] theorem abf:cT Tryz.prog 32=some 0:=by kernel_rfl
@[go_sem] theorem aan:a8 Tryz.prog 32=some (.slice none 0 0):=by kernel_rfl
@[go_sem] theorem acF:aX Tryz.prog 33=some (false,1):=by kernel_rfl
@[go_sem] theorem acE:aX Tryz.prog 36=some (true,7):=by kernel_rfl
@[go_sem] theorem aa2:gg Tryz.prog 36=some [(0,1),(1,1),(2,1),(3,1),(4,1),(5,1),(6,1)]:=by kernel_rfl
@[go_sem] theorem aam:a8 Tryz.prog 36=some (.agg #[(.int .i64 0),(.int .i64 0),(.int .i64 0),(.slice none 0 0),(.int .i64 0),(.int .i64 0),(.int .i64 0)]):=by kernel_rfl
@[go_sem] theorem abT:bE Tryz.prog 36 0=some (0,1,false):=by kernel_rfl
@[go_sem] theorem abS:bE Tryz.prog 36 1=some (1,1,false):=by kernel_rfl
@[go_sem] theorem abR:bE Tryz.prog 36 2=some (2,1,false):=by kernel_rfl
@[go_sem] theorem abQ:bE Tryz.prog 36 3=some (3,1,false):=by kernel_rfl
@[go_sem] theorem abP:bE Tryz.prog 36 4=some (4,1,false):=by kernel_rfl
@[go_sem] theorem abO:bE Tryz.prog 36 5=some (5,1,false):=by kernel_rfl
@[go_sem] theorem abN:bE Tryz.prog 36 6=some (6,1,false):=by kernel_rfl
@[go_sem] theorem acD:aX Tryz.prog 38=some (true,2):=by kernel_rfl
@[go_sem] theorem aa1:gg Tryz.prog 38=some [(0,1),(1,1)]:=by kernel_rfl
@[go_sem] theorem aal:a8 Tryz.prog 38=some (.agg #[(.int .i64 0),(.int .i64 0)]):=by kernel_rfl
@[go_sem] theorem abM:bE Tryz.prog 38 0=some (0,1,false):=by kernel_rfl
@[go_sem] theorem abL:bE Tryz.prog 38 1=some (1,1,false):=by kernel_rfl
@[go_sem] theorem acC:aX Tryz.prog 40=some (true,8):=by kernel_rfl
@[go_sem] theorem aa0:gg Tryz.prog 40=some [(0,1),(1,1),(2,1),(3,1),(4,2),(6,1),(7,1)]:=by kernel_rfl
@[go_sem] theorem aak:a8 Tryz.prog 40=some (.agg #[(.int .i64 0),(.int .i64 0),(.int .i64 0),(.slice none 0 0),(.int .i64 0),(.int .i64 0),(.int .i64 0),(.int .i64 0)]):=by kernel_rfl
@[go_sem] theorem abK:bE Tryz.prog 40 0=some (0,1,false):=by kernel_rfl
@[go_sem] theorem abJ:bE Tryz.prog 40 1=some (1,1,false):=by kernel_rfl
@[go_sem] theorem abI:bE Tryz.prog 40 2=some (2,1,false):=by kernel_rfl
@[go_sem] theorem abH:bE Tryz.prog 40 3=some (3,1,false):=by kernel_rfl
@[go_sem] theorem abG:bE Tryz.prog 40 4=some (4,2,true):=by kernel_rfl
@[go_sem] theorem abF:bE Tryz.prog 40 5=some (6,1,false):=by kernel_rfl
@[go_sem] theorem abE:bE Tryz.prog 40 6=some (7,1,false):=by kernel_rfl
@[go_sem] theorem acB:aX Tryz.prog 42=some (false,1):=by kernel_rfl
@[go_sem] theorem abq:lj Tryz.prog 42=some .i64:=by kernel_rfl
@[go_sem] theorem aaj:a8 Tryz.prog 42=some (.int .i64 0):=by kernel_rfl
@[go_sem] theorem acA:aX Tryz.prog 43=some (false,1):=by kernel_rfl
@[go_sem] theorem acz:aX Tryz.prog 46=some (true,2):=by kernel_rfl
@[go_sem] theorem aaZ:gg Tryz.prog 46=some [(0,1),(1,1)]:=by kernel_rfl
@[go_sem] theorem aai:a8 Tryz.prog 46=some (.agg #[(.int .i64 0),(.int .i64 0)]):=by kernel_rfl
@[go_sem] theorem abD:bE Tryz.prog 46 0=some (0,1,false):=by kernel_rfl
@[go_sem] theorem abC:bE Tryz.prog 46 1=some (1,1,false):=by kernel_rfl
@[go_sem] theorem acy:aX Tryz.prog 51=some (false,1):=by kernel_rfl
@[go_sem] theorem ace:bQ Tryz.prog 51=some (56,2,16):=by kernel_rfl
@[go_sem] theorem abe:cT Tryz.prog 51=some 0:=by kernel_rfl
@[go_sem] theorem aah:a8 Tryz.prog 51=some (.slice none 0 0):=by kernel_rfl
@[go_sem] theorem acx:aX Tryz.prog 52=some (false,1):=by kernel_rfl
@[go_sem] theorem acw:aX Tryz.prog 56=some (true,2):=by kernel_rfl
@[go_sem] theorem aaY:gg Tryz.prog 56=some [(0,1),(1,1)]:=by kernel_rfl
@[go_sem] theorem aag:a8 Tryz.prog 56=some (.agg #[(.int .i64 0),(.int .i64 0)]):=by kernel_rfl
@[go_sem] theorem abB:bE Tryz.prog 56 0=some (0,1,false):=by kernel_rfl
@[go_sem] theorem abA:bE Tryz.prog 56 1=some (1,1,false):=by kernel_rfl
@[go_sem] theorem acv:aX Tryz.prog 57=some (false,1):=by kernel_rfl
@[go_sem] theorem acu:aX Tryz.prog 65=some (false,1):=by kernel_rfl
@[go_sem] theorem acs:aX Tryz.prog 78=some (true,4):=by kernel_rfl
@[go_sem] theorem aaT:iy Tryz.prog 78=some (4,1,false):=by kernel_rfl
@[go_sem] theorem aaX:gg Tryz.prog 78=some [(0,1),(1,1),(2,1),(3,1)]:=by kernel_rfl
@[go_sem] theorem aaf:a8 Tryz.prog 78=some (.agg #[(.int .i64 0),(.int .i64 0),(.int .i64 0),(.int .i64 0)]):=by kernel_rfl
@[go_sem] theorem acr:aX Tryz.prog 81=some (true,7):=by kernel_rfl
@[go_sem] theorem aaW:gg Tryz.prog 81=some [(0,1),(1,1),(2,1),(3,1),(4,1),(5,1),(6,1)]:=by kernel_rfl
@[go_sem] theorem MP:a8 Tryz.prog 81=some (.agg #[(.int .i64 0),(.int .i64 0),(.int .i64 0),(.int .i64 0),(.int .i64 0),(.int .i64 0),(.int .i64 0)]):=by kernel_rfl
@[go_sem] theorem abz:bE Tryz.prog 81 0=some (0,1,false):=by kernel_rfl
@[go_sem] theorem aby:bE Tryz.prog 81 1=some (1,1,false):=by kernel_rfl
@[go_sem] theorem abx:bE Tryz.prog 81 2=some (2,1,false):=by kernel_rfl
@[go_sem] theorem abw:bE Tryz.prog 81 3=some (3,1,false):=by kernel_rfl
@[go_sem] theorem abv:bE Tryz.prog 81 4=some (4,1,false):=by kernel_rfl
@[go_sem] theorem abu:bE Tryz.prog 81 5=some (5,1,false):=by kernel_rfl
@[go_sem] theorem abt:bE Tryz.prog 81 6=some (6,1,false):=by kernel_rfl
@[go_sem] theorem acq:aX Tryz.prog 95=some (false,1):=by kernel_rfl
@[go_sem] theorem aae:a8 Tryz.prog 95=some .nilFunc:=by kernel_rfl
@[go_sem] theorem acp:aX Tryz.prog 96=some (false,1):=by kernel_rfl
@[go_sem] theorem aad:a8 Tryz.prog 96=some .nilFunc:=by kernel_rfl
@[go_sem] theorem aco:aX Tryz.prog 97=some (false,1):=by kernel_rfl
@[go_sem] theorem aac:a8 Tryz.prog 97=some .nilFunc:=by kernel_rfl
@[go_sem] theorem acn:aX Tryz.prog 98=some (false,1):=by kernel_rfl
@[go_sem] theorem aab:a8 Tryz.prog 98=some .nilFunc:=by kernel_rfl
@[go_sem] theorem adh:aX Tryz.prog 100=some (true,5):=by kernel_rfl
@[go_sem] theorem aaV:iy Tryz.prog 100=some (5,1,false):=by kernel_rfl
@[go_sem] theorem aa':gg Tryz.prog 100=some [(0,1),(1,1),(2,1),(3,1),(4,1)]:=by kernel_rfl
@[go_sem] theorem aaS:a8 Tryz.prog 100=some (.agg #[(.int .i64 0),(.int .i64 0),(.int .i64 0),(.int .i64 0),(.int .i64 0)]):=by kernel_rfl
@[go_sem] theorem adg:aX Tryz.prog 103=some (false,1):=by kernel_rfl
@[go_sem] theorem acm:bQ Tryz.prog 103=some (4,1,1):=by kernel_rfl
@[go_sem] theorem abp:cT Tryz.prog 103=some 0:=by kernel_rfl
@[go_sem] theorem aaR:a8 Tryz.prog 103=some (.slice none 0 0):=by kernel_rfl
@[go_sem] theorem adf:aX Tryz.prog 108=some (true,7):=by kernel_rfl
@[go_sem] theorem aa9:gg Tryz.prog 108=some [(0,4),(4,1),(5,1),(6,1)]:=by kernel_rfl
@[go_sem] theorem aaQ:a8 Tryz.prog 108=some (.agg #[(.slice none 0 0),(.slice none 0 0),(.slice none 0 0),(.slice none 0 0),(.int .i64 0),(.slice none 0 0),(.slice none 0 0)]):=by kernel_rfl
@[go_sem] theorem acb:bE Tryz.prog 108 0=some (0,4,true):=by kernel_rfl
@[go_sem] theorem aca:bE Tryz.prog 108 1=some (4,1,false):=by kernel_rfl
@[go_sem] theorem ab':bE Tryz.prog 108 2=some (5,1,false):=by kernel_rfl
@[go_sem] theorem ab9:bE Tryz.prog 108 3=some (6,1,false):=by kernel_rfl
@[go_sem] theorem ade:aX Tryz.prog 112=some (false,1):=by kernel_rfl
@[go_sem] theorem adb:aX Tryz.prog 113=some (false,1):=by kernel_rfl
@[go_sem] theorem aaP:a8 Tryz.prog 113=some (.pointer none):=by kernel_rfl
@[go_sem] theorem ada:aX Tryz.prog 115=some (false,1):=by kernel_rfl
@[go_sem] theorem aaO:a8 Tryz.prog 115=some (.pointer none):=by kernel_rfl
@[go_sem] theorem ac':aX Tryz.prog 117=some (false,1):=by kernel_rfl
@[go_sem] theorem ac9:aX Tryz.prog 119=some (false,1):=by kernel_rfl
@[go_sem] theorem ac8:aX Tryz.prog 120=some (false,1):=by kernel_rfl
@[go_sem] theorem abo:cT Tryz.prog 120=some 2:=by kernel_rfl
@[go_sem] theorem abd:i5 Tryz.prog 120=some (2,3):=by kernel_rfl
@[go_sem] theorem aaN:a8 Tryz.prog 120=some (.map none):=by kernel_rfl
@[go_sem] theorem ac7:aX Tryz.prog 121=some (false,1):=by kernel_rfl
@[go_sem] theorem abn:cT Tryz.prog 121=some 2:=by kernel_rfl
@[go_sem] theorem abb:i5 Tryz.prog 121=some (0,38):=by kernel_rfl
@[go_sem] theorem aaM:a8 Tryz.prog 121=some (.map none):=by kernel_rfl
@[go_sem] theorem ac6:aX Tryz.prog 123=some (true,5):=by kernel_rfl
@[go_sem] theorem aa8:gg Tryz.prog 123=some [(0,1),(1,1),(2,1),(3,1),(4,1)]:=by kernel_rfl
@[go_sem] theorem aaL:a8 Tryz.prog 123=some (.agg #[(.pointer none),(.slice none 0 0),(.slice none 0 0),(.map none),(.map none)]):=by kernel_rfl
@[go_sem] theorem ab8:bE Tryz.prog 123 0=some (0,1,false):=by kernel_rfl
@[go_sem] theorem ab7:bE Tryz.prog 123 1=some (1,1,false):=by kernel_rfl
@[go_sem] theorem ab6:bE Tryz.prog 123 2=some (2,1,false):=by kernel_rfl
@[go_sem] theorem ab5:bE Tryz.prog 123 3=some (3,1,false):=by kernel_rfl
@[go_sem] theorem ab4:bE Tryz.prog 123 4=some (4,1,false):=by kernel_rfl
@[go_sem] theorem ac5:aX Tryz.prog 125=some (true,2):=by kernel_rfl
@[go_sem] theorem aa7:gg Tryz.prog 125=some [(0,1),(1,1)]:=by kernel_rfl
@[go_sem] theorem aaK:a8 Tryz.prog 125=some (.agg #[(.int .i64 0),(.int .i64 0)]):=by kernel_rfl
@[go_sem] theorem ab3:bE Tryz.prog 125 0=some (0,1,false):=by kernel_rfl
@[go_sem] theorem ab2:bE Tryz.prog 125 1=some (1,1,false):=by kernel_rfl
@[go_sem] theorem ac4:aX Tryz.prog 131=some (true,7):=by kernel_rfl
@[go_sem] theorem aaU:iy Tryz.prog 131=some (7,1,false):=by kernel_rfl
@[go_sem] theorem aa6:gg Tryz.prog 131=some [(0,1),(1,1),(2,1),(3,1),(4,1),(5,1),(6,1)]:=by kernel_rfl
@[go_sem] theorem aaJ:a8 Tryz.prog 131=some (.agg #[(.int .i64 0),(.int .i64 0),(.int .i64 0),(.int .i64 0),(.int .i64 0),(.int .i64 0),(.int .i64 0)]):=by kernel_rfl
@[go_sem] theorem ac3:aX Tryz.prog 135=some (false,1):=by kernel_rfl
@[go_sem] theorem aaI:a8 Tryz.prog 135=some .nilFunc:=by kernel_rfl
@[go_sem] theorem ac2:aX Tryz.prog 139=some (false,1):=by kernel_rfl
@[go_sem] theorem aaH:a8 Tryz.prog 139=some .nilFunc:=by kernel_rfl
@[go_sem] theorem ac1:aX Tryz.prog 153=some (false,1):=by kernel_rfl
@[go_sem] theorem aaG:a8 Tryz.prog 153=some .nilFunc:=by kernel_rfl
@[go_sem] theorem ac0:aX Tryz.prog 155=some (false,1):=by kernel_rfl
@[go_sem] theorem aaF:a8 Tryz.prog 155=some .nilFunc:=by kernel_rfl
@[go_sem] theorem acZ:aX Tryz.prog 157=some (false,1):=by kernel_rfl
@[go_sem] theorem aaE:a8 Tryz.prog 157=some .nilFunc:=by kernel_rfl
@[go_sem] theorem acY:aX Tryz.prog 159=some (false,1):=by kernel_rfl
@[go_sem] theorem aaD:a8 Tryz.prog 159=some .nilFunc:=by kernel_rfl
@[go_sem] theorem acX:aX Tryz.prog 160=some (false,1):=by kernel_rfl
@[go_sem] theorem abm:cT Tryz.prog 160=some 2:=by kernel_rfl
@[go_sem] theorem aba:i5 Tryz.prog 160=some (0,4):=by kernel_rfl
@[go_sem] theorem aaC:a8 Tryz.prog 160=some (.map none):=by kernel_rfl
@[go_sem] theorem acW:aX Tryz.prog 161=some (false,1):=by kernel_rfl
@[go_sem] theorem aaB:a8 Tryz.prog 161=some .nilFunc:=by kernel_rfl
@[go_sem] theorem acV:aX Tryz.prog 164=some (false,1):=by kernel_rfl
@[go_sem] theorem acT:aX Tryz.prog 186=some (false,1):=by kernel_rfl
@[go_sem] theorem aaz:a8 Tryz.prog 186=some .nilFunc:=by kernel_rfl
@[go_sem] theorem acS:aX Tryz.prog 188=some (false,1):=by kernel_rfl
@[go_sem] theorem aay:a8 Tryz.prog 188=some .nilFunc:=by kernel_rfl
@[go_sem] theorem acR:aX Tryz.prog 191=some (false,1):=by kernel_rfl
@[go_sem] theorem aax:a8 Tryz.prog 191=some .nilFunc:=by kernel_rfl
@[go_sem] theorem acQ:aX Tryz.prog 205=some (false,1):=by kernel_rfl
@[go_sem] theorem acP:aX Tryz.prog 208=some (false,1):=by kernel_rfl
@[go_sem] theorem abr:lj Tryz.prog 208=some .u64:=by kernel_rfl
@[go_sem] theorem aaw:a8 Tryz.prog 208=some (.int .u64 0):=by kernel_rfl
theorem fB:Tryz.prog.follows .mixedOrders=true:=by kernel_rfl
structure Pap where
 (id lv:Int)
 deriving Inhabited,DecidableEq
structure Rec where
 (so bo pa:Int)
 lv:List Int
 (da kn un:Int)
 deriving Inhabited,DecidableEq
structure Ret where
 (so re pe:Int)
 lv:List Int
 (lo hi kn un:Int)
 deriving Inhabited,DecidableEq
structure Sig where
 (so pe pa le da kn un:Int)
 deriving Inhabited,DecidableEq
structure Led where
 ps:List Pap
 rs:List Rec
 ts:List Ret
 ss:List Sig
 deriving Inhabited,DecidableEq
def iW:V->Int
 | .int _ n=>n
 |_=>0
def yt:V->Bool
 | .bool b=>b
 |_=>false
def Ku:V->List Int
 | .sl l=>l.map iW
 |_=>[]
def cK(p:Pap):V:=.agg [vInt p.id,vInt p.lv]
def pc:V->Pap
 | .agg [.int _ a,.int _ b]=>⟨a,b⟩
 |_=>default
def encR(r:Rec):V:=.agg [vInt r.so,vInt r.bo,vInt r.pa,.sl (r.lv.map vInt),vInt r.da,vInt r.kn,vInt r.un]
def jt:V->Rec
 | .agg [.int _ a,.int _ b,.int _ c,.sl l,.int _ d,.int _ e,.int _ f]=>⟨a,b,c,l.map iW,d,e,f⟩
 |_=>default
def c9(r:Ret):V:=.agg [vInt r.so,vInt r.re,vInt r.pe,.sl (r.lv.map vInt),vInt r.lo,vInt r.hi,vInt r.kn,vInt r.un]
def kL:V->Ret
 | .agg [.int _ a,.int _ b,.int _ c,.sl l,.int _ d,.int _ g,.int _ e,.int _ f]=>⟨a,b,c,l.map iW,d,g,e,f⟩
 |_=>default
def encS(s:Sig):V:=.agg [vInt s.so,vInt s.pe,vInt s.pa,vInt s.le,vInt s.da,vInt s.kn,vInt s.un]
def ig:V->Sig
 | .agg [.int _ a,.int _ b,.int _ c,.int _ d,.int _ e,.int _ f,.int _ g]=>⟨a,b,c,d,e,f,g⟩
 |_=>default
def fY(l:Led):V:=.agg [.sl (l.ps.map cK),.sl (l.rs.map encR),.sl (l.ts.map c9),.sl (l.ss.map encS)]
def Ks:V->Led
 | .agg [.sl a,.sl b,.sl c,.sl d]=>⟨a.map pc,b.map jt,c.map kL,d.map ig⟩
 |_=>default
def ie(l:Led):V:=.ptr [.sl (l.ps.map cK),.sl (l.rs.map encR),.sl (l.ts.map c9),.sl (l.ss.map encS)]
def yp:V->Led
 | .ptr [.sl a,.sl b,.sl c,.sl d]=>⟨a.map pc,b.map jt,c.map kL,d.map ig⟩
 |_=>default
@[go_sem] theorem pf(l:List Int):(l.map vInt).map iW=l:=by rw[List.map_map];exact List.map_id _
@[go_sem] theorem adC(l:List Bool):(l.map V.bool).map yt=l:=by rw[List.map_map];exact List.map_id _
theorem VZ(p:Pap):pc (cK p)=p:=rfl
theorem VU(r:Rec):jt (encR r)=r:=by
 cases r;simp only[encR,jt,pf]
theorem VP(r:Ret):kL (c9 r)=r:=by
 cases r;simp only[c9,kL,pf]
theorem VR(r:Sig):ig (encS r)=r:=rfl
theorem oH{α:Type}{e:α->V}{d:V->α}(h:∀ a,d (e a)=a)(l:List α):(l.map e).map d=l:=by
 rw[List.map_map]
 have :d∘e=id:=funext h
 rw[this,List.map_id]
@[go_sem] theorem Kq(l:List Pap):(l.map cK).map pc=l:=oH VZ l
@[go_sem] theorem yn(l:List Rec):(l.map encR).map jt=l:=oH VU l
@[go_sem] theorem Ko(l:List Ret):(l.map c9).map kL=l:=oH VP l
@[go_sem] theorem sQ(l:List Sig):(l.map encS).map ig=l:=oH VR l
@[go_sem] theorem adw(p:Pap):(⟨p.id,p.lv⟩:Pap)=p:=rfl
@[go_sem] theorem adv(r:Rec):(⟨r.so,r.bo,r.pa,r.lv,r.da,r.kn,r.un⟩:Rec)=r:=rfl
@[go_sem] theorem adq(r:Ret):(⟨r.so,r.re,r.pe,r.lv,r.lo,r.hi,r.kn,r.un⟩:Ret)=r:=rfl
@[go_sem] theorem adr(r:Sig):(⟨r.so,r.pe,r.pa,r.le,r.da,r.kn,r.un⟩:Sig)=r:=rfl
@[go_sem] theorem ady(l:Led):(⟨l.ps,l.rs,l.ts,l.ss⟩:Led)=l:=rfl
def iI:En Int:=⟨vInt,iW⟩
def iB:En Bool:=⟨.bool,yt⟩
def ev:En (List Int):=⟨fun l=>.sl (l.map vInt),Ku⟩
def iP:En Pap:=⟨cK,pc⟩
def iR:En Rec:=⟨encR,jt⟩
def iT:En Ret:=⟨c9,kL⟩
def iS:En Sig:=⟨encS,ig⟩
def iL:En Led:=⟨fY,Ks⟩
def lG:En Led:=⟨ie,yp⟩
attribute [go_sem] iI iB ev iP iR iT iS iL lG iW yt Ku cK pc encR jt c9 kL encS ig fY Ks ie yp
def b8(n lo hi:Int):Bool:=decide (lo<=n)&&decide (n<=hi)
def dayB(n:Int):Bool:=b8 n 0 100000
noncomputable section
@[go_sem] def P96:PSpec:=p3 iI iI iI (fun _ _ _=>True) (fun n lo hi=>.bool (b8 n lo hi)) true
@[go_sem] def qZ:Spec:=P96.toSpec
theorem tD:aU Tryz.prog 96 P96:=by
 refine mY (rs:=[.tmp 6]) Tryz.func96 Tryz.ntmps96 fun n lo hi hp hw=>?_
 simp only[iI]at hw |-
 have hΓ:=@eT Tryz.prog
 repeat refine sq ?_
 refine rs hΓ [0,1,2] [] ?_
 repeat refine sq ?_
 refine rs hΓ [6] [] ?_
 refine ay ?_
 simp only[go_sem]
 all_goals exact dp
@[go_sem] def P189:PSpec:=p1 iI (fun _=>True) (fun _=>.bool false) true
@[go_sem] def XA:Spec:=P189.toSpec
theorem Oa:aU Tryz.prog 189 P189:=by
 refine fw (rs:=[.tmp 2]) Tryz.func189 Tryz.ntmps189 fun n hp hw=>?_
 simp only[iI]at hw |-
 have hΓ:=@eT Tryz.prog
 repeat refine sq ?_
 refine rs hΓ [0] [] ?_
 repeat refine sq ?_
 refine rs hΓ [2] [] ?_
 refine ay ?_
 simp only[go_sem]
 all_goals exact dp
def K1:List (Nat×Spec):=[(96,qZ),(189,XA)]
theorem s9:KS K1:=tc tD.sound<|tc Oa.sound<|tn
attribute [go_sem] K1
@[go_sem] def P144:PSpec:=p1 iI (fun _=>True) (fun n=>.bool (b8 n 1 999)) true
@[go_sem] def L9:Spec:=P144.toSpec
theorem EO:aU Tryz.prog 144 P144:=by
 refine fw (rs:=[.tmp 2]) Tryz.func144 Tryz.ntmps144 fun n hp hw=>?_
 simp only[iI]at hw |-
 have hΓ:=s9
 repeat refine sq ?_
 refine rs hΓ [0] [] ?_
 repeat refine sq ?_
 refine rs hΓ [2] [] ?_
 refine ay ?_
 simp only[go_sem]
 all_goals exact dp
@[go_sem] def P145:PSpec:=p1 iI (fun _=>True) (fun n=>.bool (b8 n 1 30)) true
@[go_sem] def DN:Spec:=P145.toSpec
theorem zV:aU Tryz.prog 145 P145:=by
 refine fw (rs:=[.tmp 2]) Tryz.func145 Tryz.ntmps145 fun n hp hw=>?_
 simp only[iI]at hw |-
 have hΓ:=s9
 repeat refine sq ?_
 refine rs hΓ [0] [] ?_
 repeat refine sq ?_
 refine rs hΓ [2] [] ?_
 refine ay ?_
 simp only[go_sem]
 all_goals exact dp
@[go_sem] def P147:PSpec:=p1 iI (fun _=>True) (fun n=>.bool (b8 n 1 99999)) true
@[go_sem] def L8:Spec:=P147.toSpec
theorem EN:aU Tryz.prog 147 P147:=by
 refine fw (rs:=[.tmp 2]) Tryz.func147 Tryz.ntmps147 fun n hp hw=>?_
 simp only[iI]at hw |-
 have hΓ:=s9
 repeat refine sq ?_
 refine rs hΓ [0] [] ?_
 repeat refine sq ?_
 refine rs hΓ [2] [] ?_
 refine ay ?_
 simp only[go_sem]
 all_goals exact dp
@[go_sem] def P148:PSpec:=p1 iI (fun _=>True) (fun n=>.bool (b8 n 1 99)) true
@[go_sem] def L7:Spec:=P148.toSpec
theorem EM:aU Tryz.prog 148 P148:=by
 refine fw (rs:=[.tmp 2]) Tryz.func148 Tryz.ntmps148 fun n hp hw=>?_
 simp only[iI]at hw |-
 have hΓ:=s9
 repeat refine sq ?_
 refine rs hΓ [0] [] ?_
 repeat refine sq ?_
 refine rs hΓ [2] [] ?_
 refine ay ?_
 simp only[go_sem]
 all_goals exact dp
@[go_sem] def P150:PSpec:=p1 iI (fun _=>True) (fun n=>.bool (dayB n)) true
@[go_sem] def DM:Spec:=P150.toSpec
theorem zU:aU Tryz.prog 150 P150:=by
 refine fw (rs:=[.tmp 2]) Tryz.func150 Tryz.ntmps150 fun n hp hw=>?_
 simp only[iI]at hw |-
 have hΓ:=s9
 repeat refine sq ?_
 refine rs hΓ [0] [] ?_
 repeat refine sq ?_
 refine rs hΓ [2] [] ?_
 refine ay ?_
 simp only[go_sem]
 all_goals exact dp
def kM(a b:Int):Int:=if a<b then -1 else if b<a then 1 else 0
@[go_sem] def P140:PSpec:=p2 iI iI (fun _ _=>True) (fun a b=>vInt (kM a b)) true
@[go_sem] def XI:Spec:=P140.toSpec
theorem Ow:aU Tryz.prog 140 P140:=by
 refine dV (rs:=[.tmp 4]) Tryz.func140 Tryz.ntmps140 fun a b hp hw=>?_
 simp only[iI]at hw |-
 have hΓ:=s9
 repeat refine sq ?_
 refine rs hΓ [0,1] [] ?_
 repeat refine sq ?_
 refine rs hΓ [0,1,5] [] ?_
 repeat refine sq ?_
 refine rs hΓ [0,1,5,6] [] ?_
 repeat refine sq ?_
 refine rs hΓ [0,1,6,11] [] ?_
 repeat refine dT ?_
 refine aB (fun hb=>?_) fun hb=>?_
 ·repeat refine dT ?_
  repeat refine sq ?_
  refine rs hΓ [12] [] ?_
  repeat refine dT ?_
  refine aB (fun hb=>?_) fun hb=>?_
  ·repeat refine dT ?_
   repeat refine sq ?_
   refine rs hΓ [4] [] ?_
   refine ay ?_
   simp only[go_sem]
   all_goals first | rfl | (simp;done) | (grind [kM];done)
  ·repeat refine dT ?_
   refine aG ?_
   repeat refine sq ?_
   refine rs hΓ [4] [] ?_
   refine ay ?_
   simp only[go_sem]
   all_goals first | rfl | (simp;done) | (grind [kM];done)
 ·repeat refine dT ?_
  refine aG ?_
  repeat refine sq ?_
  refine rs hΓ [0,1,13] [] ?_
  repeat refine dT ?_
  refine aB (fun hb=>?_) fun hb=>?_
  ·repeat refine dT ?_
   repeat refine sq ?_
   refine rs hΓ [4] [] ?_
   refine ay ?_
   simp only[go_sem]
   all_goals first | rfl | (simp;done) | (grind [kM];done)
  ·repeat refine dT ?_
   refine aG ?_
   repeat refine sq ?_
   refine rs hΓ [0,1,16] [] ?_
   repeat refine dT ?_
   refine aB (fun hb=>?_) fun hb=>?_
   ·repeat refine dT ?_
    repeat refine sq ?_
    refine rs hΓ [4] [] ?_
    refine ay ?_
    simp only[go_sem]
    all_goals first | rfl | (simp;done) | (grind [kM];done)
   ·repeat refine dT ?_
    refine aG ?_
    repeat refine sq ?_
    refine rs hΓ [19] [] ?_
    repeat refine dT ?_
    refine aB (fun hb=>?_) fun hb=>?_
    ·repeat refine dT ?_
     repeat refine sq ?_
     refine rs hΓ [4] [] ?_
     refine ay ?_
     simp only[go_sem]
     all_goals first | rfl | (simp;done) | (grind [kM];done)
    ·repeat refine dT ?_
     refine aG ?_
     repeat refine sq ?_
     refine rs hΓ [4] [] ?_
     refine ay ?_
     simp only[go_sem]
     all_goals first | rfl | (simp;done) | (grind [kM];done)
def cQ(since Ed known:Int):Bool:=decide (since<=known)&&(Ed==0||decide (known<Ed))
@[go_sem] def P157:PSpec:=p3 iI iI iI (fun _ _ _=>True) (fun a b c=>.bool (cQ a b c)) true
@[go_sem] def zi:Spec:=P157.toSpec
theorem zT:aU Tryz.prog 157 P157:=by
 refine mY (rs:=[.tmp 6]) Tryz.func157 Tryz.ntmps157 fun a b c hp hw=>?_
 simp only[iI]at hw |-
 have hΓ:=@eT Tryz.prog
 repeat refine sq ?_
 refine rs hΓ [0,1,2] [] ?_
 repeat refine sq ?_
 refine rs hΓ [6] [] ?_
 refine ay ?_
 simp only[go_sem]
 all_goals first | rfl | (simp;done) | (grind [cQ];done)
@[go_sem] def P162:PSpec:=p3 iI iI iI (fun _ _ _=>True) (fun a b c=>.bool (cQ a b c)) true
@[go_sem] def S162:Spec:=P162.toSpec
theorem Om:aU Tryz.prog 162 P162:=by
 refine mY (rs:=[.tmp 6]) Tryz.func162 Tryz.ntmps162 fun a b c hp hw=>?_
 simp only[iI]at hw |-
 have hΓ:=@eT Tryz.prog
 repeat refine sq ?_
 refine rs hΓ [0,1,2] [] ?_
 repeat refine sq ?_
 refine rs hΓ [6] [] ?_
 refine ay ?_
 simp only[go_sem]
 all_goals first | rfl | (simp;done) | (grind [cQ];done)
theorem Ik:aL Tryz.prog 162 S162:=Om.sound
end
noncomputable section
def kf(k u:Int):Bool:=dayB k&&(u==0||(decide (k<u)&&decide (u<=100000)))
def K2:List (Nat×Spec):=[(96,qZ),(145,DN),(150,DM),(144,L9),(147,L8),(148,L7)]
theorem Za:KS K2:=tc tD.sound<|tc zV.sound<|tc zU.sound<|tc EO.sound<|tc EN.sound<|tc EM.sound<|tn
attribute [go_sem] K2
theorem MT(k u:Int):(dayB k&&(u==0||b8 u (IntKind.i64.wrap (k+1)) 100000))=kf k u:=by
 unfold kf
 cases h:dayB k with
 |false=>rfl
 |true=>
  unfold dayB b8 at h
  simp only[Bool.and_eq_true,decide_eq_true_eq]at h
  rw[wrap_i64 (by omega) (by omega)]
  unfold b8
  simp only[Bool.true_and]
  congr 2
@[go_sem] def P151:PSpec:=p2 iI iI (fun _ _=>True) (fun a b=>.bool (kf a b)) true
@[go_sem] def XG:Spec:=P151.toSpec
theorem Ou:aU Tryz.prog 151 P151:=by
 refine dV (rs:=[.tmp 4]) Tryz.func151 Tryz.ntmps151 fun k u hp hw=>?_
 simp only[iI]at hw |-
 have hΓ:=Za
 repeat refine sq ?_
 refine rs hΓ [0,1] [] ?_
 repeat refine sq ?_
 refine rs hΓ [4] [] ?_
 refine ay ?_
 simp only[go_sem]
 all_goals first | rfl | (simp;done) | (exact congrArg V.bool (MT _ _);done)
open Classical in
def pL(l:List Int):Bool:=decide (∀ j (h:j<l.length),0<j->l[j-1] <l[j])
theorem wm{l:List Int}:pL l=true↔∀ j (h:j<l.length),0<j->l[j-1] <l[j]:=by unfold pL;exact decide_eq_true_iff
theorem OX{l:List Int}{j:Nat}(h:j<l.length)(h0:0<j)(hb:l[j-1]>=l[j]):pL l=false:=by
 rw[Bool.eq_false_iff]
 intro k
 have :=wm.1 k j h h0
 omega
theorem Ms{i n:Nat}(h0:0<i)(h:i<=n)(hn:n<=maxLen):IntKind.i64.wrap ((i:Int)-1)=((i-1:Nat):Int):=zr (by omega) (Nat.le_trans h hn)
@[go_sem] def P130:PSpec:=p1 ev (fun _=>True) (fun l=>.bool (pL l)) true
@[go_sem] def L':Spec:=P130.toSpec
set_option maxHeartbeats 4000000 in
theorem Ox:aU Tryz.prog 130 P130:=by
 refine fw (rs:=[.tmp 2]) Tryz.func130 Tryz.ntmps130 fun l hp hw=>?_
 have hP:=fB
 simp only[ev]at hw |-
 have hΓ:=@eT Tryz.prog
 have hl:l.length<=maxLen:=by have:=hw.1.1;simpa using this
 repeat refine sq ?_
 refine rs hΓ [0] [] ?_
 repeat refine sq ?_
 refine rs hΓ [0,3] [] ?_
 repeat refine sq ?_
 refine aQ ?_
 repeat refine sq ?_
 refine cr (fun i:Nat=>[(3,⟨true,.v (vInt i)⟩)]) (fun i=>[]) (fun i=>0<i/\∀ j (h:j<l.length),j<i->0<j->l[j-1] <l[j]) (fun i=>l.length-i) 1 ?_ ?_ ?_ ?_
 ·exact⟨Nat.one_pos,fun j h h1 h2=>by omega⟩
 ·rfl
 ·rfl
 rintro i ⟨h0,hz⟩
 simp only[go_sem]
 repeat refine sq ?_
 refine rs hΓ [0,3,7] [] ?_
 repeat refine sq ?_
 refine aB (fun hb=>?_) fun hb=>?_
 ·have ae:i<l.length:=by simpa using hb
  have au:(i:Int)<l.length:=by omega
  have uB:=Ms h0 (Nat.le_of_lt ae) hl
  have BH:(0:Int)<=((i-1:Nat):Int):=by omega
  have xp:((i-1:Nat):Int)<l.length:=by omega
  have BG:i-1<l.length:=by omega
  repeat refine sq ?_
  refine aG ?_
  repeat refine sq ?_
  refine aQ ?_
  repeat refine sq ?_
  refine dx hΓ hP [[],[],[1],[0,1,2],u4,[],[],[5,6],[5,6,7],u9] [0,3,19] [] (by kernel_rfl) (fun K' hK=>by simp only[go_sem,uB,ah ae,ah BG,ai,aj,au,xp];exact fd) ?_
  repeat refine sq ?_
  refine aB (fun hb=>?_) fun hb=>?_
  ·repeat refine sq ?_
   refine rs hΓ [2] [] ?_
   refine ay ?_
   simp only[go_sem]
   rw[OX ae h0 (by simpa using hb)]
  ·replace hb:l[i-1] <l[i]:=by simpa using hb
   repeat refine sq ?_
   refine aG ?_
   refine bV ?_
   simp only[go_sem]
   refine kp [0,3] [] ?_
   repeat refine sq ?_
   refine aY hΓ fun K' hK=>?_
   simp only[go_sem]
   repeat (refine⟨ob,?_⟩)
   refine hK _ ?_
   clear K' hK
   simp only[go_sem]
   refine⟨i+1,⟨by omega,fun j h h1 h2=>?_⟩,by omega,?_⟩
   ·rcases Nat.lt_succ_iff_lt_or_eq.1 h1 with h3 | rfl
    ·exact hz j h h3 h2
    ·exact hb
   refine bq [0,3] [] ?_ ?_<;>simp only[go_sem,be ae hl,bj]
 ·have bw:l.length<=i:=by
    have :¬ (i:Int)<l.length:=by simpa using hb
    omega
  repeat refine sq ?_
  refine bM ?_
  simp only[go_sem]
  refine kp [] [] ?_
  repeat refine sq ?_
  refine rs hΓ [2] [] ?_
  refine ay ?_
  simp only[go_sem]
  rw[wm.2 fun j h h0=>hz j h (by omega) h0]
end
noncomputable section
def K3:List (Nat×Spec):=[(130,L'),(145,DN),(96,qZ)]
theorem YU:KS K3:=tc Ox.sound<|tc zV.sound<|tc tD.sound<|tn
attribute [go_sem] K3
def jJ(l:List Int):Bool:=decide (0<l.length)&&pL l&&b8 (l.getD 0 0) 1 30&&b8 (l.getD (l.length-1) 0) 1 30
@[go_sem] def P149:PSpec:=p1 ev (fun _=>True) (fun l=>.bool (jJ l)) true
@[go_sem] def XH:Spec:=P149.toSpec
set_option maxHeartbeats 4000000 in
theorem Ov:aU Tryz.prog 149 P149:=by
 refine fw (rs:=[.tmp 2]) Tryz.func149 Tryz.ntmps149 fun l hp hw=>?_
 simp only[ev]at hw |-
 have hΓ:=YU
 have hl:l.length<=maxLen:=by have:=hw.1.1;simpa using this
 by_cases h0:l.length=0
 ·have e0:l=[]:=List.length_eq_zero_iff.1 h0
  subst e0
  repeat refine sq ?_
  refine rs hΓ [0] [] ?_
  repeat refine sq ?_
  refine rs hΓ [2] [] ?_
  refine ay ?_
  simp only[go_sem]
  rfl
 ·have hq:0<l.length:=by omega
  have bX:(0:Int)<l.length:=by omega
  have Tk:=zr h0 hl
  have xt:((l.length-1:Nat):Int)<l.length:=by omega
  have jN:l.length-1<l.length:=by omega
  have hp3:(0:Int)<=((l.length-1:Nat):Int):=by omega
  have TV:(l.map vInt).getD 0 default=vInt (l.getD 0 0):=by rw[ah hq,dv hq]
  have et:(l.map vInt).getD (l.length-1) default=vInt (l.getD (l.length-1) 0):=by rw[ah jN,dv jN]
  have hd:decide ((l.length:Int)>0)=true:=by simpa using hq
  repeat refine sq ?_
  refine rs hΓ [0] [] ?_
  repeat refine sq ?_
  refine rx hΓ [2] [] (fun K' hK=>by simp only[go_sem,Tk,TV,et,ai,Int.toNat_zero,aj,bX,xt,hd,decide_true];exact fn) ?_
  refine ay ?_
  simp only[go_sem]
  have BG:decide (0<l.length)=true:=by simpa using hq
  simp only[jJ,BG,Bool.true_and,Bool.decide_and,Bool.decide_eq_true]
theorem wy{i n:Nat}(h:i<n)(hn:n<=maxLen):∃ p:Nat,(IntKind.i64.wrap ((i:Int)-1)).toNat=p/\p<n/\(0<i->p=i-1/\0<=IntKind.i64.wrap ((i:Int)-1)/\IntKind.i64.wrap ((i:Int)-1)<n):=by
 unfold maxLen at hn
 rcases Nat.eq_zero_or_pos i with rfl | hp
 ·exact⟨0,by decide,h,fun h=>by omega⟩
 ·have:IntKind.i64.wrap ((i:Int)-1)=((i-1:Nat):Int):=by rw[wrap_i64 (by omega) (by omega)];omega
  exact⟨i-1,by rw[this];rfl,by omega,fun _=>⟨rfl,by omega,by omega⟩⟩
theorem z7{l:List Int}(hr:pL l=true):∀ (k j:Nat) (h:j+k<l.length),l[j]+k<=l[j+k]
 | 0,j,h=>by simp
 |k+1,j,h=>by
  have h1:=z7 hr k j (by omega)
  have h2:=wm.1 hr (j+k+1) (by omega) (by omega)
  have e:j+k+1-1=j+k:=by omega
  simp only[e]at h2
  show l[j]+((k+1:Nat):Int)<=l[j+k+1]
  omega
theorem pV{l:List Int}:jJ l=true↔0<l.length/\l.length<=30/\pL l=true/\∀ j (h:j<l.length),b8 l[j] 1 30=true:=by
 unfold jJ
 simp only[Bool.and_eq_true,decide_eq_true_eq]
 constructor
 ·rintro⟨⟨⟨h1,h2⟩,h3⟩,h4⟩
  have jN:l.length-1<l.length:=by omega
  rw[dv h1]at h3
  rw[dv jN]at h4
  unfold b8 at h3 h4 |-
  simp only[Bool.and_eq_true,decide_eq_true_eq]at h3 h4 |-
  have dX:∀ j (h:j<l.length),l[0]+j<=l[j]:=fun j h=>by
   have :=z7 h2 j 0 (by omega)
   simpa using this
  have fK:∀ j (h:j<l.length),l[j]<=l[l.length-1]:=fun j h=>by
   have :=z7 h2 (l.length-1-j) j (by omega)
   have e:j+(l.length-1-j)=l.length-1:=by omega
   simp only[e]at this
   omega
  refine⟨h1,?_,h2,fun j h=>?_⟩
  ·have:=dX _ jN;omega
  ·have a:=dX j h;have b:=fK j h;omega
 ·rintro⟨h1,h2,h3,h4⟩
  have jN:l.length-1<l.length:=by omega
  refine⟨⟨⟨h1,h3⟩,?_⟩,?_⟩
  ·rw[dv h1];exact h4 0 h1
  ·rw[dv jN];exact h4 _ jN
theorem sX{b:Bool}{p:Prop}(h:b=true↔p)(hn:¬ p):b=false:=by
 cases b with
 |false=>rfl
 |true=>exact(hn (h.1 rfl)).elim
end
set_option maxHeartbeats 8000000
noncomputable section
def K4:List (Nat×Spec):=[(96,qZ),(144,L9),(145,DN),(147,L8),(148,L7),(149,XH),(150,DM),(151,XG)]
theorem zo:KS K4:=tc tD.sound<|tc EO.sound<|tc zV.sound<|tc EN.sound<|tc EM.sound<|tc Ov.sound<|tc zU.sound<|tc Ou.sound<|tn
attribute [go_sem] K4
def fW(b:Bool)(n:Int):Int:=if b then 0 else n
theorem yg(b:Bool)(n:Int)(hn:n≠0):(fW b n != 0)=!b:=by cases b<;>simp[fW,hn]
def ni(p:Pap):Bool:=b8 p.id 1 999&&b8 p.lv 1 30
def dK(r:Rec):Bool:=b8 r.so 1 99999&&b8 r.bo 1 99&&b8 r.pa 1 999&&jJ r.lv&&dayB r.da&&kf r.kn r.un
def i7(r:Ret):Bool:=b8 r.so 1 99999&&b8 r.re 1 99999&&b8 r.pe 1 99&&jJ r.lv&&b8 r.lo 0 r.hi&&dayB r.hi&&kf r.kn r.un
def kh(s:Sig):Bool:=b8 s.so 1 99999&&b8 s.pe 0 99&&b8 s.pa 1 999&&b8 s.le 1 30&&dayB s.da&&kf s.kn s.un
@[go_sem] def P61:PSpec:=p1 iP (fun _=>True) (fun x=>vInt (fW (ni x) 20)) true
@[go_sem] def Xw:Spec:=P61.toSpec
theorem N0:aU Tryz.prog 61 P61:=by
 refine fw (rs:=[.tmp 2]) Tryz.func61 Tryz.ntmps61 fun x hp hw=>?_
 simp only[iP,cK]at hw |-
 have hΓ:=zo
 repeat refine sq ?_
 refine rs hΓ [1] [[1,0]] ?_
 repeat refine sq ?_
 refine rs hΓ [12] [] ?_
 repeat refine dT ?_
 refine aB (fun hb=>?_) fun hb=>?_
 ·repeat refine dT ?_
  repeat refine sq ?_
  refine rs hΓ [2] [] ?_
  refine ay ?_
  simp only[go_sem]
  all_goals first | rfl | (simp;done) | (grind [ni,fW];done)
 ·repeat refine dT ?_
  refine aG ?_
  repeat refine sq ?_
  refine rs hΓ [2] [] ?_
  refine ay ?_
  simp only[go_sem]
  all_goals first | rfl | (simp;done) | (grind [ni,fW];done)
@[go_sem] def P63:PSpec:=p1 iR (fun _=>True) (fun x=>vInt (fW (dK x) 21)) true
@[go_sem] def Xv:Spec:=P63.toSpec
theorem NZ:aU Tryz.prog 63 P63:=by
 refine fw (rs:=[.tmp 2]) Tryz.func63 Tryz.ntmps63 fun x hp hw=>?_
 simp only[iR,encR]at hw |-
 have hΓ:=zo
 repeat refine sq ?_
 refine rs hΓ [1] [[1,0]] ?_
 repeat refine sq ?_
 refine rs hΓ [38] [] ?_
 repeat refine dT ?_
 refine aB (fun hb=>?_) fun hb=>?_
 ·repeat refine dT ?_
  repeat refine sq ?_
  refine rs hΓ [2] [] ?_
  refine ay ?_
  simp only[go_sem]
  all_goals first | rfl | (simp;done) | (grind [dK,fW];done)
 ·repeat refine dT ?_
  refine aG ?_
  repeat refine sq ?_
  refine rs hΓ [2] [] ?_
  refine ay ?_
  simp only[go_sem]
  all_goals first | rfl | (simp;done) | (grind [dK,fW];done)
@[go_sem] def P65:PSpec:=p1 iT (fun _=>True) (fun x=>vInt (fW (i7 x) 22)) true
@[go_sem] def Xu:Spec:=P65.toSpec
theorem NY:aU Tryz.prog 65 P65:=by
 refine fw (rs:=[.tmp 2]) Tryz.func65 Tryz.ntmps65 fun x hp hw=>?_
 simp only[iT,c9]at hw |-
 have hΓ:=zo
 repeat refine sq ?_
 refine rs hΓ [1] [[1,0]] ?_
 repeat refine sq ?_
 refine rs hΓ [49] [] ?_
 repeat refine dT ?_
 refine aB (fun hb=>?_) fun hb=>?_
 ·repeat refine dT ?_
  repeat refine sq ?_
  refine rs hΓ [2] [] ?_
  refine ay ?_
  simp only[go_sem]
  all_goals first | rfl | (simp;done) | (grind [i7,fW];done)
 ·repeat refine dT ?_
  refine aG ?_
  repeat refine sq ?_
  refine rs hΓ [2] [] ?_
  refine ay ?_
  simp only[go_sem]
  all_goals first | rfl | (simp;done) | (grind [i7,fW];done)
@[go_sem] def P67:PSpec:=p1 iS (fun _=>True) (fun x=>vInt (fW (kh x) 23)) true
@[go_sem] def LW:Spec:=P67.toSpec
theorem NX:aU Tryz.prog 67 P67:=by
 refine fw (rs:=[.tmp 2]) Tryz.func67 Tryz.ntmps67 fun x hp hw=>?_
 simp only[iS,encS]at hw |-
 have hΓ:=zo
 repeat refine sq ?_
 refine rs hΓ [1] [[1,0]] ?_
 repeat refine sq ?_
 refine rs hΓ [38] [] ?_
 repeat refine dT ?_
 refine aB (fun hb=>?_) fun hb=>?_
 ·repeat refine dT ?_
  repeat refine sq ?_
  refine rs hΓ [2] [] ?_
  refine ay ?_
  simp only[go_sem]
  all_goals first | rfl | (simp;done) | (grind [kh,fW];done)
 ·repeat refine dT ?_
  refine aG ?_
  repeat refine sq ?_
  refine rs hΓ [2] [] ?_
  refine ay ?_
  simp only[go_sem]
  all_goals first | rfl | (simp;done) | (grind [kh,fW];done)
@[go_sem] def P110:PSpec:=p1 iP (fun _=>True) (fun x=>vInt x.id) true
@[go_sem] def XR:Spec:=P110.toSpec
theorem OF:aU Tryz.prog 110 P110:=by
 refine fw (rs:=[.tmp 2]) Tryz.func110 Tryz.ntmps110 fun x hp hw=>?_
 simp only[iP,cK]at hw |-
 have hΓ:=@eT Tryz.prog
 repeat refine sq ?_
 refine rs hΓ [1] [[1,0]] ?_
 repeat refine sq ?_
 refine rs hΓ [2] [] ?_
 refine ay ?_
 simp only[go_sem]
 all_goals exact dp
@[go_sem] def P112:PSpec:=p1 iR (fun _=>True) (fun x=>vInt x.so) true
@[go_sem] def XP:Spec:=P112.toSpec
theorem OD:aU Tryz.prog 112 P112:=by
 refine fw (rs:=[.tmp 2]) Tryz.func112 Tryz.ntmps112 fun x hp hw=>?_
 simp only[iR,encR]at hw |-
 have hΓ:=@eT Tryz.prog
 repeat refine sq ?_
 refine rs hΓ [1] [[1,0]] ?_
 repeat refine sq ?_
 refine rs hΓ [2] [] ?_
 refine ay ?_
 simp only[go_sem]
 all_goals exact dp
@[go_sem] def P114:PSpec:=p1 iT (fun _=>True) (fun x=>vInt x.so) true
@[go_sem] def XN:Spec:=P114.toSpec
theorem OB:aU Tryz.prog 114 P114:=by
 refine fw (rs:=[.tmp 2]) Tryz.func114 Tryz.ntmps114 fun x hp hw=>?_
 simp only[iT,c9]at hw |-
 have hΓ:=@eT Tryz.prog
 repeat refine sq ?_
 refine rs hΓ [1] [[1,0]] ?_
 repeat refine sq ?_
 refine rs hΓ [2] [] ?_
 refine ay ?_
 simp only[go_sem]
 all_goals exact dp
@[go_sem] def P116:PSpec:=p1 iS (fun _=>True) (fun x=>vInt x.so) true
@[go_sem] def XL:Spec:=P116.toSpec
theorem Oz:aU Tryz.prog 116 P116:=by
 refine fw (rs:=[.tmp 2]) Tryz.func116 Tryz.ntmps116 fun x hp hw=>?_
 simp only[iS,encS]at hw |-
 have hΓ:=@eT Tryz.prog
 repeat refine sq ?_
 refine rs hΓ [1] [[1,0]] ?_
 repeat refine sq ?_
 refine rs hΓ [2] [] ?_
 refine ay ?_
 simp only[go_sem]
 all_goals exact dp
end
set_option maxHeartbeats 8000000
noncomputable section
def K5:List (Nat×Spec):=[(61,Xw),(63,Xv),(65,Xu),(67,LW),(110,XR),(112,XP),(114,XN),(116,XL)]
theorem zn:KS K5:=tc N0.sound<|tc NZ.sound<|tc NY.sound<|tc NX.sound<|tc OF.sound<|tc OD.sound<|tc OB.sound<|tc Oz.sound<|tn
attribute [go_sem] K5
def mr{α:Type}(eu:α->Bool)(num:α->Int)(l:List α)(n:Nat):Prop:=∀ j (h:j<l.length),j<n->eu l[j]=true/\(0<j->num l[j-1] <num l[j])
open Classical in
def gr{α:Type}(eu:α->Bool)(num:α->Int)(l:List α):Bool:=decide (mr eu num l l.length)
theorem j7{α:Type}{eu:α->Bool}{num:α->Int}{l:List α}:gr eu num l=true↔mr eu num l l.length:=by unfold gr;exact @decide_eq_true_iff _ (Classical.propDecidable _)
theorem wF{α:Type}{eu:α->Bool}{num:α->Int}{l:List α}:mr eu num l 0:=fun j _ h=>by omega
theorem wG{α:Type}{eu:α->Bool}{num:α->Int}{l:List α}{i:Nat}(h:mr eu num l i)(hi:i<l.length)(hc:eu l[i]=true/\(0<i->num l[i-1] <num l[i])):mr eu num l (i+1):=by
 intro j hj du
 rcases Nat.lt_succ_iff_lt_or_eq.1 du with h1 | rfl
 ·exact h j hj h1
 ·exact hc
@[go_sem] def P109:PSpec:=p4 (eM iP) iI (iF 61) (iF 110) (fun _ _ _ _=>True) (fun l m _ _=>.bool (gr ni Pap.id l&&decide ((l.length:Int)<=m))) true
@[go_sem] def XS:Spec:=P109.toSpec
theorem OG:aU Tryz.prog 109 P109:=by
 refine rv (rs:=[.tmp 8]) Tryz.func109 Tryz.ntmps109 fun l m _ _ hp hw=>?_
 have hP:=fB
 simp only[iF,iI,iP,eM,iC,cK]at hw |-
 have hΓ:=zn
 have hl:l.length<=maxLen:=by have:=hw.1.1;simpa using this
 repeat refine sq ?_
 refine rs hΓ [0,1,2,3] [] ?_
 repeat refine sq ?_
 refine rs hΓ [0,1,2,3,11,12,13] [] ?_
 repeat refine sq ?_
 refine aQ ?_
 repeat refine sq ?_
 refine cr (fun s:Nat=>[(13,⟨true,.v (vInt s)⟩)]) (fun s=>[]) (fun s=>s<=l.length/\mr ni Pap.id l s) (fun s=>l.length-s) 0 ?_ ?_ ?_ ?_
 ·exact⟨Nat.zero_le _,wF⟩
 ·rfl
 ·rfl
 rintro i ⟨hi,hR⟩
 simp only[go_sem]
 repeat refine sq ?_
 refine rs hΓ [0,1,2,3,11,12,13,14] [] ?_
 repeat refine sq ?_
 refine aB (fun hb=>?_) fun hb=>?_
 ·have ae:i<l.length:=by simpa using hb
  have au:(i:Int)<l.length:=by omega
  clear hb
  obtain⟨p,hp,nI,cp⟩:=wy ae hl
  repeat refine sq ?_
  refine aG ?_
  repeat refine sq ?_
  refine aQ ?_
  repeat refine sq ?_
  refine rx hΓ [0,1,2,3,9,10,11,12,13] [[10,0]] (fun K' hK=>by simp only[go_sem,ah ae,ai,aj,au];exact fn) ?_
  repeat refine sq ?_
  refine dx hΓ hP [[],[],[0,1],[0,1,2],u4,u5,u6,u7,u8,u8,u8,[0,1,2,3,4,5,6,7,10],[0,1,2,3,4,5,6,7,9,10,11],[0,1,2,3,4,5,6,7,9,10,11,12],lf,u8,u8,rC,jy,oq,pE] [0,1,2,3,11,12,13,38] [] (by kernel_rfl) (fun K' hK=>by simp only[go_sem,ah ae,ai,aj,au,hp,ah nI,fun b=>yg b 20 (by decide)];(repeat (refine⟨by first | exact ob | (intro h;have:=cp (by simp_all);simp_all;done),?_⟩));exact gH) ?_
  repeat refine sq ?_
  refine aB (fun hb=>?_) fun hb=>?_
  ·repeat refine sq ?_
   have fU:gr ni Pap.id l=false:=by
    rw[sX j7]
    intro h
    obtain⟨h1,h2⟩:=h i ae ae
    simp only[h1,Bool.not_true,Bool.false_or,Bool.and_eq_true,decide_eq_true_eq]at hb
    obtain⟨e,_⟩:=cp (by omega)
    subst e
    have :=h2 (by omega)
    have :=hb.2
    omega
   repeat refine sq ?_
   refine rx hΓ [8] [] (fun K' hK=>by simp only[go_sem,ah ae,ai,aj,au];exact fn) ?_
   refine ay ?_
   simp only[go_sem]
   rw[fU];rfl
  ·repeat refine sq ?_
   have hn:ni l[i]=true/\(0<i->Pap.id l[i-1] <Pap.id l[i]):=by
    simp only[Bool.or_eq_false_iff,Bool.not_eq_false',Bool.and_eq_false_iff,decide_eq_false_iff_not]at hb
    refine⟨hb.1,fun h=>?_⟩
    obtain⟨e,_⟩:=cp h
    subst e
    omega
   refine aG ?_
   refine bV ?_
   simp only[go_sem]
   refine kp [0,1,2,3,11,12,13] [] ?_
   repeat refine sq ?_
   refine aY hΓ fun K' hK=>?_
   simp only[go_sem,ah ae,ai,aj,au]
   repeat (refine⟨ob,?_⟩)
   refine hK _ ?_
   clear K' hK
   simp only[go_sem]
   refine⟨i+1,⟨ae,?_⟩,by(show l.length-(i+1)<l.length-i;omega),?_⟩
   ·exact wG hR ae hn
   refine bq [0,1,2,3,11,12,13] [] ?_ ?_<;>simp only[go_sem,be ae hl,bj]
 ·have bw:i=l.length:=by
   have :¬ (i:Int)<l.length:=by simpa using hb
   omega
  clear hb
  subst bw
  repeat refine sq ?_
  refine bM ?_
  simp only[go_sem]
  refine kp [0,1] [] ?_
  repeat refine sq ?_
  refine rs hΓ [8] [] ?_
  refine ay ?_
  simp only[go_sem]
  rw[j7.2 hR];rfl
@[go_sem] def P111:PSpec:=p4 (eM iR) iI (iF 63) (iF 112) (fun _ _ _ _=>True) (fun l m _ _=>.bool (gr dK Rec.so l&&decide ((l.length:Int)<=m))) true
@[go_sem] def XQ:Spec:=P111.toSpec
theorem OE:aU Tryz.prog 111 P111:=by
 refine rv (rs:=[.tmp 8]) Tryz.func111 Tryz.ntmps111 fun l m _ _ hp hw=>?_
 have hP:=fB
 simp only[iF,iI,iR,eM,iC,encR]at hw |-
 have hΓ:=zn
 have hl:l.length<=maxLen:=by have:=hw.1.1;simpa using this
 repeat refine sq ?_
 refine rs hΓ [0,1,2,3] [] ?_
 repeat refine sq ?_
 refine rs hΓ [0,1,2,3,11,12,13] [] ?_
 repeat refine sq ?_
 refine aQ ?_
 repeat refine sq ?_
 refine cr (fun s:Nat=>[(13,⟨true,.v (vInt s)⟩)]) (fun s=>[]) (fun s=>s<=l.length/\mr dK Rec.so l s) (fun s=>l.length-s) 0 ?_ ?_ ?_ ?_
 ·exact⟨Nat.zero_le _,wF⟩
 ·rfl
 ·rfl
 rintro i ⟨hi,hR⟩
 simp only[go_sem]
 repeat refine sq ?_
 refine rs hΓ [0,1,2,3,11,12,13,14] [] ?_
 repeat refine sq ?_
 refine aB (fun hb=>?_) fun hb=>?_
 ·have ae:i<l.length:=by simpa using hb
  have au:(i:Int)<l.length:=by omega
  clear hb
  obtain⟨p,hp,nI,cp⟩:=wy ae hl
  repeat refine sq ?_
  refine aG ?_
  repeat refine sq ?_
  refine aQ ?_
  repeat refine sq ?_
  refine rx hΓ [0,1,2,3,9,10,11,12,13] [[10,0]] (fun K' hK=>by simp only[go_sem,ah ae,ai,aj,au];exact fn) ?_
  repeat refine sq ?_
  refine dx hΓ hP [[],[],[0,1],[0,1,2],u4,u5,u6,u7,u8,u8,u8,[0,1,2,3,4,5,6,7,10],[0,1,2,3,4,5,6,7,9,10,11],[0,1,2,3,4,5,6,7,9,10,11,12],lf,u8,u8,rC,jy,oq,pE] [0,1,2,3,11,12,13,38] [] (by kernel_rfl) (fun K' hK=>by simp only[go_sem,ah ae,ai,aj,au,hp,ah nI,fun b=>yg b 21 (by decide)];(repeat (refine⟨by first | exact ob | (intro h;have:=cp (by simp_all);simp_all;done),?_⟩));exact gH) ?_
  repeat refine sq ?_
  refine aB (fun hb=>?_) fun hb=>?_
  ·repeat refine sq ?_
   have fU:gr dK Rec.so l=false:=by
    rw[sX j7]
    intro h
    obtain⟨h1,h2⟩:=h i ae ae
    simp only[h1,Bool.not_true,Bool.false_or,Bool.and_eq_true,decide_eq_true_eq]at hb
    obtain⟨e,_⟩:=cp (by omega)
    subst e
    have :=h2 (by omega)
    have :=hb.2
    omega
   repeat refine sq ?_
   refine rx hΓ [8] [] (fun K' hK=>by simp only[go_sem,ah ae,ai,aj,au];exact fn) ?_
   refine ay ?_
   simp only[go_sem]
   rw[fU];rfl
  ·repeat refine sq ?_
   have hn:dK l[i]=true/\(0<i->Rec.so l[i-1] <Rec.so l[i]):=by
    simp only[Bool.or_eq_false_iff,Bool.not_eq_false',Bool.and_eq_false_iff,decide_eq_false_iff_not]at hb
    refine⟨hb.1,fun h=>?_⟩
    obtain⟨e,_⟩:=cp h
    subst e
    omega
   refine aG ?_
   refine bV ?_
   simp only[go_sem]
   refine kp [0,1,2,3,11,12,13] [] ?_
   repeat refine sq ?_
   refine aY hΓ fun K' hK=>?_
   simp only[go_sem,ah ae,ai,aj,au]
   repeat (refine⟨ob,?_⟩)
   refine hK _ ?_
   clear K' hK
   simp only[go_sem]
   refine⟨i+1,⟨ae,?_⟩,by(show l.length-(i+1)<l.length-i;omega),?_⟩
   ·exact wG hR ae hn
   refine bq [0,1,2,3,11,12,13] [] ?_ ?_<;>simp only[go_sem,be ae hl,bj]
 ·have bw:i=l.length:=by
   have :¬ (i:Int)<l.length:=by simpa using hb
   omega
  clear hb
  subst bw
  repeat refine sq ?_
  refine bM ?_
  simp only[go_sem]
  refine kp [0,1] [] ?_
  repeat refine sq ?_
  refine rs hΓ [8] [] ?_
  refine ay ?_
  simp only[go_sem]
  rw[j7.2 hR];rfl
@[go_sem] def P113:PSpec:=p4 (eM iT) iI (iF 65) (iF 114) (fun _ _ _ _=>True) (fun l m _ _=>.bool (gr i7 Ret.so l&&decide ((l.length:Int)<=m))) true
@[go_sem] def XO:Spec:=P113.toSpec
theorem OC:aU Tryz.prog 113 P113:=by
 refine rv (rs:=[.tmp 8]) Tryz.func113 Tryz.ntmps113 fun l m _ _ hp hw=>?_
 have hP:=fB
 simp only[iF,iI,eM,iT,iC,c9]at hw |-
 have hΓ:=zn
 have hl:l.length<=maxLen:=by have:=hw.1.1;simpa using this
 repeat refine sq ?_
 refine rs hΓ [0,1,2,3] [] ?_
 repeat refine sq ?_
 refine rs hΓ [0,1,2,3,11,12,13] [] ?_
 repeat refine sq ?_
 refine aQ ?_
 repeat refine sq ?_
 refine cr (fun s:Nat=>[(13,⟨true,.v (vInt s)⟩)]) (fun s=>[]) (fun s=>s<=l.length/\mr i7 Ret.so l s) (fun s=>l.length-s) 0 ?_ ?_ ?_ ?_
 ·exact⟨Nat.zero_le _,wF⟩
 ·rfl
 ·rfl
 rintro i ⟨hi,hR⟩
 simp only[go_sem]
 repeat refine sq ?_
 refine rs hΓ [0,1,2,3,11,12,13,14] [] ?_
 repeat refine sq ?_
 refine aB (fun hb=>?_) fun hb=>?_
 ·have ae:i<l.length:=by simpa using hb
  have au:(i:Int)<l.length:=by omega
  clear hb
  obtain⟨p,hp,nI,cp⟩:=wy ae hl
  repeat refine sq ?_
  refine aG ?_
  repeat refine sq ?_
  refine aQ ?_
  repeat refine sq ?_
  refine rx hΓ [0,1,2,3,9,10,11,12,13] [[10,0]] (fun K' hK=>by simp only[go_sem,ah ae,ai,aj,au];exact fn) ?_
  repeat refine sq ?_
  refine dx hΓ hP [[],[],[0,1],[0,1,2],u4,u5,u6,u7,u8,u8,u8,[0,1,2,3,4,5,6,7,10],[0,1,2,3,4,5,6,7,9,10,11],[0,1,2,3,4,5,6,7,9,10,11,12],lf,u8,u8,rC,jy,oq,pE] [0,1,2,3,11,12,13,38] [] (by kernel_rfl) (fun K' hK=>by simp only[go_sem,ah ae,ai,aj,au,hp,ah nI,fun b=>yg b 22 (by decide)];(repeat (refine⟨by first | exact ob | (intro h;have:=cp (by simp_all);simp_all;done),?_⟩));exact gH) ?_
  repeat refine sq ?_
  refine aB (fun hb=>?_) fun hb=>?_
  ·repeat refine sq ?_
   have fU:gr i7 Ret.so l=false:=by
    rw[sX j7]
    intro h
    obtain⟨h1,h2⟩:=h i ae ae
    simp only[h1,Bool.not_true,Bool.false_or,Bool.and_eq_true,decide_eq_true_eq]at hb
    obtain⟨e,_⟩:=cp (by omega)
    subst e
    have :=h2 (by omega)
    have :=hb.2
    omega
   repeat refine sq ?_
   refine rx hΓ [8] [] (fun K' hK=>by simp only[go_sem,ah ae,ai,aj,au];exact fn) ?_
   refine ay ?_
   simp only[go_sem]
   rw[fU];rfl
  ·repeat refine sq ?_
   have hn:i7 l[i]=true/\(0<i->Ret.so l[i-1] <Ret.so l[i]):=by
    simp only[Bool.or_eq_false_iff,Bool.not_eq_false',Bool.and_eq_false_iff,decide_eq_false_iff_not]at hb
    refine⟨hb.1,fun h=>?_⟩
    obtain⟨e,_⟩:=cp h
    subst e
    omega
   refine aG ?_
   refine bV ?_
   simp only[go_sem]
   refine kp [0,1,2,3,11,12,13] [] ?_
   repeat refine sq ?_
   refine aY hΓ fun K' hK=>?_
   simp only[go_sem,ah ae,ai,aj,au]
   repeat (refine⟨ob,?_⟩)
   refine hK _ ?_
   clear K' hK
   simp only[go_sem]
   refine⟨i+1,⟨ae,?_⟩,by(show l.length-(i+1)<l.length-i;omega),?_⟩
   ·exact wG hR ae hn
   refine bq [0,1,2,3,11,12,13] [] ?_ ?_<;>simp only[go_sem,be ae hl,bj]
 ·have bw:i=l.length:=by
   have :¬ (i:Int)<l.length:=by simpa using hb
   omega
  clear hb
  subst bw
  repeat refine sq ?_
  refine bM ?_
  simp only[go_sem]
  refine kp [0,1] [] ?_
  repeat refine sq ?_
  refine rs hΓ [8] [] ?_
  refine ay ?_
  simp only[go_sem]
  rw[j7.2 hR];rfl
@[go_sem] def P115:PSpec:=p4 (eM iS) iI (iF 67) (iF 116) (fun _ _ _ _=>True) (fun l m _ _=>.bool (gr kh Sig.so l&&decide ((l.length:Int)<=m))) true
@[go_sem] def XM:Spec:=P115.toSpec
theorem OA:aU Tryz.prog 115 P115:=by
 refine rv (rs:=[.tmp 8]) Tryz.func115 Tryz.ntmps115 fun l m _ _ hp hw=>?_
 have hP:=fB
 simp only[iF,iI,iS,eM,iC,encS]at hw |-
 have hΓ:=zn
 have hl:l.length<=maxLen:=by have:=hw.1.1;simpa using this
 repeat refine sq ?_
 refine rs hΓ [0,1,2,3] [] ?_
 repeat refine sq ?_
 refine rs hΓ [0,1,2,3,11,12,13] [] ?_
 repeat refine sq ?_
 refine aQ ?_
 repeat refine sq ?_
 refine cr (fun s:Nat=>[(13,⟨true,.v (vInt s)⟩)]) (fun s=>[]) (fun s=>s<=l.length/\mr kh Sig.so l s) (fun s=>l.length-s) 0 ?_ ?_ ?_ ?_
 ·exact⟨Nat.zero_le _,wF⟩
 ·rfl
 ·rfl
 rintro i ⟨hi,hR⟩
 simp only[go_sem]
 repeat refine sq ?_
 refine rs hΓ [0,1,2,3,11,12,13,14] [] ?_
 repeat refine sq ?_
 refine aB (fun hb=>?_) fun hb=>?_
 ·have ae:i<l.length:=by simpa using hb
  have au:(i:Int)<l.length:=by omega
  clear hb
  obtain⟨p,hp,nI,cp⟩:=wy ae hl
  repeat refine sq ?_
  refine aG ?_
  repeat refine sq ?_
  refine aQ ?_
  repeat refine sq ?_
  refine rx hΓ [0,1,2,3,9,10,11,12,13] [[10,0]] (fun K' hK=>by simp only[go_sem,ah ae,ai,aj,au];exact fn) ?_
  repeat refine sq ?_
  refine dx hΓ hP [[],[],[0,1],[0,1,2],u4,u5,u6,u7,u8,u8,u8,[0,1,2,3,4,5,6,7,10],[0,1,2,3,4,5,6,7,9,10,11],[0,1,2,3,4,5,6,7,9,10,11,12],lf,u8,u8,rC,jy,oq,pE] [0,1,2,3,11,12,13,38] [] (by kernel_rfl) (fun K' hK=>by simp only[go_sem,ah ae,ai,aj,au,hp,ah nI,fun b=>yg b 23 (by decide)];(repeat (refine⟨by first | exact ob | (intro h;have:=cp (by simp_all);simp_all;done),?_⟩));exact gH) ?_
  repeat refine sq ?_
  refine aB (fun hb=>?_) fun hb=>?_
  ·repeat refine sq ?_
   have fU:gr kh Sig.so l=false:=by
    rw[sX j7]
    intro h
    obtain⟨h1,h2⟩:=h i ae ae
    simp only[h1,Bool.not_true,Bool.false_or,Bool.and_eq_true,decide_eq_true_eq]at hb
    obtain⟨e,_⟩:=cp (by omega)
    subst e
    have :=h2 (by omega)
    have :=hb.2
    omega
   repeat refine sq ?_
   refine rx hΓ [8] [] (fun K' hK=>by simp only[go_sem,ah ae,ai,aj,au];exact fn) ?_
   refine ay ?_
   simp only[go_sem]
   rw[fU];rfl
  ·repeat refine sq ?_
   have hn:kh l[i]=true/\(0<i->Sig.so l[i-1] <Sig.so l[i]):=by
    simp only[Bool.or_eq_false_iff,Bool.not_eq_false',Bool.and_eq_false_iff,decide_eq_false_iff_not]at hb
    refine⟨hb.1,fun h=>?_⟩
    obtain⟨e,_⟩:=cp h
    subst e
    omega
   refine aG ?_
   refine bV ?_
   simp only[go_sem]
   refine kp [0,1,2,3,11,12,13] [] ?_
   repeat refine sq ?_
   refine aY hΓ fun K' hK=>?_
   simp only[go_sem,ah ae,ai,aj,au]
   repeat (refine⟨ob,?_⟩)
   refine hK _ ?_
   clear K' hK
   simp only[go_sem]
   refine⟨i+1,⟨ae,?_⟩,by(show l.length-(i+1)<l.length-i;omega),?_⟩
   ·exact wG hR ae hn
   refine bq [0,1,2,3,11,12,13] [] ?_ ?_<;>simp only[go_sem,be ae hl,bj]
 ·have bw:i=l.length:=by
   have :¬ (i:Int)<l.length:=by simpa using hb
   omega
  clear hb
  subst bw
  repeat refine sq ?_
  refine bM ?_
  simp only[go_sem]
  refine kp [0,1] [] ?_
  repeat refine sq ?_
  refine rs hΓ [8] [] ?_
  refine ay ?_
  simp only[go_sem]
  rw[j7.2 hR];rfl
end
set_option maxHeartbeats 8000000
noncomputable section
theorem Qb{i j:Nat}(hi:i<=maxLen)(hj:j<=maxLen):IntKind.i64.wrap ((IntKind.u64.wrap (IntKind.i64.wrap ((i:Int)+(j:Int)))).fdiv (2 ^ min (Int.toNat 1) 64))=(((i+j) / 2:Nat):Int):=by
 unfold maxLen at hi hj
 have h1:min (Int.toNat 1) 64=1:=by decide
 have h2:IntKind.u64.wrap (IntKind.i64.wrap ((i:Int)+(j:Int)))=((i+j:Nat):Int):=by
  rw[IntKind.wrap_u64,IntKind.wrap_i64]
  omega
 rw[h1,h2]
 have h3:(((i+j:Nat):Int)).fdiv (2 ^ 1)=(((i+j) / 2:Nat):Int):=by
  rw[Int.fdiv_eq_ediv_of_nonneg _ (by decide)]
  omega
 rw[h3,wrap_i64 (by omega) (by omega)]
theorem KI{a b:Int}:kM a b<0↔a<b:=by
 unfold kM
 split
 ·simp[*]
 ·split<;>simp<;>omega
theorem Wd{a b:Int}:(kM a b==0)=(a==b):=by
 unfold kM
 split
 ·have:a≠b:=by omega
  simp[this]
 ·split
  ·have:a≠b:=by omega
   simp[this]
  ·have:a=b:=by omega
   simp[this]
def srt{α:Type}(num:α->Int)(l:List α):Prop:=∀ i j (hi:i<l.length) (hj:j<l.length),i<j->num l[i] <num l[j]
theorem M3{α:Type}{num:α->Int}{l:List α}(h:∀ j (h:j<l.length),0<j->num l[j-1] <num l[j]):srt num l:=by
 intro i j hi hj fb
 induction j with
 |zero=>omega
 |succ j ih=>
  have h1:=h (j+1) hj (by omega)
  simp only[Nat.add_sub_cancel]at h1
  rcases Nat.lt_succ_iff_lt_or_eq.1 fb with h2 | rfl
  ·have:=ih (by omega) h2;omega
  ·exact h1
theorem wH{α:Type}{eu:α->Bool}{num:α->Int}{l:List α}(h:mr eu num l l.length):srt num l:=M3 fun j hj h0=>(h j hj hj).2 h0
def pT{α:Type}(num:α->Int)(l:List α)(x:Int):Nat:=(l.takeWhile fun y=>decide (num y<x)).length
def nN{α:Type}(num:α->Int)(l:List α)(x:Int):Bool:=l.any fun y=>num y==x
theorem AR{α:Type}{num:α->Int}{l:List α}{x:Int}{i:Nat}(hi:i<=l.length)(h1:∀ k (h:k<l.length),k<i->num l[k] <x)(h2:∀ k (h:k<l.length),i<=k->x<=num l[k]):pT num l x=i:=by
 unfold pT
 induction l generalizing i with
 |nil=>simp at hi |-;omega
 |cons a r ih=>
  cases i with
  |zero=>
   have :=h2 0 (by simp) (Nat.le_refl _)
   simp only[List.getElem_cons_zero]at this
   have hd:decide (num a<x)=false:=by simp;omega
   simp[hd]
  |succ i=>
   have :=h1 0 (by simp) (by omega)
   simp only[List.getElem_cons_zero]at this
   have hd:decide (num a<x)=true:=by simp;omega
   simp only[List.takeWhile_cons,hd,if_true,List.length_cons]
   rw[ih (by simpa using hi) (fun k hk dY=>by have:=h1 (k+1) (by simpa using hk) (by omega);simpa using this) (fun k hk dY=>by have:=h2 (k+1) (by simpa using hk) (by omega);simpa using this)]
theorem xV{α:Type}{num:α->Int}{l:List α}{x:Int}:nN num l x=true↔∃ k,∃ (h:k<l.length),num l[k]=x:=by
 unfold nN
 rw[List.any_eq_true]
 constructor
 ·rintro⟨y,hy,h⟩
  obtain⟨k,hk,rfl⟩:=List.getElem_of_mem hy
  exact⟨k,hk,by simpa using h⟩
 ·rintro⟨k,hk,h⟩
  exact⟨_,List.getElem_mem hk,by simpa using h⟩
theorem UA{α:Type}{num:α->Int}{l:List α}{x:Int}{i:Nat}(hs:srt num l)(hi:i<l.length)(h1:∀ k (h:k<l.length),k<i->num l[k] <x)(h2:∀ k (h:k<l.length),i<=k->x<=num l[k]):nN num l x=(num l[i]==x):=by
 rw[Bool.eq_iff_iff,xV]
 simp only[beq_iff_eq]
 constructor
 ·rintro⟨k,hk,e⟩
  rcases Nat.lt_trichotomy k i with h3 | h3 | h3
  ·have:=h1 k hk h3;omega
  ·subst h3;exact e
  ·have:=hs i k hi hk h3
   have :=h2 i hi (Nat.le_refl _)
   omega
 ·intro e
  exact⟨i,hi,e⟩
theorem Uz{α:Type}{num:α->Int}{l:List α}{x:Int}(h1:∀ k (h:k<l.length),num l[k] <x):nN num l x=false:=by
 rw[Bool.eq_false_iff]
 intro h
 obtain⟨k,hk,e⟩:=xV.1 h
 have :=h1 k hk
 omega
def K6a:List (Nat×Spec):=[(140,XI)]
theorem Ym:KS K6a:=tc Ow.sound<|tn
attribute [go_sem] K6a
@[go_sem] def P169:PSpec:=p2 iP iI (fun _ _=>True) (fun p x=>vInt (kM p.id x)) true
@[go_sem] def XE:Spec:=P169.toSpec
theorem Oh:aU Tryz.prog 169 P169:=by
 refine dV (rs:=[.tmp 4]) Tryz.func169 Tryz.ntmps169 fun p x hp hw=>?_
 simp only[iI,iP,cK]at hw |-
 have hΓ:=Ym
 repeat refine sq ?_
 refine rs hΓ [1,2] [[2,0]] ?_
 repeat refine sq ?_
 refine rs hΓ [4] [] ?_
 refine ay ?_
 simp only[go_sem]
 all_goals exact dp
def K6b:List (Nat×Spec):=[(169,XE)]
theorem Yl:KS K6b:=tc Oh.sound<|tn
attribute [go_sem] K6b
@[go_sem] def P168:PSpec:=p3 (eM iP) iI (iF 169) (fun l _ _=>srt Pap.id l) (fun l x _=>.tup [vInt (pT Pap.id l x),.bool (nN Pap.id l x)]) true
@[go_sem] def XF:Spec:=P168.toSpec
set_option maxRecDepth 10000 in
theorem Oi:aU Tryz.prog 168 P168:=by
 refine mY (rs:=[.tmp 6,.tmp 7]) Tryz.func168 Tryz.ntmps168 fun l x _ hp hw=>?_
 simp only[iF,iI,iP,eM,iC,cK]at hw |-
 have hΓ:=Yl
 have hs:=hp
 have hl:l.length<=maxLen:=by have:=hw.1.1;simpa using this
 repeat refine sq ?_
 refine rs hΓ [0,1,2] [] ?_
 repeat refine sq ?_
 refine rs hΓ [0,1,2,8] [] ?_
 repeat refine sq ?_
 refine rs hΓ [0,1,2,8,9,10] [] ?_
 repeat refine sq ?_
 refine aQ ?_
 repeat refine sq ?_
 refine cr (fun ij:Nat×Nat=>[(9,⟨true,.v (vInt ij.1)⟩),(10,⟨true,.v (vInt ij.2)⟩)]) (fun i=>[]) (fun ij=>ij.1<=ij.2/\ij.2<=l.length/\(∀ k (h:k<l.length),k<ij.1->Pap.id l[k] <x)/\(∀ k (h:k<l.length),ij.2<=k->x<=Pap.id l[k])) (fun ij=>ij.2-ij.1) (0,l.length) ?_ ?_ ?_ ?_
 ·exact⟨Nat.zero_le _,Nat.le_refl _,fun k h hk=>by omega,fun k h hk=>by omega⟩
 ·rfl
 ·rfl
 rintro⟨i,j⟩ ⟨fb,lO,dX,fK⟩
 simp only[go_sem]
 repeat refine sq ?_
 refine rs hΓ [0,1,2,8,9,10,17] [] ?_
 repeat refine sq ?_
 refine aB (fun hb=>?_) fun hb=>?_
 ·have ae:i<j:=by simpa using hb
  repeat refine sq ?_
  refine aG ?_
  repeat refine sq ?_
  refine aQ ?_
  repeat refine sq ?_
  refine rx hΓ [0,1,2,8,9,10,11] [] (fun K' hK=>by simp only[go_sem,Qb (show i<=maxLen by omega) (show j<=maxLen by omega)];exact fn) ?_
  obtain⟨h,hh⟩:∃ h,h=(i+j) / 2:=⟨_,rfl⟩
  rw[<-hh]
  have h1:i<=h:=by omega
  have h2:h<j:=by omega
  have h3:h<l.length:=by omega
  have Va:(h:Int)<l.length:=by omega
  repeat refine sq ?_
  refine rx hΓ [0,1,2,8,9,10,11,31] [] (fun K' hK=>by simp only[go_sem,ah h3,ai,aj,Va];exact fn) ?_
  repeat refine sq ?_
  refine aB (fun hb=>?_) fun hb=>?_
  ·have hx:Pap.id l[h] <x:=by simpa[KI]using hb
   repeat refine sq ?_
   refine aY hΓ fun K' hK=>?_
   simp only[go_sem]
   repeat (refine⟨ob,?_⟩)
   refine hK _ ?_
   clear K' hK
   simp only[go_sem]
   refine⟨(h+1,j),⟨by omega,lO,fun k hk B1=>?_,fK⟩,by omega,?_⟩
   ·rcases Nat.lt_succ_iff_lt_or_eq.1 B1 with h5 | h5
    ·have:=hs k h hk h3 h5;omega
    ·subst h5;exact hx
   ·refine bq [0,1,2,8,9,10] [] ?_ ?_<;>simp only[go_sem,be h3 hl,bj]
  ·have hx:x<=Pap.id l[h]:=by
     have :¬ Pap.id l[h] <x:=by simpa[KI]using hb
     omega
   repeat refine sq ?_
   refine aY hΓ fun K' hK=>?_
   simp only[go_sem]
   repeat (refine⟨ob,?_⟩)
   refine hK _ ?_
   clear K' hK
   simp only[go_sem]
   refine⟨(i,h),⟨by omega,by omega,dX,fun k hk B1=>?_⟩,by omega,?_⟩
   ·rcases Nat.lt_or_eq_of_le B1 with h5 | h5
    ·have:=hs h k h3 hk h5;omega
    ·subst h5;exact hx
   ·refine bq [0,1,2,8,9,10] [] ?_ ?_<;>simp only[go_sem]
 ·have he:i=j:=by
    have :¬ (i:Int)<j:=by simpa using hb
    omega
  subst he
  repeat refine sq ?_
  refine bM ?_
  simp only[go_sem]
  refine kp [0,1,2,8,9] [] ?_
  by_cases jm:i<l.length
  ·have B7:(i:Int)<l.length:=by omega
   repeat refine sq ?_
   refine rx hΓ [6,7] [] (fun K' hK=>by simp only[go_sem,ah jm,ai,aj,B7];exact fn) ?_
   refine ay ?_
   simp only[go_sem]
   rw[AR lO dX fK,UA hs jm dX fK]
   simp[Wd]
  ·have oX:i=l.length:=by omega
   have B7:¬ (i:Int)<l.length:=by omega
   obtain⟨k0,n0,Ui⟩:∃ k0 n0,(l.map cK).getD i default=.int k0 n0:=by
    refine⟨default,default,?_⟩
    rw[List.getD_eq_getElem?_getD,List.getElem?_eq_none (by simp;omega)]
    rfl
   repeat refine sq ?_
   refine rx hΓ [6,7] [] (fun K' hK=>by simp only[go_sem,Ui,ai,aj,B7];exact fn) ?_
   refine ay ?_
   simp only[go_sem]
   rw[AR lO dX fK,Uz fun k hk=>dX k hk (by omega)]
   simp
def dL(l:List Pap)(id:Int):Int:=match l.find? fun p=>p.id==id with
 |some p=>p.lv
 |none=>0
theorem Gb{l:List Pap}{x:Int}{i:Nat}(hi:i<l.length)(h:l[i].id=x)(h1:∀ k (h:k<l.length),k<i->l[k].id≠x):dL l x=l[i].lv:=by
 unfold dL
 have :(l.find? fun p=>p.id==x)=some l[i]:=by
  rw[List.find?_eq_some_iff_getElem]
  exact⟨by simpa using h,i,hi,rfl,fun j hj=>by simpa using h1 j (by omega) hj⟩
 rw[this]
theorem Ga{l:List Pap}{x:Int}(h1:∀ k (h:k<l.length),l[k].id≠x):dL l x=0:=by
 unfold dL
 have :(l.find? fun p=>p.id==x)=none:=by
  rw[List.find?_eq_none]
  intro p hp
  obtain⟨k,hk,rfl⟩:=List.getElem_of_mem hp
  simpa using h1 k hk
 rw[this]
theorem Qk{l:List Pap}{x:Int}(hs:srt Pap.id l)(h:nN Pap.id l x=true):∃ (h:pT Pap.id l x<l.length),l[pT Pap.id l x].lv=dL l x:=by
 obtain⟨k,hk,e⟩:=xV.1 h
 have e2:pT Pap.id l x=k:=AR (Nat.le_of_lt hk) (fun j hj lP=>by have:=hs j k hj hk lP;omega) (fun j hj lP=>by
  rcases Nat.lt_or_eq_of_le lP with h | rfl
  ·have:=hs k j hk hj h;omega
  ·omega)
 refine⟨e2▸hk,?_⟩
 rw[Gb hk e fun j hj lP=>by have:=hs j k hj hk lP;omega]
 congr
theorem Qj{l:List Pap}{x:Int}(h:nN Pap.id l x=false):dL l x=0:=Ga fun k hk e=>by
 rw[xV.2 ⟨k,hk,e⟩]at h;cases h
def K6:List (Nat×Spec):=[(168,XF)]
theorem Yn:KS K6:=tc Oi.sound<|tn
attribute [go_sem] K6
@[go_sem] def P79:PSpec:=p2 lG iI (fun l _=>srt Pap.id l.ps) (fun l x=>vInt (dL l.ps x)) true
@[go_sem] def vD:Spec:=P79.toSpec
theorem EJ:aU Tryz.prog 79 P79:=by
 refine dV (rs:=[.tmp 4]) Tryz.func79 Tryz.ntmps79 fun l x hp hw=>?_
 simp only[iI,lG,ie]at hw |-
 have hΓ:=Yn
 repeat refine sq ?_
 refine rs hΓ [0,1] [] ?_
 repeat refine sq ?_
 refine rx hΓ [0,5,6] [] (fun K' hK=>by simp only[go_sem,hp];exact fn) ?_
 repeat refine sq ?_
 refine rs hΓ [0,5,17] [] ?_
 repeat refine sq ?_
 refine aB (fun hb=>?_) fun hb=>?_
 ·repeat refine sq ?_
  have hf:nN Pap.id l.ps x=false:=by simpa using hb
  repeat refine sq ?_
  refine rs hΓ [4] [] ?_
  refine ay ?_
  simp only[go_sem]
  rw[Qj hf]
 ·repeat refine sq ?_
  have hf:nN Pap.id l.ps x=true:=by simpa using hb
  obtain⟨Ty,qm⟩:=Qk hp hf
  have Tx:(pT Pap.id l.ps x:Int)<l.ps.length:=by omega
  refine aG ?_
  repeat refine sq ?_
  refine rx hΓ [4] [] (fun K' hK=>by simp only[go_sem,ah Ty,ai,aj,Tx];exact fn) ?_
  refine ay ?_
  simp only[go_sem]
  rw[qm]
@[go_sem] def P84:PSpec:=p2 iL iI (fun _ _=>True) (fun l x=>vInt (dL l.ps x)) true
@[go_sem] def zf:Spec:=P84.toSpec
theorem NP:aU Tryz.prog 84 P84:=by
 refine dV (rs:=[.tmp 4]) Tryz.func84 Tryz.ntmps84 fun l x hp hw=>?_
 simp only[iI,iL,fY]at hw |-
 have hΓ:=@eT Tryz.prog
 have hl:l.ps.length<=maxLen:=by have:=hw.1;simp[V.wfL,V.wf]at this;omega
 repeat refine sq ?_
 refine rs hΓ [1,2] [[2,0]] ?_
 repeat refine sq ?_
 refine rs hΓ [1,2,5] [[2,0]] ?_
 repeat refine sq ?_
 refine aQ ?_
 repeat refine sq ?_
 refine cr (fun s:Nat=>[(5,⟨true,.v (vInt s)⟩)]) (fun s=>[]) (fun s=>s<=l.ps.length/\∀ k (h:k<l.ps.length),k<s->l.ps[k].id≠x) (fun s=>l.ps.length-s) 0 ?_ ?_ ?_ ?_
 ·exact⟨Nat.zero_le _,by simp⟩
 ·rfl
 ·rfl
 rintro i ⟨hi,hR⟩
 simp only[go_sem]
 repeat refine sq ?_
 refine rs hΓ [1,2,5,10] [[2,0]] ?_
 repeat refine sq ?_
 refine aB (fun hb=>?_) fun hb=>?_
 ·have ae:i<l.ps.length:=by simpa using hb
  have au:(i:Int)<l.ps.length:=by omega
  clear hb
  repeat refine sq ?_
  refine aG ?_
  repeat refine sq ?_
  refine aQ ?_
  repeat refine sq ?_
  refine rx hΓ [1,2,5,20] [[2,0]] (fun K' hK=>by simp only[go_sem,ah ae,ai,aj,au];exact fn) ?_
  repeat refine sq ?_
  refine aB (fun hb=>?_) fun hb=>?_
  ·repeat refine sq ?_
   refine rx hΓ [4] [] (fun K' hK=>by simp only[go_sem,ah ae,ai,aj,au];exact fn) ?_
   refine ay ?_
   simp only[go_sem]
   rw[Gb ae (by simpa using hb) hR]
  ·repeat refine sq ?_
   refine aG ?_
   refine bV ?_
   simp only[go_sem]
   refine kp [1,2,5] [[2,0]] ?_
   repeat refine sq ?_
   refine aY hΓ fun K' hK=>?_
   simp only[go_sem,ah ae,ai,aj,au]
   repeat (refine⟨ob,?_⟩)
   refine hK _ ?_
   clear K' hK
   simp only[go_sem]
   refine⟨i+1,⟨ae,?_⟩,by(show l.ps.length-(i+1)<l.ps.length-i;omega),?_⟩
   ·intro k hk dY
    rcases Nat.lt_succ_iff_lt_or_eq.1 dY with h5 | rfl
    ·exact hR k hk h5
    ·simpa using hb
   refine bq [1,2,5] [[2,0]] ?_ ?_<;>simp only[go_sem,be ae hl,bj]
 ·have bw:i=l.ps.length:=by
   have :¬ (i:Int)<l.ps.length:=by simpa using hb
   omega
  clear hb
  subst bw
  repeat refine sq ?_
  refine bM ?_
  simp only[go_sem]
  refine kp [] [] ?_
  repeat refine sq ?_
  refine rs hΓ [4] [] ?_
  refine ay ?_
  simp only[go_sem]
  rw[Ga fun k hk=>hR k hk hk]
end
end Go.Eng
set_option linter.unusedVariables false
namespace Go.Eng
open Go Go.Proofs Go.RowKit Go.Lib Go.Shelf
end Go.Eng
set_option linter.unusedVariables false
namespace Go.Eng
open Go Go.Proofs Go.RowKit Go.Lib Go.Shelf
set_option maxHeartbeats 2000000 in
set_option maxRecDepth 100000 in
theorem Wy(n c:Nat)(w:World):Calls Tryz.prog 132 #[.slice none n c] w fun e w'=>e=.returned (.slice none 0 0)/\w'=w:=by
 have mixed:Tryz.prog.follows Departure.mixedOrders=true:=by kernel_rfl
 have qT:∀ (w:World) (a:Option Addr) (n c n' c':Nat),(binOp .eql 29 (.slice a n c) (.slice none n' c')).run Tryz.prog w=.ok (.bool a.isNone) w:=fun w a n c n' c'=>Lib.run_eql_slice_nil w _ _ a n c n' c' Tryz.underlying29
 go_enter Tryz.func132,Tryz.ntmps132
 go_wp2
 go_ret
 exact⟨rfl,rfl⟩
set_option maxHeartbeats 2000000 in
set_option maxRecDepth 100000 in
theorem Wx(a:Addr)(n c:Nat)(w:World)(v':Value)(w':World)
 (cA:∀ ty,(Builtin.append_ #[29,29] ty #[.slice (some ⟨w.heap.size,0,none⟩) 0 0,.slice (some a) n c]).run Tryz.prog (w.alloc (.cells #[] 81))=.ok v' w'):
 Calls Tryz.prog 132 #[.slice (some a) n c] w fun e w1=>e=.returned v'/\w1=w':=by
 have mixed:Tryz.prog.follows Departure.mixedOrders=true:=by kernel_rfl
 have qT:∀ (w:World) (a:Option Addr) (n c n' c':Nat),(binOp .eql 29 (.slice a n c) (.slice none n' c')).run Tryz.prog w=.ok (.bool a.isNone) w:=fun w a n c n' c'=>Lib.run_eql_slice_nil w _ _ a n c n' c' Tryz.underlying29
 go_enter Tryz.func132,Tryz.ntmps132
 go_wp2_with (at_builtin;refine Lib.wpList_append_run _ rfl _ _ _ _ rfl _ _ rfl rfl _ _ (cA _) ?_)
 go_ret
 exact⟨rfl,rfl⟩
set_option maxHeartbeats 2000000 in
set_option maxRecDepth 100000 in
theorem Wv(n c:Nat)(w:World):Calls Tryz.prog 176 #[.slice none n c] w fun e w'=>e=.returned (.slice none 0 0)/\w'=w:=by
 have mixed:Tryz.prog.follows Departure.mixedOrders=true:=by kernel_rfl
 have qT:∀ (w:World) (a:Option Addr) (n c n' c':Nat),(binOp .eql 26 (.slice a n c) (.slice none n' c')).run Tryz.prog w=.ok (.bool a.isNone) w:=fun w a n c n' c'=>Lib.run_eql_slice_nil w _ _ a n c n' c' Tryz.underlying26
 go_enter Tryz.func176,Tryz.ntmps176
 go_wp2
 go_ret
 exact⟨rfl,rfl⟩
set_option maxHeartbeats 2000000 in
set_option maxRecDepth 100000 in
theorem Wu(a:Addr)(n c:Nat)(w:World)(v':Value)(w':World)
 (cA:∀ ty,(Builtin.append_ #[26,26] ty #[.slice (some ⟨w.heap.size,0,none⟩) 0 0,.slice (some a) n c]).run Tryz.prog (w.alloc (.cells #[] 46))=.ok v' w'):
 Calls Tryz.prog 176 #[.slice (some a) n c] w fun e w1=>e=.returned v'/\w1=w':=by
 have mixed:Tryz.prog.follows Departure.mixedOrders=true:=by kernel_rfl
 have qT:∀ (w:World) (a:Option Addr) (n c n' c':Nat),(binOp .eql 26 (.slice a n c) (.slice none n' c')).run Tryz.prog w=.ok (.bool a.isNone) w:=fun w a n c n' c'=>Lib.run_eql_slice_nil w _ _ a n c n' c' Tryz.underlying26
 go_enter Tryz.func176,Tryz.ntmps176
 go_wp2_with (at_builtin;refine Lib.wpList_append_run _ rfl _ _ _ _ rfl _ _ rfl rfl _ _ (cA _) ?_)
 go_ret
 exact⟨rfl,rfl⟩
set_option maxHeartbeats 2000000 in
set_option maxRecDepth 100000 in
theorem Ws(n c:Nat)(w:World):Calls Tryz.prog 177 #[.slice none n c] w fun e w'=>e=.returned (.slice none 0 0)/\w'=w:=by
 have mixed:Tryz.prog.follows Departure.mixedOrders=true:=by kernel_rfl
 have qT:∀ (w:World) (a:Option Addr) (n c n' c':Nat),(binOp .eql 27 (.slice a n c) (.slice none n' c')).run Tryz.prog w=.ok (.bool a.isNone) w:=fun w a n c n' c'=>Lib.run_eql_slice_nil w _ _ a n c n' c' Tryz.underlying27
 go_enter Tryz.func177,Tryz.ntmps177
 go_wp2
 go_ret
 exact⟨rfl,rfl⟩
set_option maxHeartbeats 2000000 in
set_option maxRecDepth 100000 in
theorem Wr(a:Addr)(n c:Nat)(w:World)(v':Value)(w':World)
 (cA:∀ ty,(Builtin.append_ #[27,27] ty #[.slice (some ⟨w.heap.size,0,none⟩) 0 0,.slice (some a) n c]).run Tryz.prog (w.alloc (.cells #[] 36))=.ok v' w'):
 Calls Tryz.prog 177 #[.slice (some a) n c] w fun e w1=>e=.returned v'/\w1=w':=by
 have mixed:Tryz.prog.follows Departure.mixedOrders=true:=by kernel_rfl
 have qT:∀ (w:World) (a:Option Addr) (n c n' c':Nat),(binOp .eql 27 (.slice a n c) (.slice none n' c')).run Tryz.prog w=.ok (.bool a.isNone) w:=fun w a n c n' c'=>Lib.run_eql_slice_nil w _ _ a n c n' c' Tryz.underlying27
 go_enter Tryz.func177,Tryz.ntmps177
 go_wp2_with (at_builtin;refine Lib.wpList_append_run _ rfl _ _ _ _ rfl _ _ rfl rfl _ _ (cA _) ?_)
 go_ret
 exact⟨rfl,rfl⟩
set_option maxHeartbeats 2000000 in
set_option maxRecDepth 100000 in
theorem Wp(n c:Nat)(w:World):Calls Tryz.prog 178 #[.slice none n c] w fun e w'=>e=.returned (.slice none 0 0)/\w'=w:=by
 have mixed:Tryz.prog.follows Departure.mixedOrders=true:=by kernel_rfl
 have qT:∀ (w:World) (a:Option Addr) (n c n' c':Nat),(binOp .eql 28 (.slice a n c) (.slice none n' c')).run Tryz.prog w=.ok (.bool a.isNone) w:=fun w a n c n' c'=>Lib.run_eql_slice_nil w _ _ a n c n' c' Tryz.underlying28
 go_enter Tryz.func178,Tryz.ntmps178
 go_wp2
 go_ret
 exact⟨rfl,rfl⟩
set_option maxHeartbeats 2000000 in
set_option maxRecDepth 100000 in
theorem Wo(a:Addr)(n c:Nat)(w:World)(v':Value)(w':World)
 (cA:∀ ty,(Builtin.append_ #[28,28] ty #[.slice (some ⟨w.heap.size,0,none⟩) 0 0,.slice (some a) n c]).run Tryz.prog (w.alloc (.cells #[] 40))=.ok v' w'):
 Calls Tryz.prog 178 #[.slice (some a) n c] w fun e w1=>e=.returned v'/\w1=w':=by
 have mixed:Tryz.prog.follows Departure.mixedOrders=true:=by kernel_rfl
 have qT:∀ (w:World) (a:Option Addr) (n c n' c':Nat),(binOp .eql 28 (.slice a n c) (.slice none n' c')).run Tryz.prog w=.ok (.bool a.isNone) w:=fun w a n c n' c'=>Lib.run_eql_slice_nil w _ _ a n c n' c' Tryz.underlying28
 go_enter Tryz.func178,Tryz.ntmps178
 go_wp2_with (at_builtin;refine Lib.wpList_append_run _ rfl _ _ _ _ rfl _ _ rfl rfl _ _ (cA _) ?_)
 go_ret
 exact⟨rfl,rfl⟩
set_option maxHeartbeats 2000000 in
set_option maxRecDepth 100000 in
theorem Wm(n c:Nat)(w:World):Calls Tryz.prog 179 #[.slice none n c] w fun e w'=>e=.returned (.slice none 0 0)/\w'=w:=by
 have mixed:Tryz.prog.follows Departure.mixedOrders=true:=by kernel_rfl
 have qT:∀ (w:World) (a:Option Addr) (n c n' c':Nat),(binOp .eql 32 (.slice a n c) (.slice none n' c')).run Tryz.prog w=.ok (.bool a.isNone) w:=fun w a n c n' c'=>Lib.run_eql_slice_nil w _ _ a n c n' c' Tryz.underlying32
 go_enter Tryz.func179,Tryz.ntmps179
 go_wp2
 go_ret
 exact⟨rfl,rfl⟩
set_option maxHeartbeats 2000000 in
set_option maxRecDepth 100000 in
theorem Wl(a:Addr)(n c:Nat)(w:World)(v':Value)(w':World)
 (cA:∀ ty,(Builtin.append_ #[32,32] ty #[.slice (some ⟨w.heap.size,0,none⟩) 0 0,.slice (some a) n c]).run Tryz.prog (w.alloc (.cells #[] 3))=.ok v' w'):
 Calls Tryz.prog 179 #[.slice (some a) n c] w fun e w1=>e=.returned v'/\w1=w':=by
 have mixed:Tryz.prog.follows Departure.mixedOrders=true:=by kernel_rfl
 have qT:∀ (w:World) (a:Option Addr) (n c n' c':Nat),(binOp .eql 32 (.slice a n c) (.slice none n' c')).run Tryz.prog w=.ok (.bool a.isNone) w:=fun w a n c n' c'=>Lib.run_eql_slice_nil w _ _ a n c n' c' Tryz.underlying32
 go_enter Tryz.func179,Tryz.ntmps179
 go_wp2_with (at_builtin;refine Lib.wpList_append_run _ rfl _ _ _ _ rfl _ _ rfl rfl _ _ (cA _) ?_)
 go_ret
 exact⟨rfl,rfl⟩
def Z81:Value:=.agg #[.int .i64 0,.int .i64 0,.int .i64 0,.int .i64 0,.int .i64 0,.int .i64 0,.int .i64 0]
def Z46:Value:=.agg #[.int .i64 0,.int .i64 0]
def Z36:Value:=.agg #[.int .i64 0,.int .i64 0,.int .i64 0,.slice none 0 0,.int .i64 0,.int .i64 0,.int .i64 0]
def Z40:Value:=.agg #[.int .i64 0,.int .i64 0,.int .i64 0,.slice none 0 0,.int .i64 0,.int .i64 0,.int .i64 0,.int .i64 0]
theorem lC(n:Nat)(h:n<1000000000):n≠yid:=by unfold yid;omega
theorem KJ:pB Tryz.prog 132 29 81 7 56 Z81:=
 ⟨by kernel_rfl,by kernel_rfl,lC _ (by decide),gK Tryz.func132 (by rfl) (by kernel_rfl),Wy,Wx⟩
theorem Ww:pB Tryz.prog 176 26 46 2 16 Z46:=
 ⟨by kernel_rfl,by kernel_rfl,lC _ (by decide),gK Tryz.func176 (by rfl) (by kernel_rfl),Wv,Wu⟩
theorem Wt:pB Tryz.prog 177 27 36 7 72 Z36:=
 ⟨by kernel_rfl,by kernel_rfl,lC _ (by decide),gK Tryz.func177 (by rfl) (by kernel_rfl),Ws,Wr⟩
theorem Wq:pB Tryz.prog 178 28 40 8 80 Z40:=
 ⟨by kernel_rfl,by kernel_rfl,lC _ (by decide),gK Tryz.func178 (by rfl) (by kernel_rfl),Wp,Wo⟩
theorem Wn:pB Tryz.prog 179 32 3 1 8 (.int .i64 0):=
 ⟨by kernel_rfl,by kernel_rfl,lC _ (by decide),gK Tryz.func179 (by rfl) (by kernel_rfl),Wm,Wl⟩
open Go Go.Proofs
def eB(l:List Int):List (V×V):=l.map fun s=>(vInt s,.bool true)
def mL(es:List (V×V)):List Int:=es.map fun q=>iW q.1
@[go_sem] theorem VQ(l:List Int):mL (eB l)=l:=by
  unfold mL eB
  rw[List.map_map]
  exact List.map_id _
def pv(l:List Int)(s:Int):List Int:=if l.contains s then l else l++[s]
theorem Qc(l:List Int)(s:Int):el (eB l) (vInt s)=if l.contains s then some (.bool true)else none:=by
 induction l with
 |nil=>rfl
 |cons a r ih=>
  show (if eK (vInt a) (vInt s)=true then some (V.bool true)else el (eB r) (vInt s))=_
  rw[ih]
  by_cases h:a=s
  ·subst h;simp[eK]
  ·have h':(a==s)=false:=by simpa using h
   have fL:(s==a)=false:=by simpa using fun e=>h e.symm
   have h3:¬ s=a:=fun e=>h e.symm
   simp[eK,h',h3]
theorem AK(l:List Int)(s:Int):(el (eB l) (vInt s)).getD (.bool false)=.bool (l.contains s):=by
 rw[Qc]
 cases l.contains s<;>rfl
theorem AH(l:List Int)(s:Int):dt (eB l) (vInt s) (.bool true)=eB (pv l s):=by
 induction l with
 |nil=>rfl
 |cons a r ih=>
  show (if eK (vInt a) (vInt s)=true then(vInt s,V.bool true)::eB r else(vInt a,V.bool true)::dt (eB r) (vInt s) (.bool true))=_
  rw[ih]
  unfold pv
  by_cases h:a=s
  ·subst h;simp[eK,eB]
  ·have h':(a==s)=false:=by simpa using h
   have fL:(s==a)=false:=by simpa using fun e=>h e.symm
   simp only[eK,h',Bool.false_eq_true,if_false,List.contains_cons,fL,Bool.false_or]
   split<;>rfl
def Al(obj:Name->Option O)(_:Name):List D->List Name
 |[_,.ref nm _]=>nm::(match obj nm with | some (.box [.map mm])=>[mm] | _=>[])
 |_=>[]
def oB(obj:Name->Option O)(_:Name):List D->R
 |[.v (.int .i64 s),.ref nm 0]=>match obj nm with
  |some (.box [.map mm])=>match obj mm with
   |some (.map 0 es)=>⟨(mm==nm)=false/\eB (mL es)=es,.v (.bool (!(mL es).contains s)),upd obj mm (some (.map 0 (eB (pv (mL es) s))))⟩
   |_=>.bad obj
  |_=>.bad obj
 |_=>.bad obj
def onceS:Spec:=⟨oB,Al,Al⟩
theorem PF:onceS.Near:=by
 refine tS fun obj obj2 t ds ha=>?_
 unfold Al at ha |-
 split
 ·rename_i d nm off
  simp only at ha
  have h1:obj2 nm=obj nm:=ha nm (by simp)
  refine⟨by rw[h1],?_⟩
  have fG:∀ wr,bC wr obj obj2->bG (R.bad obj) (R.bad obj2) obj obj2 wr:=fun wr h=>.none wr h
  unfold oB
  split
  ·rename_i s jb e
   simp only[List.cons.injEq,D.ref.injEq,and_true]at e
   obtain⟨_,rfl,rfl⟩:=e
   simp only[h1]
   split at ha
   ·rename_i mm hm
    have h2:obj2 mm=obj mm:=ha mm (by simp)
    simp only[h2,hm]
    split
    ·exact .one (by simp) ha
    ·exact fG _ ha
   ·exact fG _ ha
  ·exact fG _ ha
 ·refine⟨rfl,?_⟩
  rename_i jR
  unfold oB
  split
  ·exact(jR _ _ _ rfl).elim
  ·exact .none _ (fun _ h=>by cases h)
attribute [go_sem] onceS oB
def tO:CSpec where
 pre:=fun os ds=>∃ (ss:List Int) (s:Int),os=[.box [.map [1,1]],.map 0 (eB ss)]/\ds=[.v (vInt s),.ref [0,1] 0]
 out:=fun os ds=>match os,ds with
  |[_,.map _ es],[.v (.int _ s),_]=>⟨[(1,.map 0 (eB (pv (mL es) s)))],[],.v (.bool (!(mL es).contains s))⟩
  |_,_=>⟨[],[],.any⟩
theorem PE{f:FuncId}(h:aL Tryz.prog f tO.toSpec)(aD:f≠yid):aL Tryz.prog f onceS:=by
 refine tu h PF aD fun obj t ds aa=>?_
 change (oB obj t ds).ok at aa
 refine⟨ds,rfl,fun _ _ _ _ h=>h,?_⟩
 show _/\_=(oB obj t ds).d/\_=(oB obj t ds).obj
 unfold oB at aa |-
 split at aa
 ·rename_i s nm
  split at aa
  ·rename_i mm hb
   split at aa
   ·rename_i es hm
    obtain⟨kD,T6⟩:=aa
    have I7:mm≠nm:=by simpa using kD
    have Ux:(nm==mm)=false:=by simpa using fun e=>I7 e.symm
    have hr:reach obj [.v (.int .i64 s),.ref nm 0]=[nm,mm]:=by
     unfold reach
     show cY obj (2997+1+1+1) [nm] []=[nm,mm]
     simp only[cY,cE,List.any_nil,Bool.false_eq_true,if_false,hb,kx,cI,ky,List.nil_append,List.append_nil,List.any_cons,Ux,Bool.or_false,hm,List.cons_append]
    have i0:idx [nm,mm] nm=0:=by simp[idx]
    have i1:idx [nm,mm] mm=1:=by simp[idx,Ne.symm I7]
    have e1:cb obj [.v (.int .i64 s),.ref nm 0]=[.box [.map [1,1]],.map 0 es]:=by
     unfold cb
     rw[hr]
     simp only[List.map_cons,List.map_nil,ck,hb,hm,O.ren,D.renL,D.ren,cin,i1]
    have e2:cH obj [.v (.int .i64 s),.ref nm 0]=[.v (.int .i64 s),.ref [0,1] 0]:=by
     unfold cH
     rw[hr]
     simp only[D.renL,D.ren,cin,i0]
    have hG:tO.out [.box [.map [1,1]],.map 0 es] [.v (.int .i64 s),.ref [0,1] 0]=⟨[(1,.map 0 (eB (pv (mL es) s)))],[],.v (.bool (!(mL es).contains s))⟩:=rfl
    have dn:tO.pre [.box [.map [1,1]],.map 0 es] [.v (.int .i64 s),.ref [0,1] 0]:=⟨mL es,s,by rw[T6],rfl⟩
    have e3:(shut obj [nm,mm]&&D.closL (cE [nm,mm]) [.v (.int .i64 s),.ref nm 0]&&fresh obj t [])=true:=by
     simp[shut,hb,hm,O.clos,D.closL,D.clos,cE,fresh]
    simp only[CSpec.toSpec,e1,e2,hr,hG,e3,dn,hb,hm,and_self,cV,cf,D.ren,D.renL,O.ren,cout,List.getD_cons_zero,List.getD_cons_succ]
   ·exact aa.elim
  ·exact aa.elim
 ·exact aa.elim
set_option maxHeartbeats 8000000
noncomputable section
def S117:Spec:=onceS
attribute [go_sem] S117
theorem Sw:aL Tryz.prog 117 S117:=by
 refine PE ?_ (lC _ (by decide))
 refine mM (nt:=12) (rs:=[.tmp 3]) Tryz.func117 rfl (by rfl) (by kernel_rfl) (gK Tryz.func117 rfl (by kernel_rfl)) (lC _ (by decide)) ?_
 rintro os ds ⟨ss,s,rfl,rfl⟩
 refine⟨Nat.le_of_ble_eq_true rfl,?_⟩
 have hG:tO.out [.box [.map [1,1]],.map 0 (eB ss)] [.v (vInt s),.ref [0,1] 0]=⟨[(1,.map 0 (eB (pv ss s)))],[],.v (.bool (!ss.contains s))⟩:=by
  simp only[tO,VQ]
 rw[hG]
 refine il ?_
 have hΓ:=@eT Tryz.prog
 have dg:∀ hs,bP [0] (bL [0] hs) (aS [.box [.map [1,1]],.map 0 (eB ss)])=True:=fun hs=>eq_true (nj (by
  intro o ho dom hd
  simp only[List.mem_cons,List.not_mem_nil,or_false]at ho
  rcases ho with rfl | rfl
  ·simp[O.clos,D.closL,D.clos,hd]
  ·rfl) hs)
 have h0:aS [.box [.map [1,1]],.map 0 (eB ss)] [0,1]=some (.box [.map [1,1]]):=rfl
 have h1:aS [.box [.map [1,1]],.map 0 (eB ss)] [1,1]=some (.map 0 (eB ss)):=rfl
 generalize hH:aS [.box [.map [1,1]],.map 0 (eB ss)]=H at *
 have ab:∀ hs es,bP [0] (bL [0] hs) (upd H [1,1] (some (.map 0 es)))=True:=fun hs es=>eq_true (ri rfl (by rw[dg];trivial))
 have a7:∀ hs es,bP [0] (bL [0] hs) (fun nm=>if nm=[1,1]then some (.map 0 es)else H nm)=True:=ab
 repeat refine sq ?_
 refine rx hΓ [0,1] [] (fun K' hK=>by simp only[go_sem,dg];(repeat (refine⟨ob,?_⟩));exact hK _ (by simp only[go_sem,dg]) (by simp only[go_sem,dg]<;>rfl)) ?_
 repeat refine sq ?_
 refine rx hΓ [0,1,4] [] (fun K' hK=>by simp only[go_sem,dg,h0,h1,AK];(repeat (refine⟨ob,?_⟩));exact hK _ (by simp only[go_sem,dg,h0,h1,AK]) (by simp only[go_sem,dg,h0,h1,AK]<;>rfl)) ?_
 repeat refine sq ?_
 refine rx hΓ [4] [] (fun K' hK=>by simp only[go_sem,dg,ab,a7,h0,h1,AH];(repeat (refine⟨ob,?_⟩));exact hK _ (by simp only[go_sem,dg,ab,a7,h0,h1,AH]) (by simp only[go_sem,dg,ab,a7,h0,h1,AH]<;>rfl)) ?_
 repeat refine sq ?_
 refine rx hΓ [3] [] (fun K' hK=>by simp only[go_sem,dg,ab,a7];(repeat (refine⟨ob,?_⟩));exact hK _ (by simp only[go_sem,dg,ab,a7]) (by simp only[go_sem,dg,ab,a7]<;>rfl)) ?_
 refine ay ?_
 simp only[go_sem]
 exact⟨h0,rfl⟩
def K7:List (Nat×Spec):=[(109,XS),(111,XQ),(113,XO),(115,XM),(117,S117),(79,vD)]
theorem Yc:KS K7:=tc OG.sound<|tc OE.sound<|tc OC.sound<|tc OA.sound<|tc Sw<|tc EJ.sound<|tn
attribute [go_sem] K7
def sn{α:Type}(pre:List Int)(f:α->Int)(l:List α)(i:Nat):List Int:=(l.take i).foldl (fun a x=>a++[f x]) pre
theorem m6{α:Type}(pre:List Int)(f:α->Int)(l:List α)(i:Nat):sn pre f l i=pre++(l.take i).map f:=by
 unfold sn
 generalize l.take i=k
 induction k generalizing pre with
 |nil=>simp
 |cons a r ih=>simp[ih]
theorem zM{α:Type}{pre:List Int}{f:α->Int}{l:List α}{i:Nat}(h:i<l.length)(hc:(sn pre f l i).contains (f l[i])=false):pv (sn pre f l i) (f l[i])=sn pre f l (i+1):=by
 unfold pv
 rw[hc,m6,m6,List.take_add_one,List.getElem?_eq_getElem h]
 simp only[Bool.false_eq_true,if_false,Option.toList_some,List.map_append,List.map_cons,List.map_nil,List.append_assoc]
def nC(l:List Int):Int:=l.getD (l.length-1) 0
def tv(l:Led):List Int:=l.rs.map Rec.so++l.ts.map Ret.so++l.ss.map Sig.so
structure b7 (l:Led):Prop where
 ps:gr ni Pap.id l.ps=true
 psn:l.ps.length<=12
 rs:gr dK Rec.so l.rs=true
 rsn:l.rs.length<=60
 ts:gr i7 Ret.so l.ts=true
 tsn:l.ts.length<=60
 ss:gr kh Sig.so l.ss=true
 ssn:l.ss.length<=60
 rl:∀ j (h:j<l.rs.length),nC l.rs[j].lv<=dL l.ps l.rs[j].pa
 sl:∀ j (h:j<l.ss.length),l.ss[j].le<=dL l.ps l.ss[j].pa
 nd:(tv l).Nodup
open Classical in
def tQ(l:Led):Bool:=decide (b7 l)
theorem tP{l:Led}:tQ l=true↔b7 l:=by unfold tQ;exact @decide_eq_true_iff _ (Classical.propDecidable _)
def mP(l:Led):Int:=fW (tQ l) 24
theorem vo{l:Led}(h:¬ b7 l):mP l=24:=by unfold mP;rw[sX tP h];rfl
theorem WD{l:Led}(h:b7 l):mP l=0:=by unfold mP;rw[tP.2 h];rfl
def ku{α:Type}(pre:List Int)(f:α->Int)(l:List α)(i:Nat):Prop:=∀ j (h:j<l.length),j<i->(sn pre f l j).contains (f l[j])=false
theorem AB{α:Type}{pre:List Int}{f:α->Int}{l:List α}{i:Nat}(h:ku pre f l i)(hi:i<l.length)(hc:(sn pre f l i).contains (f l[i])=false):ku pre f l (i+1):=by
 intro j hj du
 rcases Nat.lt_succ_iff_lt_or_eq.1 du with h1 | rfl
 ·exact h j hj h1
 ·exact hc
theorem sb{α:Type}{pre:List Int}{f:α->Int}{l:List α}(hp:pre.Nodup):ku pre f l l.length↔(pre++l.map f).Nodup:=by
 constructor
 ·intro h
  rw[List.nodup_append]
  refine⟨hp,?_,?_⟩
  ·rw[List.nodup_iff_pairwise_ne,List.pairwise_map,List.pairwise_iff_getElem]
   intro i j hi hj fb e
   have :=h j hj hj
   rw[m6]at this
   simp only[List.contains_append,Bool.or_eq_false_iff]at this
   have h2:=this.2
   have :(List.map f (List.take j l)).contains (f l[j])=true:=by
    rw[List.contains_iff_mem,List.mem_map]
    exact⟨l[i],by rw[List.mem_take_iff_getElem];exact⟨i,by omega,rfl⟩,e⟩
   rw[h2]at this;cases this
  ·intro a ha b hb e
   subst e
   obtain⟨x,hx,rfl⟩:=List.mem_map.1 hb
   obtain⟨j,hj,rfl⟩:=List.getElem_of_mem hx
   have :=h j hj hj
   rw[m6]at this
   simp only[List.contains_append,Bool.or_eq_false_iff]at this
   have h2:=this.1
   rw[List.contains_iff_mem.2 ha]at h2;cases h2
 ·intro h j hj _
  rw[List.nodup_append]at h
  obtain⟨_,h1,h2⟩:=h
  rw[m6,Bool.eq_false_iff]
  intro hc
  rw[List.contains_iff_mem,List.mem_append]at hc
  rcases hc with hc | hc
  ·exact h2 _ hc _ (List.mem_map_of_mem (List.getElem_mem hj)) rfl
  ·obtain⟨x,hx,e⟩:=List.mem_map.1 hc
   obtain⟨i,hi,rfl⟩:=List.mem_take_iff_getElem.1 hx
   rw[List.nodup_iff_pairwise_ne,List.pairwise_map,List.pairwise_iff_getElem]at h1
   exact h1 i j (by omega) hj (by omega) e
theorem FV{α:Type}{pre:List Int}{f:α->Int}{l:List α}(h:(pre++l.map f).Nodup):pre.Nodup:=(List.nodup_append.1 h).1
def O9(l:Led)(i:Nat):Prop:=∀ j (h:j<l.rs.length),j<i->nC l.rs[j].lv<=dL l.ps l.rs[j].pa
def M8(l:Led)(i:Nat):Prop:=∀ j (h:j<l.ss.length),j<i->l.ss[j].le<=dL l.ps l.ss[j].pa
theorem DR{l:Led}(h:b7 l):ku [] Rec.so l.rs l.rs.length/\ku (sn [] Rec.so l.rs l.rs.length) Ret.so l.ts l.ts.length/\ku (sn (sn [] Rec.so l.rs l.rs.length) Ret.so l.ts l.ts.length) Sig.so l.ss l.ss.length:=by
 have hn:=h.nd
 unfold tv at hn
 have e1:sn [] Rec.so l.rs l.rs.length=l.rs.map Rec.so:=by rw[m6,List.take_length];rfl
 have e2:sn (sn [] Rec.so l.rs l.rs.length) Ret.so l.ts l.ts.length=l.rs.map Rec.so++l.ts.map Ret.so:=by rw[m6,e1,List.take_length]
 have n2:=FV hn
 have n1:=FV n2
 refine⟨(sb (by simp)).2 (by simpa using n1),?_,?_⟩
 ·rw[e1];exact(sb n1).2 n2
 ·rw[e2];exact(sb n2).2 hn
theorem X2{l:Led}(h1:ku [] Rec.so l.rs l.rs.length)(h2:ku (sn [] Rec.so l.rs l.rs.length) Ret.so l.ts l.ts.length)(h3:ku (sn (sn [] Rec.so l.rs l.rs.length) Ret.so l.ts l.ts.length) Sig.so l.ss l.ss.length):(tv l).Nodup:=by
 have e1:sn [] Rec.so l.rs l.rs.length=l.rs.map Rec.so:=by rw[m6,List.take_length];rfl
 have e2:sn (sn [] Rec.so l.rs l.rs.length) Ret.so l.ts l.ts.length=l.rs.map Rec.so++l.ts.map Ret.so:=by rw[m6,e1,List.take_length]
 have n1:(l.rs.map Rec.so).Nodup:=by simpa using(sb (pre:=[]) (by simp)).1 h1
 have n2:=(sb n1).1 (by rw[e1]at h2;exact h2)
 exact(sb n2).1 (by rw[e2]at h3;exact h3)
theorem WL{a b c d:Bool}{p q r s:Prop}[Decidable p][Decidable q][Decidable r][Decidable s](h:(!(a&&decide p)||!(b&&decide q)||!(c&&decide r)||!(d&&decide s))=false):a=true/\p/\b=true/\q/\c=true/\r/\d=true/\s:=by
 simp only[Bool.or_eq_false_iff,Bool.not_eq_false',Bool.and_eq_true,decide_eq_true_eq]at h
 obtain⟨⟨⟨⟨h1,h2⟩,h3,h4⟩,h5,h6⟩,h7,h8⟩:=h
 exact⟨h1,h2,h3,h4,h5,h6,h7,h8⟩
theorem qW{α:Type}{eu:α->Bool}{num:α->Int}{l:List α}(h:gr eu num l=true){j:Nat}(hj:j<l.length):eu l[j]=true:=(j7.1 h j hj hj).1
theorem O'{r:Rec}(h:dK r=true):0<r.lv.length:=by
 unfold dK at h
 simp only[Bool.and_eq_true]at h
 exact(pV.1 h.1.1.2).1
@[go_sem] def P37:PSpec:=p1 iL (fun _=>True) (fun l=>vInt (mP l)) true
@[go_sem] def DF:Spec:=P37.toSpec
theorem N5:aU Tryz.prog 37 P37:=by
 refine fw (rs:=[.tmp 2]) Tryz.func37 Tryz.ntmps37 fun l hp hw=>?_
 have hP:=fB
 simp only[iL,fY]at hw |-
 have hΓ:=Yc
 repeat refine sq ?_
 refine rs hΓ [1] [[1,0]] ?_
 repeat refine sq ?_
 refine rs hΓ [1,32] [[1,0]] ?_
 repeat refine sq ?_
 refine aB (fun hb=>?_) fun hb=>?_
 ·repeat refine sq ?_
  have fU:¬ b7 l:=by
   intro h
   rw[h.ps,h.rs,h.ts,h.ss]at hb
   have h1:=h.psn
   have h2:=h.rsn
   have h3:=h.tsn
   have h4:=h.ssn
   simp only[Bool.true_and,Bool.or_eq_true,Bool.not_eq_true',decide_eq_false_iff_not]at hb
   omega
  repeat refine sq ?_
  refine rs hΓ [2] [] ?_
  refine ay ?_
  simp only[go_sem]
  rw[vo fU]
 ·repeat refine sq ?_
  obtain⟨fF,IX,bW,lJ,my,xl,qb,Bx⟩:=WL hb
  have xm:srt Pap.id l.ps:=wH (j7.1 fF)
  have xH:l.rs.length<=maxLen:=by unfold maxLen;omega
  have lN:l.ts.length<=maxLen:=by unfold maxLen;omega
  have Tw:l.ss.length<=maxLen:=by unfold maxLen;omega
  refine aG ?_
  repeat refine sq ?_
  refine rs hΓ [1,3] [[1,0],[3,0],[33,0]] ?_
  repeat refine sq ?_
  refine rs hΓ [1,4] [[1,0],[3,0],[33,0]] ?_
  repeat refine sq ?_
  refine rs hΓ [1,4,36,37,38] [[1,0],[3,0],[33,0]] ?_
  repeat refine sq ?_
  refine aQ ?_
  repeat refine sq ?_
  refine cr (fun s:Nat=>[(38,⟨true,.v (vInt s)⟩)]) (fun s=>[([33,0],.map 0 (eB (sn [] Rec.so l.rs s)))]) (fun s=>s<=l.rs.length/\ku [] Rec.so l.rs s/\O9 l s) (fun s=>l.rs.length-s) 0 ?_ ?_ ?_ ?_
  ·exact⟨Nat.zero_le _,fun j _ h=>by omega,fun j _ h=>by omega⟩
  ·rfl
  ·rfl
  rintro i ⟨hi,hR,JF⟩
  simp only[go_sem]
  repeat refine sq ?_
  refine rs hΓ [1,4,36,37,38,39] [[1,0],[3,0],[33,0]] ?_
  repeat refine sq ?_
  refine aB (fun hb=>?_) fun hb=>?_
  ·have ae:i<l.rs.length:=by simpa using hb
   have au:(i:Int)<l.rs.length:=by omega
   clear hb
   have hv:=O' (qW bW ae)
   have IC:l.rs[i].lv.length<=maxLen:=by have h0:=(pV.1 (by have h:=qW bW ae;unfold dK at h;simp only[Bool.and_eq_true]at h;exact h.1.1.2:jJ l.rs[i].lv=true)).2.1;unfold maxLen;omega
   have uC:=zr (by omega:¬ l.rs[i].lv.length=0) IC
   have BH:((l.rs[i].lv.length-1:Nat):Int)<l.rs[i].lv.length:=by omega
   have xp:l.rs[i].lv.length-1<l.rs[i].lv.length:=by omega
   have TS:(l.rs[i].lv.map vInt).getD (l.rs[i].lv.length-1) default=vInt (nC l.rs[i].lv):=by unfold nC;rw[ah xp,dv xp]
   repeat refine sq ?_
   refine aG ?_
   repeat refine sq ?_
   refine aQ ?_
   repeat refine sq ?_
   refine rx hΓ [1,4,6,36,37,38] [[1,0],[3,0],[6,0],[33,0]] (fun K' hK=>by simp only[go_sem,ah ae,ai,aj,au];exact fn) ?_
   repeat refine sq ?_
   refine dx hΓ hP [[],[],[1],[0,1,2],u4,u5,u6,u7,u6,[0,1,2,3,4,5,8],[0,1,2,3,4,5,8,9],[0,1,2,3,4,5,8,9,10],gd,pF,u6,[0,1,2,3,4,5,14],[0,1,2,3,4,5,14,15],rC,jy] [1,4,36,37,38,60] [[1,0],[3,0],[33,0]] (by kernel_rfl) (fun K' hK=>by simp only[go_sem,ah ae,ai,aj,au,xm,uC,TS,BH];exact fd) ?_
   repeat refine sq ?_
   refine aB (fun hb=>?_) fun hb=>?_
   ·repeat refine sq ?_
    have fU:¬ b7 l:=by
     intro h
     have h1:=(DR h).1 i ae ae
     have h2:=h.rl i ae
     rw[h1]at hb
     simp only[Bool.not_false,Bool.not_true,Bool.false_or,decide_eq_true_eq]at hb
     omega
    repeat refine sq ?_
    refine rx hΓ [2] [] (fun K' hK=>by simp only[go_sem,ah ae,ai,aj,au];exact fn) ?_
    refine ay ?_
    simp only[go_sem]
    rw[vo fU]
   ·repeat refine sq ?_
    have oV:(sn [] Rec.so l.rs i).contains l.rs[i].so=false:=by
     simp only[Bool.or_eq_false_iff,Bool.not_not]at hb
     exact hb.1
    have xE:nC l.rs[i].lv<=dL l.ps l.rs[i].pa:=by
     simp only[Bool.or_eq_false_iff,decide_eq_false_iff_not]at hb
     omega
    rw[zM ae oV]
    refine aG ?_
    refine bV ?_
    simp only[go_sem]
    refine kp [1,4,36,37,38] [[1,0],[3,0],[33,0]] ?_
    repeat refine sq ?_
    refine aY hΓ fun K' hK=>?_
    simp only[go_sem,ah ae,ai,aj,au]
    repeat (refine⟨ob,?_⟩)
    refine hK _ ?_
    clear K' hK
    simp only[go_sem]
    refine⟨i+1,⟨ae,?_⟩,by(show l.rs.length-(i+1)<l.rs.length-i;omega),?_⟩
    ·exact⟨AB hR ae oV,fun j hj du=>by
      rcases Nat.lt_succ_iff_lt_or_eq.1 du with h1 | rfl
      ·exact JF j hj h1
      ·exact xE⟩
    refine bq [1,4,36,37,38] [[1,0],[3,0],[33,0]] ?_ ?_<;>simp only[go_sem,be ae xH,bj]
  ·have bw:i=l.rs.length:=by
    have :¬ (i:Int)<l.rs.length:=by simpa using hb
    omega
   clear hb
   subst bw
   repeat refine sq ?_
   refine bM ?_
   simp only[go_sem]
   refine kp [1,4] [[1,0],[3,0],[33,0]] ?_
   repeat refine sq ?_
   refine rs hΓ [1,4,63,64,65] [[1,0],[3,0],[33,0]] ?_
   repeat refine sq ?_
   refine aQ ?_
   repeat refine sq ?_
   refine cr (fun s:Nat=>[(65,⟨true,.v (vInt s)⟩)]) (fun s=>[([33,0],.map 0 (eB (sn (sn [] Rec.so l.rs l.rs.length) Ret.so l.ts s)))]) (fun s=>s<=l.ts.length/\ku (sn [] Rec.so l.rs l.rs.length) Ret.so l.ts s) (fun s=>l.ts.length-s) 0 ?_ ?_ ?_ ?_
   ·exact⟨Nat.zero_le _,fun j _ h=>by omega⟩
   ·rfl
   ·rfl
   rintro i ⟨hi1,JE⟩
   simp only[go_sem]
   repeat refine sq ?_
   refine rs hΓ [1,4,63,64,65,66] [[1,0],[3,0],[33,0]] ?_
   repeat refine sq ?_
   refine aB (fun hb=>?_) fun hb=>?_
   ·have aJ:i<l.ts.length:=by simpa using hb
    have bh:(i:Int)<l.ts.length:=by omega
    clear hb
    repeat refine sq ?_
    refine aG ?_
    repeat refine sq ?_
    refine aQ ?_
    repeat refine sq ?_
    refine rx hΓ [1,4,8,63,64,65] [[1,0],[3,0],[8,0],[33,0]] (fun K' hK=>by simp only[go_sem,ah aJ,ai,aj,bh];exact fn) ?_
    repeat refine sq ?_
    refine rx hΓ [1,4,63,64,65,73] [[1,0],[3,0],[33,0]] (fun K' hK=>by simp only[go_sem,ah aJ,ai,aj,bh];exact fn) ?_
    repeat refine sq ?_
    refine aB (fun hb=>?_) fun hb=>?_
    ·repeat refine sq ?_
     have fU:¬ b7 l:=by
      intro h
      have h1:=(DR h).2.1 i aJ aJ
      rw[h1]at hb
      cases hb
     repeat refine sq ?_
     refine rx hΓ [2] [] (fun K' hK=>by simp only[go_sem,ah aJ,ai,aj,bh];exact fn) ?_
     refine ay ?_
     simp only[go_sem]
     rw[vo fU]
    ·repeat refine sq ?_
     have oV:(sn (sn [] Rec.so l.rs l.rs.length) Ret.so l.ts i).contains l.ts[i].so=false:=by
      simpa only[Bool.not_not]using hb
     rw[zM aJ oV]
     refine aG ?_
     refine bV ?_
     simp only[go_sem]
     refine kp [1,4,63,64,65] [[1,0],[3,0],[33,0]] ?_
     repeat refine sq ?_
     refine aY hΓ fun K' hK=>?_
     simp only[go_sem,ah aJ,ai,aj,bh]
     repeat (refine⟨ob,?_⟩)
     refine hK _ ?_
     clear K' hK
     simp only[go_sem]
     refine⟨i+1,⟨aJ,?_⟩,by(show l.ts.length-(i+1)<l.ts.length-i;omega),?_⟩
     ·exact AB JE aJ oV
     refine bq [1,4,63,64,65] [[1,0],[3,0],[33,0]] ?_ ?_<;>simp only[go_sem,be aJ lN,bj]
   ·have iQ:i=l.ts.length:=by
     have :¬ (i:Int)<l.ts.length:=by simpa using hb
     omega
    clear hb
    subst iQ
    repeat refine sq ?_
    refine bM ?_
    simp only[go_sem]
    refine kp [1,4] [[1,0],[3,0],[33,0]] ?_
    repeat refine sq ?_
    refine rs hΓ [1,4,76,77,78] [[1,0],[3,0],[33,0]] ?_
    repeat refine sq ?_
    refine aQ ?_
    repeat refine sq ?_
    refine cr (fun s:Nat=>[(78,⟨true,.v (vInt s)⟩)]) (fun s=>[([33,0],.map 0 (eB (sn (sn (sn [] Rec.so l.rs l.rs.length) Ret.so l.ts l.ts.length) Sig.so l.ss s)))]) (fun s=>s<=l.ss.length/\ku (sn (sn [] Rec.so l.rs l.rs.length) Ret.so l.ts l.ts.length) Sig.so l.ss s/\M8 l s) (fun s=>l.ss.length-s) 0 ?_ ?_ ?_ ?_
    ·exact⟨Nat.zero_le _,fun j _ h=>by omega,fun j _ h=>by omega⟩
    ·rfl
    ·rfl
    rintro i ⟨jP,JD,JC⟩
    simp only[go_sem]
    repeat refine sq ?_
    refine rs hΓ [1,4,76,77,78,79] [[1,0],[3,0],[33,0]] ?_
    repeat refine sq ?_
    refine aB (fun hb=>?_) fun hb=>?_
    ·have bN:i<l.ss.length:=by simpa using hb
     have fk:(i:Int)<l.ss.length:=by omega
     clear hb
     repeat refine sq ?_
     refine aG ?_
     repeat refine sq ?_
     refine aQ ?_
     repeat refine sq ?_
     refine rx hΓ [1,4,10,76,77,78] [[1,0],[3,0],[10,0],[33,0]] (fun K' hK=>by simp only[go_sem,ah bN,ai,aj,fk];exact fn) ?_
     repeat refine sq ?_
     refine dx hΓ hP [[],[],[1],[0,1,2],u4,u5,u6,u7,u6,[0,1,2,3,4,5,8],[0,1,2,3,4,5,8,9],fO,gd] [1,4,76,77,78,94] [[1,0],[3,0],[33,0]] (by kernel_rfl) (fun K' hK=>by simp only[go_sem,ah bN,ai,aj,fk,xm];exact fd) ?_
     repeat refine sq ?_
     refine aB (fun hb=>?_) fun hb=>?_
     ·repeat refine sq ?_
      have fU:¬ b7 l:=by
       intro h
       have h1:=(DR h).2.2 i bN bN
       have h2:=h.sl i bN
       rw[h1]at hb
       simp only[Bool.not_false,Bool.not_true,Bool.false_or,decide_eq_true_eq]at hb
       omega
      repeat refine sq ?_
      refine rx hΓ [2] [] (fun K' hK=>by simp only[go_sem,ah bN,ai,aj,fk];exact fn) ?_
      refine ay ?_
      simp only[go_sem]
      rw[vo fU]
     ·repeat refine sq ?_
      have oV:(sn (sn (sn [] Rec.so l.rs l.rs.length) Ret.so l.ts l.ts.length) Sig.so l.ss i).contains l.ss[i].so=false:=by
       simp only[Bool.or_eq_false_iff,Bool.not_not]at hb
       exact hb.1
      have xE:l.ss[i].le<=dL l.ps l.ss[i].pa:=by
       simp only[Bool.or_eq_false_iff,decide_eq_false_iff_not]at hb
       omega
      rw[zM bN oV]
      refine aG ?_
      refine bV ?_
      simp only[go_sem]
      refine kp [1,4,76,77,78] [[1,0],[3,0],[33,0]] ?_
      repeat refine sq ?_
      refine aY hΓ fun K' hK=>?_
      simp only[go_sem,ah bN,ai,aj,fk]
      repeat (refine⟨ob,?_⟩)
      refine hK _ ?_
      clear K' hK
      simp only[go_sem]
      refine⟨i+1,⟨bN,?_⟩,by(show l.ss.length-(i+1)<l.ss.length-i;omega),?_⟩
      ·exact⟨AB JD bN oV,fun j hj du=>by
        rcases Nat.lt_succ_iff_lt_or_eq.1 du with h1 | rfl
        ·exact JC j hj h1
        ·exact xE⟩
      refine bq [1,4,76,77,78] [[1,0],[3,0],[33,0]] ?_ ?_<;>simp only[go_sem,be bN Tw,bj]
    ·have lR:i=l.ss.length:=by
      have :¬ (i:Int)<l.ss.length:=by simpa using hb
      omega
     clear hb
     subst lR
     repeat refine sq ?_
     refine bM ?_
     simp only[go_sem]
     refine kp [] [] ?_
     repeat refine sq ?_
     refine rs hΓ [2] [] ?_
     refine ay ?_
     simp only[go_sem]
     rw[WD ⟨fF,by omega,bW,by omega,my,by omega,qb,by omega,fun j h=>JF j h h,fun j h=>JC j h h,X2 hR JE JD⟩]
end
noncomputable section
def Yb:List (Nat×Spec):=[(84,zf)]
attribute [go_sem] Yb
structure Fol where
 (pa le:Int)
 deriving Inhabited,DecidableEq
def lZ(f:Fol):V:=.agg [vInt f.pa,vInt f.le]
def yq:V->Fol
 | .agg [.int _ a,.int _ b]=>⟨a,b⟩
 |_=>default
def jL:En Fol:=⟨lZ,yq⟩
attribute [go_sem] lZ yq jL
@[go_sem] theorem kI(p:Fol):(⟨p.pa,p.le⟩:Fol)=p:=rfl
end
noncomputable section
def K9:List (Nat×Spec):=[]
attribute [go_sem] K9
end
set_option maxHeartbeats 8000000
noncomputable section
theorem yh(d:Nat)(a b:Int):gJ Tryz.prog (d+1) 3 (vInt a) (vInt b)=some (a==b):=by
 simp only[gJ,Tryz.underlying3,if_true]
theorem T9:Tryz.prog.stoodInHeld 46=false:=by kernel_rfl
theorem Vd:Tryz.prog.eqGuardType Tryz.prog.depth 46=false:=by kernel_rfl
theorem VC(d:Nat)(a b a' b':Int):gJ Tryz.prog (d+2) 46 (.agg [vInt a,vInt b]) (.agg [vInt a',vInt b'])=some (a==a'&&b==b'):=by
 unfold gJ
 simp only[Tryz.underlying46,T9,Bool.false_eq_true,if_false,mK,oA,v5,List.getElem?_cons_zero,List.getElem?_cons_succ,yh]
 cases a==a'<;>cases b==b'<;>rfl
@[go_sem] theorem adF(obj:Name->Option O)(op:BinOp)(a b a' b':Int):ir Tryz.prog obj op 46 (.agg [vInt a,vInt b]) (.agg [vInt a',vInt b'])=
    ⟨op=.eql\/op=.neq,.v (.bool (if op=.eql then(a==a'&&b==b')else !(a==a'&&b==b'))),obj⟩:=by
  unfold ir
  rw[show Op.maxDepth=9998+2 from rfl,VC]
  simp only[Vd,true_and]
theorem T8:Tryz.prog.stoodInHeld 56=false:=by kernel_rfl
theorem Vc:Tryz.prog.eqGuardType Tryz.prog.depth 56=false:=by kernel_rfl
theorem VB(d:Nat)(a b a' b':Int):gJ Tryz.prog (d+2) 56 (.agg [vInt a,vInt b]) (.agg [vInt a',vInt b'])=some (a==a'&&b==b'):=by
 unfold gJ
 simp only[Tryz.underlying56,T8,Bool.false_eq_true,if_false,mK,oA,v5,List.getElem?_cons_zero,List.getElem?_cons_succ,yh]
 cases a==a'<;>cases b==b'<;>rfl
@[go_sem] theorem adE(obj:Name->Option O)(op:BinOp)(a b a' b':Int):ir Tryz.prog obj op 56 (.agg [vInt a,vInt b]) (.agg [vInt a',vInt b'])=
    ⟨op=.eql\/op=.neq,.v (.bool (if op=.eql then(a==a'&&b==b')else !(a==a'&&b==b'))),obj⟩:=by
  unfold ir
  rw[show Op.maxDepth=9998+2 from rfl,VB]
  simp only[Vc,true_and]
theorem Ua:Tryz.prog.stoodInHeld 38=false:=by kernel_rfl
theorem Ve:Tryz.prog.eqGuardType Tryz.prog.depth 38=false:=by kernel_rfl
theorem VD(d:Nat)(a b a' b':Int):gJ Tryz.prog (d+2) 38 (.agg [vInt a,vInt b]) (.agg [vInt a',vInt b'])=some (a==a'&&b==b'):=by
 unfold gJ
 simp only[Tryz.underlying38,Ua,Bool.false_eq_true,if_false,mK,oA,v5,List.getElem?_cons_zero,List.getElem?_cons_succ,yh]
 cases a==a'<;>cases b==b'<;>rfl
@[go_sem] theorem adG(obj:Name->Option O)(op:BinOp)(a b a' b':Int):ir Tryz.prog obj op 38 (.agg [vInt a,vInt b]) (.agg [vInt a',vInt b'])=
    ⟨op=.eql\/op=.neq,.v (.bool (if op=.eql then(a==a'&&b==b')else !(a==a'&&b==b'))),obj⟩:=by
  unfold ir
  rw[show Op.maxDepth=9998+2 from rfl,VD]
  simp only[Ve,true_and]
theorem T7:Tryz.prog.stoodInHeld 81=false:=by kernel_rfl
theorem Vb:Tryz.prog.eqGuardType Tryz.prog.depth 81=false:=by kernel_rfl
theorem VA(k:Nat)(a b c d e f g a' b' c' d' e' f' g':Int):gJ Tryz.prog (k+2) 81 (.agg [vInt a,vInt b,vInt c,vInt d,vInt e,vInt f,vInt g]) (.agg [vInt a',vInt b',vInt c',vInt d',vInt e',vInt f',vInt g'])=
 some (a==a'&&(b==b'&&(c==c'&&(d==d'&&(e==e'&&(f==f'&&g==g')))))):=by
 unfold gJ
 simp only[Tryz.underlying81,T7,Bool.false_eq_true,if_false,mK,oA,v5,List.getElem?_cons_zero,List.getElem?_cons_succ,yh]
 cases a==a'<;>cases b==b'<;>cases c==c'<;>cases d==d'<;>cases e==e'<;>cases f==f'<;>cases g==g'<;>rfl
@[go_sem] theorem adD(obj:Name->Option O)(op:BinOp)(a b c d e f g a' b' c' d' e' f' g':Int):ir Tryz.prog obj op 81 (.agg [vInt a,vInt b,vInt c,vInt d,vInt e,vInt f,vInt g]) (.agg [vInt a',vInt b',vInt c',vInt d',vInt e',vInt f',vInt g'])=
    ⟨op=.eql\/op=.neq,.v (.bool (if op=.eql then(a==a'&&(b==b'&&(c==c'&&(d==d'&&(e==e'&&(f==f'&&g==g'))))))else !(a==a'&&(b==b'&&(c==c'&&(d==d'&&(e==e'&&(f==f'&&g==g')))))))),obj⟩:=by
  unfold ir
  rw[show Op.maxDepth=9998+2 from rfl,VA]
  simp only[Vb,true_and]
def wg{α:Type}(a b:List α)(n:Nat):Prop:=∀ j (h:j<a.length) (h':j<b.length),j<n->a[j]=b[j]
theorem Nn{α:Type}{a b:List α}{i:Nat}(h:wg a b i)(hi:∀ (h:i<a.length) (h':i<b.length),a[i]=b[i]):wg a b (i+1):=by
 intro j hj eA du
 rcases Nat.lt_succ_iff_lt_or_eq.1 du with h1 | rfl
 ·exact h j hj eA h1
 ·exact hi hj eA
theorem No{α:Type}{a b:List α}(hl:a.length=b.length)(h:wg a b a.length):a=b:=List.ext_getElem hl fun j h1 h2=>h j h1 h2 h1
theorem Jy{l:List Int}{n:Int}:l.contains n=true↔∃ k,∃ (h:k<l.length),l[k]=n:=by
 rw[List.contains_iff_mem]
 constructor
 ·intro h
  obtain⟨k,hk,e⟩:=List.getElem_of_mem h
  exact⟨k,hk,e⟩
 ·rintro⟨k,hk,rfl⟩
  exact List.getElem_mem hk
@[go_sem] def P15:PSpec:=p2 ev iI (fun _ _=>True) (fun l n=>.bool (l.contains n)) true
@[go_sem] def px:Spec:=P15.toSpec
theorem wh:aU Tryz.prog 15 P15:=by
 refine dV (rs:=[.tmp 4]) Tryz.func15 Tryz.ntmps15 fun l n hp hw=>?_
 simp only[iI,ev]at hw |-
 have hΓ:=@eT Tryz.prog
 have hl:l.length<=maxLen:=by have:=hw.1.1;simpa using this
 repeat refine sq ?_
 refine rs hΓ [0,1] [] ?_
 repeat refine sq ?_
 refine rs hΓ [0,1,5] [] ?_
 repeat refine sq ?_
 refine aQ ?_
 repeat refine sq ?_
 refine cr (fun s:Nat=>[(5,⟨true,.v (vInt s)⟩)]) (fun s=>[]) (fun s=>s<=l.length/\∀ k (h:k<l.length),k<s->l[k]≠n) (fun s=>l.length-s) 0 ?_ ?_ ?_ ?_
 ·exact⟨Nat.zero_le _,by simp⟩
 ·rfl
 ·rfl
 rintro i ⟨hi,hR⟩
 simp only[go_sem]
 repeat refine sq ?_
 refine rs hΓ [0,1,5,9] [] ?_
 repeat refine sq ?_
 refine aB (fun hb=>?_) fun hb=>?_
 ·have ae:i<l.length:=by simpa using hb
  have au:(i:Int)<l.length:=by omega
  clear hb
  repeat refine sq ?_
  refine aG ?_
  repeat refine sq ?_
  refine aQ ?_
  repeat refine sq ?_
  refine rx hΓ [0,1,5,17] [] (fun K' hK=>by simp only[go_sem,ah ae,ai,aj,au];exact fn) ?_
  repeat refine sq ?_
  refine aB (fun hb=>?_) fun hb=>?_
  ·repeat refine sq ?_
   refine rx hΓ [4] [] (fun K' hK=>by simp only[go_sem,ah ae,ai,aj,au];exact fn) ?_
   refine ay ?_
   simp only[go_sem]
   rw[Jy.2 ⟨i,ae,by simpa using hb⟩]
  ·repeat refine sq ?_
   refine aG ?_
   refine bV ?_
   simp only[go_sem]
   refine kp [0,1,5] [] ?_
   repeat refine sq ?_
   refine aY hΓ fun K' hK=>?_
   simp only[go_sem,ah ae,ai,aj,au]
   repeat (refine⟨ob,?_⟩)
   refine hK _ ?_
   clear K' hK
   simp only[go_sem]
   refine⟨i+1,⟨ae,?_⟩,by(show l.length-(i+1)<l.length-i;omega),?_⟩
   ·intro k hk dY
    rcases Nat.lt_succ_iff_lt_or_eq.1 dY with h5 | rfl
    ·exact hR k hk h5
    ·simpa using hb
   refine bq [0,1,5] [] ?_ ?_<;>simp only[go_sem,be ae hl,bj]
 ·have bw:i=l.length:=by
   have :¬ (i:Int)<l.length:=by simpa using hb
   omega
  clear hb
  subst bw
  repeat refine sq ?_
  refine bM ?_
  simp only[go_sem]
  refine kp [] [] ?_
  repeat refine sq ?_
  refine rs hΓ [4] [] ?_
  refine ay ?_
  simp only[go_sem]
  rw[sX Jy (fun ⟨k,hk,e⟩=>hR k hk hk e)]
@[go_sem] def P24:PSpec:=p2 ev ev (fun _ _=>True) (fun a b=>.bool (decide (a=b))) true
@[go_sem] def DG:Spec:=P24.toSpec
theorem N6:aU Tryz.prog 24 P24:=by
 refine dV (rs:=[.tmp 4]) Tryz.func24 Tryz.ntmps24 fun a b hp hw=>?_
 have hP:=fB
 simp only[ev]at hw |-
 have hΓ:=@eT Tryz.prog
 have hl:a.length<=maxLen:=by have:=hw.1.1;simpa using this
 repeat refine sq ?_
 refine rs hΓ [0,1] [] ?_
 repeat refine sq ?_
 refine rs hΓ [0,1,10] [] ?_
 repeat refine sq ?_
 refine aB (fun hb=>?_) fun hb=>?_
 ·repeat refine sq ?_
  have fU:a≠b:=by
   rintro rfl
   simp at hb
  repeat refine sq ?_
  refine rs hΓ [4] [] ?_
  refine ay ?_
  simp only[go_sem]
  rw[decide_eq_false fU]
 ·repeat refine sq ?_
  have qw:a.length=b.length:=by
   have :(a.length:Int)=b.length:=by simpa using hb
   omega
  clear hb
  refine aG ?_
  repeat refine sq ?_
  refine rs hΓ [0,1,5] [] ?_
  repeat refine sq ?_
  refine aQ ?_
  repeat refine sq ?_
  refine cr (fun s:Nat=>[(5,⟨true,.v (vInt s)⟩)]) (fun s=>[]) (fun s=>s<=a.length/\wg a b s) (fun s=>a.length-s) 0 ?_ ?_ ?_ ?_
  ·exact⟨Nat.zero_le _,fun j _ _ h=>by omega⟩
  ·rfl
  ·rfl
  rintro i ⟨hi,hR⟩
  simp only[go_sem]
  repeat refine sq ?_
  refine rs hΓ [0,1,5,14] [] ?_
  repeat refine sq ?_
  refine aB (fun hb=>?_) fun hb=>?_
  ·have ae:i<a.length:=by simpa using hb
   have au:(i:Int)<a.length:=by omega
   clear hb
   have B0:(i:Int)<b.length:=by omega
   have hlb:i<b.length:=by omega
   repeat refine sq ?_
   refine aG ?_
   repeat refine sq ?_
   refine aQ ?_
   repeat refine sq ?_
   refine dx hΓ hP [[],[],[0,1],[0,1,2],[],[],[4,5],[4,5,6],u8] [0,1,5,25] [] (by kernel_rfl) (fun K' hK=>by simp only[go_sem,ah ae,ah (show i<b.length by omega),ai,aj,au,B0];exact fd) ?_
   repeat refine sq ?_
   refine aB (fun hb=>?_) fun hb=>?_
   ·repeat refine sq ?_
    have fU:a≠b:=by
     rintro rfl
     simp at hb
    repeat refine sq ?_
    refine rx hΓ [4] [] (fun K' hK=>by simp only[go_sem,ah ae,ah (show i<b.length by omega),ai,aj,au,B0];exact fn) ?_
    refine ay ?_
    simp only[go_sem]
    rw[decide_eq_false fU]
   ·repeat refine sq ?_
    refine aG ?_
    refine bV ?_
    simp only[go_sem]
    refine kp [0,1,5] [] ?_
    repeat refine sq ?_
    refine aY hΓ fun K' hK=>?_
    simp only[go_sem,ah ae,ah (show i<b.length by omega),ai,aj,au,B0]
    repeat (refine⟨ob,?_⟩)
    refine hK _ ?_
    clear K' hK
    simp only[go_sem]
    refine⟨i+1,⟨ae,?_⟩,by(show a.length-(i+1)<a.length-i;omega),?_⟩
    ·exact Nn hR fun _ _=>by simpa using hb
    refine bq [0,1,5] [] ?_ ?_<;>simp only[go_sem,be ae hl,bj]
  ·have bw:i=a.length:=by
    have :¬ (i:Int)<a.length:=by simpa using hb
    omega
   clear hb
   subst bw
   repeat refine sq ?_
   refine bM ?_
   simp only[go_sem]
   refine kp [] [] ?_
   repeat refine sq ?_
   refine rs hΓ [4] [] ?_
   refine ay ?_
   simp only[go_sem]
   rw[decide_eq_true (No qw hR)]
def Zz:List (Nat×Spec):=[(24,DG)]
attribute [go_sem] Zz
def ZA:List (Nat×Spec):=[]
attribute [go_sem] ZA
end
noncomputable section
theorem aU.conv{P:Program}{f:FuncId}{s s':PSpec}(h:aU P f s)(hf:s'.flat=s.flat)(hp:∀ xs,s'.pre xs->s.pre xs/\s'.fn xs=s.fn xs):aU P f s':=by
 refine⟨h.ne,h.enter,fun dZ xs hx=>?_,fun m w xs args hm hx dn=>?_⟩
 ·rw[(hp xs hx).2];exact h.flat (hf▸dZ) xs (hp xs hx).1
 ·rw[(hp xs dn).2];exact h.calls m w xs args hm hx (hp xs dn).1
def S132:Spec:=sV Tryz.prog 29
theorem Sv:aL Tryz.prog 132 S132:=Wi KJ
attribute [go_sem] S132
def Zy:List (Nat×Spec):=[(132,S132)]
attribute [go_sem] Zy
def V'(l:Led):List (Name×O):=[([8,0],.arr 2 (l.ps.map cK)),([11,0],.arr 7 (l.rs.map encR)),([14,0],.arr 8 (l.ts.map c9)),([17,0],.arr 7 (l.ss.map encS))]
def Wa(l:Led):D:=.agg [.msl [8,0] l.ps.length,.msl [11,0] l.rs.length,.msl [14,0] l.ts.length,.msl [17,0] l.ss.length]
attribute [go_sem] V' Wa
theorem FI(l:List Pap):∀ y∈l.map cK,y.cells.length=2/\y.okc=true:=by
 intro y hy;obtain⟨x,_,rfl⟩:=List.mem_map.1 hy;exact⟨rfl,rfl⟩
theorem An(l:List Rec):∀ y∈l.map encR,y.cells.length=7/\y.okc=true:=by
 intro y hy;obtain⟨x,_,rfl⟩:=List.mem_map.1 hy;exact⟨rfl,rfl⟩
theorem FH(l:List Ret):∀ y∈l.map c9,y.cells.length=8/\y.okc=true:=by
 intro y hy;obtain⟨x,_,rfl⟩:=List.mem_map.1 hy;exact⟨rfl,rfl⟩
theorem Am(l:List Sig):∀ y∈l.map encS,y.cells.length=7/\y.okc=true:=by
 intro y hy;obtain⟨x,_,rfl⟩:=List.mem_map.1 hy;exact⟨rfl,rfl⟩
theorem FL(l:List Int):∀ y∈l.map vInt,y.cells.length=1/\y.okc=true:=by
 intro y hy;obtain⟨x,_,rfl⟩:=List.mem_map.1 hy;exact⟨rfl,rfl⟩
theorem ak{p:Prop}(h:p:=by first | exact FI _ | exact An _ | exact FH _ | exact Am _ | exact FL _ | ((repeat' apply And.intro)<;>first | rfl | omega | (unfold maxLen;omega) | trivial | decide | exact FI _ | exact An _ | exact FH _ | exact Am _ | exact FL _) | exact ob):p:=h
theorem ao{p:Prop}(h:p:=by(repeat (refine⟨ak,?_⟩));exact hK _ (by simp only[go_sem]) (by simp only[go_sem]<;>rfl)):p:=h
theorem vf{p:Prop}(h:p:=by(repeat (refine⟨ak,?_⟩));(first | refine⟨by rfl,?_⟩ | skip);exact hK _ (by simp only[go_sem]) (by simp only[go_sem]<;>rfl)):p:=h
end
noncomputable section
theorem MW{α β:Type}{f:α->β}{l:List α}{i:Nat}(h:i<l.length):(l.take (i+1)).map f=(l.take i).map f++[f l[i]]:=by
 rw[List.take_add_one,List.getElem?_eq_getElem h]
 simp only[List.map_append,Option.toList_some,List.map_cons,List.map_nil]
def oO:En (Nat×Int):=⟨fun g=>.clo (.func g.1) [] [.ptr [vInt g.2]],fun v=>match v with | .clo (.func g) _ [.ptr [.int _ s]]=>(g,s) | _=>default⟩
def nG:En Int:=⟨fun s=>.ptr [vInt s],fun v=>match v with | .ptr [.int _ s]=>s | _=>0⟩
attribute [go_sem] oO nG
@[go_sem] def P171:PSpec:=p2 iR nG (fun _ _=>True) (fun x s=>.bool (x.so==s)) true
@[go_sem] def S171:Spec:=P171.toSpec
theorem Og:aU Tryz.prog 171 P171:=by
 refine dV (rs:=[.tmp 3]) Tryz.func171 Tryz.ntmps171 fun x s hp hw=>?_
 simp only[nG,iR,encR]at hw |-
 have hΓ:=@eT Tryz.prog
 repeat refine sq ?_
 refine rx hΓ [1,2] [[2,0]] (fun K' hK=>by simp only[go_sem];exact ao) ?_
 repeat refine sq ?_
 refine rx hΓ [3] [] (fun K' hK=>by simp only[go_sem];exact ao) ?_
 refine ay ?_
 simp only[go_sem]
 all_goals exact dp
@[go_sem] def P167:PSpec:=p2 iR nG (fun _ _=>True) (fun x s=>.bool (x.so==s)) true
@[go_sem] def L4:Spec:=P167.toSpec
theorem Oj:aU Tryz.prog 167 P167:=by
 refine dV (rs:=[.tmp 3]) Tryz.func167 Tryz.ntmps167 fun x s hp hw=>?_
 simp only[nG,iR,encR]at hw |-
 have hΓ:=@eT Tryz.prog
 repeat refine sq ?_
 refine rx hΓ [1,2] [[2,0]] (fun K' hK=>by simp only[go_sem];exact ao) ?_
 repeat refine sq ?_
 refine rx hΓ [3] [] (fun K' hK=>by simp only[go_sem];exact ao) ?_
 refine ay ?_
 simp only[go_sem]
 all_goals exact dp
@[go_sem] def P92:PSpec:=p2 iS nG (fun _ _=>True) (fun x s=>.bool (x.so==s)) true
@[go_sem] def Xs:Spec:=P92.toSpec
theorem NO:aU Tryz.prog 92 P92:=by
 refine dV (rs:=[.tmp 3]) Tryz.func92 Tryz.ntmps92 fun x s hp hw=>?_
 simp only[nG,iS,encS]at hw |-
 have hΓ:=@eT Tryz.prog
 repeat refine sq ?_
 refine rx hΓ [1,2] [[2,0]] (fun K' hK=>by simp only[go_sem];exact ao) ?_
 repeat refine sq ?_
 refine rx hΓ [3] [] (fun K' hK=>by simp only[go_sem];exact ao) ?_
 refine ay ?_
 simp only[go_sem]
 all_goals exact dp
def db{α:Type}(p:α->Bool)(l:List α):Int:=if l.any p then(l.findIdx p:Int)else -1
theorem p0{α:Type}{p:α->Bool}{l:List α}{i:Nat}(h:i<l.length)(hp:p l[i]=true)(hn:∀ k (hk:k<l.length),k<i->p l[k]=false):db p l=i:=by
 unfold db
 rw[if_pos (List.any_eq_true.2 ⟨_,List.getElem_mem h,hp⟩)]
 congr 1
 rw[List.findIdx_eq h]
 exact⟨hp,fun j hj=>hn j (by omega) hj⟩
theorem uo{α:Type}{p:α->Bool}{l:List α}(hn:∀ k (hk:k<l.length),p l[k]=false):db p l= -1:=by
 unfold db
 rw[if_neg]
 intro h
 obtain⟨x,hx,hp⟩:=List.any_eq_true.1 h
 obtain⟨k,hk,rfl⟩:=List.getElem_of_mem hx
 rw[hn k hk]at hp;cases hp
theorem uq{α:Type}(p:α->Bool)(l:List α):decide (db p l>=0)=l.any p:=by
 unfold db
 cases l.any p with
 |true=>simp
 |false=>simp
def K12a:List (Nat×Spec):=[(171,S171),(167,L4)]
theorem Zw:KS K12a:=tc Og.sound<|tc Oj.sound<|tn
attribute [go_sem] K12a
def Mj:FuncId->Option Spec:=tbl K12a
theorem Zu:∀ f s,Mj f=some s->aL Tryz.prog f s:=Zw
@[go_sem] theorem adI:L4=S171:=rfl
@[go_sem] def P166:PSpec:=p2 (eM iR) oO (fun _ g=>g.1=171\/g.1=167) (fun l g=>vInt (db (fun x=>Rec.so x==g.2) l)) true
@[go_sem] def L5:Spec:=P166.toSpec
set_option maxHeartbeats 4000000 in
theorem Ol:aU Tryz.prog 166 P166:=by
 refine dV (rs:=[.tmp 4]) Tryz.func166 Tryz.ntmps166 fun l g hp hw=>?_
 simp only[oO,iR,eM,encR]at hw |-
 have hΓ:=Zu
 have hl:l.length<=maxLen:=by have:=hw.1.1;simpa using this
 obtain⟨g,s_⟩:=g
 try simp only[oO]at hw hp |-
 have hg:Mj g=some S171:=by rcases hp with rfl | rfl<;>rfl
 have TQ:¬ g=1000000000:=by omega
 repeat refine sq ?_
 refine rx hΓ [0,1] [] (fun K' hK=>by simp only[go_sem];exact ao) ?_
 repeat refine sq ?_
 refine rx hΓ [0,1,7,8] [] (fun K' hK=>by simp only[go_sem];exact ao) ?_
 repeat refine sq ?_
 refine aQ ?_
 repeat refine sq ?_
 refine cr (fun s:Nat=>[(8,⟨true,.v (vInt s)⟩)]) (fun s=>[]) (fun s=>s<=l.length/\∀ k (h:k<l.length),k<s->(fun x:Rec=>Rec.so x==s_) l[k]=false) (fun s=>l.length-s) 0 ?_ ?_ ?_ ?_
 ·exact⟨Nat.zero_le _,by simp⟩
 ·rfl
 ·rfl
 rintro i ⟨hi,hR⟩
 simp only[go_sem]
 repeat refine sq ?_
 refine rx hΓ [0,1,7,8,9] [] (fun K' hK=>by simp only[go_sem];exact ao) ?_
 repeat refine sq ?_
 refine aB (fun hb=>?_) fun hb=>?_
 ·have ae:i<l.length:=by simpa using hb
  have au:(i:Int)<l.length:=by omega
  clear hb
  repeat refine sq ?_
  refine aG ?_
  repeat refine sq ?_
  refine aQ ?_
  repeat refine sq ?_
  refine rx hΓ [0,1,5,7,8] [] (fun K' hK=>by simp only[go_sem,ah ae,ai,aj,au];exact ao) ?_
  repeat refine sq ?_
  refine rx hΓ [0,1,5,7,8,16] [] (fun K' hK=>by simp only[go_sem,ah ae,ai,aj,au,hg,TQ];exact ao) ?_
  repeat refine sq ?_
  refine aB (fun hb=>?_) fun hb=>?_
  ·repeat refine sq ?_
   refine rx hΓ [4] [] (fun K' hK=>by simp only[go_sem,ah ae,ai,aj,au];exact ao) ?_
   refine ay ?_
   simp only[go_sem]
   rw[p0 (p:=fun x=>Rec.so x==s_) ae (by simpa using hb) hR]
  ·repeat refine sq ?_
   refine aG ?_
   refine bV ?_
   simp only[go_sem]
   refine kp [0,1,7,8] [] ?_
   repeat refine sq ?_
   refine aY hΓ fun K' hK=>?_
   simp only[go_sem,ah ae,ai,aj,au]
   repeat (refine⟨ak,?_⟩)
   refine hK _ ?_
   clear K' hK
   simp only[go_sem]
   refine⟨i+1,⟨ae,?_⟩,by(show l.length-(i+1)<l.length-i;omega),?_⟩
   ·intro k hk dY
    rcases Nat.lt_succ_iff_lt_or_eq.1 dY with h5 | rfl
    ·exact hR k hk h5
    ·simpa using hb
   refine bq [0,1,7,8] [] ?_ ?_<;>simp only[go_sem,be ae hl,bj]
 ·have bw:i=l.length:=by
   have :¬ (i:Int)<l.length:=by simpa using hb
   omega
  clear hb
  subst bw
  repeat refine sq ?_
  refine bM ?_
  simp only[go_sem]
  refine kp [] [] ?_
  repeat refine sq ?_
  refine rx hΓ [4] [] (fun K' hK=>by simp only[go_sem];exact ao) ?_
  refine ay ?_
  simp only[go_sem]
  rw[uo (p:=fun x=>Rec.so x==s_) fun k hk=>hR k hk hk]
@[go_sem] def XV:PSpec:=p2 (eM iS) oO (fun _ g=>g.1=175) (fun l g=>vInt (db (fun x=>Sig.so x==g.2) l)) true
@[go_sem] def XD:Spec:=XV.toSpec
def Zv:List (Nat×Spec):=[(166,L5),(181,XD)]
attribute [go_sem] Zv
def Zx:List (Nat×Spec):=[]
attribute [go_sem] Zx
end
noncomputable section
attribute [go_sem] SF
def Zt:List (Nat×Spec):=[(37,DF),(67,LW),(79,vD)]
attribute [go_sem] Zt
end
noncomputable section
def Zs:List (Nat×Spec):=[(15,px)]
attribute [go_sem] Zs
end
structure Vw where
 l:Led
 rs:List Rec
 ts:List Int
 bk:List ((Int×Int)×Int)
 ds:List (Int×(Int×Int))
 deriving Inhabited
def bH(b:List ((Int×Int)×Int)):List (V×V):=b.map fun q=>(.agg [vInt q.1.1,vInt q.1.2],vInt q.2)
def Kt:V->Int×Int
 | .agg [.int _ a,.int _ b]=>(a,b)
 |_=>(0,0)
def yr(es:List (V×V)):List ((Int×Int)×Int):=es.map fun q=>(Kt q.1,iW q.2)
def bz(d:List (Int×(Int×Int))):List (V×V):=d.map fun q=>(vInt q.1,.agg [vInt q.2.1,vInt q.2.2])
def C1(es:List (V×V)):List (Int×(Int×Int)):=es.map fun q=>(iW q.1,Kt q.2)
@[go_sem] theorem C2(b:List ((Int×Int)×Int)):yr (bH b)=b:=by
  unfold yr bH
  rw[List.map_map]
  exact List.map_id _
@[go_sem] theorem C0(b:List (Int×(Int×Int))):C1 (bz b)=b:=by
  unfold C1 bz
  rw[List.map_map]
  exact List.map_id _
def bp(x:Vw)(nb nd:Name):O:=.box [.v (ie x.l),.v (.sl (x.rs.map encR)),.v (.sl (x.ts.map vInt)),.map nb,.map nd]
def sP(lp:V)(rs ts:List V)(eb ed:List (V×V)):Vw:=⟨yp lp,rs.map jt,ts.map iW,yr eb,C1 ed⟩
theorem VO(x:Vw):sP (ie x.l) (x.rs.map encR) (x.ts.map vInt) (bH x.bk) (bz x.ds)=x:=by
 obtain⟨⟨p,r,t,s⟩,rs,ts,bk,ds⟩:=x
 simp only[sP,ie,yp,Kq,yn,Ko,sQ,pf,C2,C0]
def gF(obj:Name->Option O)(nv:Name):Option (Name×Name×Vw):=match obj nv with
 |some (.box [.v lp,.v (.sl rs),.v (.sl ts),.map nb,.map nd])=>match obj nb,obj nd with
  |some (.map 2 eb),some (.map 0 ed)=>some (nb,nd,sP lp rs ts eb ed)
  |_,_=>none
 |_=>none
def mq(obj:Name->Option O)(nv nb nd:Name)(x:Vw):Prop:=
 obj nv=some (bp x nb nd)/\obj nb=some (.map 2 (bH x.bk))/\obj nd=some (.map 0 (bz x.ds))/\(nv==nb)=false/\(nv==nd)=false/\(nb==nd)=false
structure VSpec where
 pre:Vw->List V->Prop
 val:Vw->List V->D
 wr:Option (Vw->List V->List (Int×(Int×Int)))
def VSpec.app(s:VSpec)(obj:Name->Option O)(t:Name)(ds:List D):R:=match ds with
 | .ref nv 0::r=>match gF obj nv,j5 r with
   |some (nb,nd,x),some xs=>⟨mq obj nv nb nd x/\s.pre x xs,(s.val x xs).ren (cout [nv,nb,nd] t),match s.wr with | none=>obj | some f=>upd obj nd (some (.map 0 (bz (f x xs))))⟩
   |_,_=>.bad obj
 |_=>.bad obj
def VSpec.foot(_:VSpec)(obj:Name->Option O)(_:Name)(ds:List D):List Name:=match ds with
 | .ref nv _::_=>nv::(match obj nv with | some (.box [_,_,_,.map nb,.map nd])=>[nb,nd] | _=>[])
 |_=>[]
def VSpec.toSpec(s:VSpec):Spec:=⟨s.app,s.foot,s.foot⟩
theorem VSpec.near(s:VSpec):s.toSpec.Near:=by
 refine tS fun obj obj2 t ds ha=>?_
 match ds with
 | .ref nv off::r=>
   have h1:obj2 nv=obj nv:=ha nv (by simp[VSpec.foot])
   refine⟨by simp only[VSpec.foot,h1],?_⟩
   cases off with
   |succ k=>exact .none _ ha
   |zero=>
    have fG:bG (R.bad obj) (R.bad obj2) obj obj2 (s.foot obj t (.ref nv 0::r)):=.none _ ha
    by_cases hg:∃ a b c nb nd,obj nv=some (.box [a,b,c,.map nb,.map nd])
    ·obtain⟨a,b,c,nb,nd,hb⟩:=hg
     have kF:obj2 nb=obj nb:=ha nb (by simp[VSpec.foot,hb])
     have jS:obj2 nd=obj nd:=ha nd (by simp[VSpec.foot,hb])
     have TR:gF obj2 nv=gF obj nv:=by
      unfold gF
      rw[h1,hb]
      split<;>first | rfl | (rename_i e;cases e;rw[kF,jS])
     have b9:∀ sd sc x,gF obj nv=some (sd,sc,x)->sd=nb/\sc=nd:=by
      intro sd sc x h
      unfold gF at h
      rw[hb]at h
      split at h
      ·rename_i e
       cases e
       split at h
       ·cases h;exact⟨rfl,rfl⟩
       ·cases h
      ·cases h
     show bG (s.app obj t (.ref nv 0::r)) (s.app obj2 t (.ref nv 0::r)) obj obj2 _
     unfold VSpec.app
     simp only[TR]
     split
     ·rename_i sd sc x xs hx xh
      obtain⟨rfl,rfl⟩:=b9 _ _ _ hx
      have aa:mq obj2 nv sd sc x=mq obj nv sd sc x:=by unfold mq;rw[h1,kF,jS]
      rw[aa]
      cases s.wr with
      |none=>exact .none _ ha
      |some f=>exact .one (by simp[VSpec.foot,hb]) ha
     ·exact fG
    ·have e1:gF obj nv=none:=by
       unfold gF
       split
       ·rename_i h;exact(hg ⟨_,_,_,_,_,h⟩).elim
       ·rfl
     have e2:gF obj2 nv=none:=by
      unfold gF
      rw[h1]
      split
      ·rename_i h;exact(hg ⟨_,_,_,_,_,h⟩).elim
      ·rfl
     show bG (s.app obj t (.ref nv 0::r)) (s.app obj2 t (.ref nv 0::r)) obj obj2 _
     unfold VSpec.app
     simp only[e1,e2]
     exact fG
 |[]=>exact⟨rfl,.none _ ha⟩
 | .v _::_=>exact⟨rfl,.none _ ha⟩
 | .nilsl::_=>exact⟨rfl,.none _ ha⟩
 | .nilmap::_=>exact⟨rfl,.none _ ha⟩
 | .msl _ _::_=>exact⟨rfl,.none _ ha⟩
 | .aref _ _ _ _::_=>exact⟨rfl,.none _ ha⟩
 | .map _::_=>exact⟨rfl,.none _ ha⟩
 | .yld _::_=>exact⟨rfl,.none _ ha⟩
 | .clo _ _ _::_=>exact⟨rfl,.none _ ha⟩
 | .agg _::_=>exact⟨rfl,.none _ ha⟩
 | .tup _::_=>exact⟨rfl,.none _ ha⟩
 | .any::_=>exact⟨rfl,.none _ ha⟩
def VSpec.c(s:VSpec):CSpec where
 pre:=fun os ds=>∃ (x:Vw) (xs:List V),os=[bp x [1,1] [2,1],.map 2 (bH x.bk),.map 0 (bz x.ds)]/\ds=.ref [0,1] 0::xs.map .v/\s.pre x xs
 out:=fun os ds=>match os,ds with
  |[.box [.v lp,.v (.sl rs),.v (.sl ts),_,_],.map _ eb,.map _ ed],_::r=>match j5 r with
   |some xs=>⟨match s.wr with | none=>[] | some f=>[(2,.map 0 (bz (f (sP lp rs ts eb ed) xs)))],[],s.val (sP lp rs ts eb ed) xs⟩
   |none=>⟨[],[],.any⟩
  |_,_=>⟨[],[],.any⟩
theorem VSpec.c_out(s:VSpec)(x:Vw)(xs:List V):s.c.out [bp x [1,1] [2,1],.map 2 (bH x.bk),.map 0 (bz x.ds)] (.ref [0,1] 0::xs.map .v)=
 ⟨match s.wr with | none=>[] | some f=>[(2,.map 0 (bz (f x xs)))],[],s.val x xs⟩:=by
 simp only[VSpec.c,bp,y9,VO]
theorem Fb{obj:Name->Option O}{nv nb nd:Name}{x:Vw}(h:mq obj nv nb nd x)(xs:List V):reach obj (.ref nv 0::xs.map .v)=[nv,nb,nd]:=by
 obtain⟨h1,h2,h3,h4,h5,h6⟩:=h
 unfold reach
 have e:cI (.ref nv 0::xs.map .v)=[nv]:=by simp only[cI,ky,AE,List.append_nil]
 rw[e]
 show cY obj (2996+1+1+1+1) [nv] []=[nv,nb,nd]
 simp only[cY,cE,List.any_nil,Bool.false_eq_true,if_false,h1,bp,kx,cI,ky,List.nil_append,List.append_nil,List.any_cons,h4,h5,h6,Bool.or_false,h2,h3,List.cons_append]
theorem VSpec.sound{P:Program}{f:FuncId}{s:VSpec}(h:aL P f s.c.toSpec)(aD:f≠yid):aL P f s.toSpec:=by
 refine tu h s.near aD fun obj t ds aa=>?_
 have ey:(s.app obj t ds).ok:=aa
 show ∃ kK,_/\_/\_/\_=(s.app obj t ds).d/\_=(s.app obj t ds).obj
 unfold VSpec.app at ey |-
 split at ey
 ·rename_i nv r
  split at ey
  ·rename_i nb nd x xs uT xh
   obtain⟨hv,hp⟩:=ey
   have hlen:=Dx xh
   have p8:=hv
   obtain⟨h1,h2,h3,h4,h5,h6⟩:=p8
   have n4:nv≠nb:=by simpa using h4
   have n5:nv≠nd:=by simpa using h5
   have n6:nb≠nd:=by simpa using h6
   have hr:=Fb hv xs
   have i0:idx [nv,nb,nd] nv=0:=by simp[idx]
   have i1:idx [nv,nb,nd] nb=1:=by simp[idx,n4]
   have i2:idx [nv,nb,nd] nd=2:=by simp[idx,n5,n6]
   have e1:cb obj (.ref nv 0::xs.map .v)=[bp x [1,1] [2,1],.map 2 (bH x.bk),.map 0 (bz x.ds)]:=by
    unfold cb
    rw[hr]
    simp only[List.map_cons,List.map_nil,ck,h1,h2,h3,bp,O.ren,D.renL,D.ren,cin,i1,i2]
   have e2:cH obj (.ref nv 0::xs.map .v)=.ref [0,1] 0::xs.map .v:=by
    unfold cH
    rw[hr]
    simp only[D.renL,D.ren,cin,i0,Aa]
   have e5:(shut obj [nv,nb,nd]&&D.closL (cE [nv,nb,nd]) (.ref nv 0::xs.map .v)&&fresh obj t [])=true:=by
    simp[shut,h1,h2,h3,bp,O.clos,D.closL,D.clos,cE,fresh,Dc]
   refine⟨.ref nv 0::xs.map .v,by simpa using hlen,fun φ m us hl oS i a b=>?_,?_⟩
   ·cases i with
    |zero=>exact oS 0 (by simp) b
    |succ i=>
     simp only[List.length_cons,List.length_map]at a
     simp only[List.getElem_cons_succ,List.getElem_map]
     exact .v _ _ (Dw xh i (by omega) (by omega) _ (by have:=oS (i+1) (by simp;omega) b;simpa using this))
   ·have e4:s.c.pre [bp x [1,1] [2,1],.map 2 (bH x.bk),.map 0 (bz x.ds)] (.ref [0,1] 0::xs.map .v):=⟨x,xs,rfl,rfl,hp⟩
    simp only[CSpec.toSpec,e1,e2,hr,s.c_out,e4,e5,uT,xh,and_self,cV]
    refine⟨trivial,trivial,?_⟩
    cases s.wr with
    |none=>rfl
    |some f=>simp only[cf,O.ren,List.getD_cons_zero,List.getD_cons_succ]
  ·exact ey.elim
 ·exact ey.elim
def tH(P:Program)(rs:List ResultVar)(x:Vw)(d:D)(w:Option (List (Int×(Int×Int)))):Exit->S->Prop
 | .normal,σ=>(bF P σ rs).ok/\(bF P σ rs).d=d/\σ.obj [0,1]=some (bp x [1,1] [2,1])/\σ.obj [1,1]=some (.map 2 (bH x.bk))/\σ.obj [2,1]=some (.map 0 (bz (w.getD x.ds)))
 | .ret,σ=>(bF P σ rs).ok/\(bF P σ rs).d=d/\σ.obj [0,1]=some (bp x [1,1] [2,1])/\σ.obj [1,1]=some (.map 2 (bH x.bk))/\σ.obj [2,1]=some (.map 0 (bz (w.getD x.ds)))
 |_,_=>False
theorem zz{P:Program}{f:FuncId}{fn:Func}{nt:Nat}{rs:List ResultVar}{s:VSpec}(hf:P.funcs[f]?=some fn)(cG:fn.ntmps=nt)(bW:fn.results.toList=rs)(hn:(fn.name== "runtime.NumGoroutine")=false)(hy:f<1000000000)(cq:∀ x xs,s.pre x xs->D.clos (fun _=>false) (s.val x xs)=true)
 (hb:∃ c,fn.body=some c/\∀ x xs,s.pre x xs->xs.length+1<=nt/\∀ H:Name->Option O,H [0,1]=some (bp x [1,1] [2,1])->H [1,1]=some (.map 2 (bH x.bk))->H [2,1]=some (.map 0 (bz x.ds))->
   (∀ hs,bP [0] (bL [0] hs) H=True)->(∀ hs es,bP [0] (bL [0] hs) (fun nm=>if nm=[2,1]then some (.map 0 es)else H nm)=True)->
   CL P [c] (ba nt [0] H (cN 0 (.ref [0,1] 0::xs.map .v)) []) (tH P rs x (s.val x xs) (s.wr.map fun f=>f x xs))):aL P f s.toSpec:=by
 obtain⟨c,hc,h⟩:=hb
 have aD:f≠yid:=Nat.ne_of_lt (show f<yid from hy)
 refine VSpec.sound (mM hf hc cG bW (gK hf hc hn) aD ?_) aD
 rintro os ds ⟨x,xs,rfl,rfl,hp⟩
 obtain⟨h1,h2⟩:=h x xs hp
 refine⟨by simpa using h1,?_⟩
 have hO:∀ hs,bP [0] (bL [0] hs) (aS [bp x [1,1] [2,1],.map 2 (bH x.bk),.map 0 (bz x.ds)]):=fun hs=>nj (by
  intro o ho dom hd
  simp only[List.mem_cons,List.not_mem_nil,or_false]at ho
  rcases ho with rfl | rfl | rfl
  ·simp[bp,O.clos,D.closL,D.clos,hd]
  ·rfl
  ·rfl) hs
 have :=h2 (aS [bp x [1,1] [2,1],.map 2 (bH x.bk),.map 0 (bz x.ds)]) rfl rfl rfl (fun hs=>eq_true (hO hs)) (fun hs es=>eq_true (ri (nm:=[2,1]) (o:=.map 0 es) rfl (hO hs)))
 refine CW.mono (il this) fun e σ hk=>?_
 rw[s.c_out]
 have key:(bF P σ rs).ok/\(bF P σ rs).d=s.val x xs/\σ.obj [0,1]=some (bp x [1,1] [2,1])/\σ.obj [1,1]=some (.map 2 (bH x.bk))/\σ.obj [2,1]=some (.map 0 (bz ((s.wr.map fun f=>f x xs).getD x.ds)))->
     (bF P σ rs).ok/\(bF P σ rs).d=s.val x xs/\ft [bp x [1,1] [2,1],.map 2 (bH x.bk),.map 0 (bz x.ds)] ⟨match s.wr with | none=>[] | some f=>[(2,.map 0 (bz (f x xs)))],[],s.val x xs⟩ σ:=by
  rintro⟨k1,k2,k3,k4,k5⟩
  refine⟨k1,k2,?_⟩
  have hd:=clos_imp (dom:=fun _=>false) (dom':=cL 3 []) (fun _ h=>by cases h) _ (cq x xs hp)
  cases hw:s.wr with
  |none=>
   rw[hw]at k5
   refine⟨⟨k3,k4,k5,trivial⟩,trivial,?_⟩
   show (D.clos (cL 3 []) (s.val x xs)&&_&&_&&_)=true
   rw[hd];rfl
  |some f=>
   rw[hw]at k5
   refine⟨⟨k3,k4,k5,trivial⟩,trivial,?_⟩
   show (D.clos (cL 3 []) (s.val x xs)&&_&&_&&_)=true
   rw[hd];rfl
 cases e with
 |normal=>exact key hk
 |ret=>exact key hk
 |_=>exact hk.elim
def v0(p:Vw->Prop)(g:Vw->D)(w:Option (Vw->List (Int×(Int×Int)))):VSpec:=
 ⟨fun x xs=>match xs with | []=>p x | _=>False,fun x xs=>match xs with | []=>g x | _=>.any,w.map fun w x xs=>match xs with | []=>w x | _=>[]⟩
theorem D7{p:Vw->Prop}{g:Vw->D}{w:Option (Vw->List (Int×(Int×Int)))}{x:Vw}{xs:List V}(h:(v0 p g w).pre x xs):
 xs=[]/\p x/\(v0 p g w).val x xs=g x/\((v0 p g w).wr.map fun f=>f x xs)=w.map fun w=>w x:=by
 unfold v0 at h
 simp only at h
 split at h
 ·exact⟨rfl,h,rfl,by cases w<;>rfl⟩
 ·exact h.elim
def v1{α:Type}(A:En α)(p:Vw->α->Prop)(g:Vw->α->D)(w:Option (Vw->α->List (Int×(Int×Int)))):VSpec:=
 ⟨fun x xs=>match xs with | [a]=>A.enc (A.dec a)=a/\p x (A.dec a) | _=>False,fun x xs=>match xs with | [a]=>g x (A.dec a) | _=>.any,w.map fun w x xs=>match xs with | [a]=>w x (A.dec a) | _=>[]⟩
theorem D6{α:Type}{A:En α}{p:Vw->α->Prop}{g:Vw->α->D}{w:Option (Vw->α->List (Int×(Int×Int)))}{x:Vw}{xs:List V}(h:(v1 A p g w).pre x xs):
 ∃ a,xs=[A.enc a]/\p x a/\(v1 A p g w).val x xs=g x a/\((v1 A p g w).wr.map fun f=>f x xs)=w.map fun w=>w x a:=by
 unfold v1 at h
 simp only at h
 split at h
 ·exact⟨_,by rw[h.1],h.2,rfl,by cases w<;>rfl⟩
 ·exact h.elim
def v2{α β:Type}(A:En α)(B:En β)(p:Vw->α->β->Prop)(g:Vw->α->β->D)(w:Option (Vw->α->β->List (Int×(Int×Int)))):VSpec:=
 ⟨fun x xs=>match xs with | [a,b]=>A.enc (A.dec a)=a/\B.enc (B.dec b)=b/\p x (A.dec a) (B.dec b) | _=>False,fun x xs=>match xs with | [a,b]=>g x (A.dec a) (B.dec b) | _=>.any,w.map fun w x xs=>match xs with | [a,b]=>w x (A.dec a) (B.dec b) | _=>[]⟩
theorem D5{α β:Type}{A:En α}{B:En β}{p:Vw->α->β->Prop}{g:Vw->α->β->D}{w:Option (Vw->α->β->List (Int×(Int×Int)))}{x:Vw}{xs:List V}(h:(v2 A B p g w).pre x xs):
 ∃ a b,xs=[A.enc a,B.enc b]/\p x a b/\(v2 A B p g w).val x xs=g x a b/\((v2 A B p g w).wr.map fun f=>f x xs)=w.map fun w=>w x a b:=by
 unfold v2 at h
 simp only at h
 split at h
 ·exact⟨_,_,by rw[h.1,h.2.1],h.2.2,rfl,by cases w<;>rfl⟩
 ·exact h.elim
def v3{α β γ:Type}(A:En α)(B:En β)(C:En γ)(p:Vw->α->β->γ->Prop)(g:Vw->α->β->γ->D)(w:Option (Vw->α->β->γ->List (Int×(Int×Int)))):VSpec:=
 ⟨fun x xs=>match xs with | [a,b,c]=>A.enc (A.dec a)=a/\B.enc (B.dec b)=b/\C.enc (C.dec c)=c/\p x (A.dec a) (B.dec b) (C.dec c) | _=>False,fun x xs=>match xs with | [a,b,c]=>g x (A.dec a) (B.dec b) (C.dec c) | _=>.any,w.map fun w x xs=>match xs with | [a,b,c]=>w x (A.dec a) (B.dec b) (C.dec c) | _=>[]⟩
section
variable {P:Program} {f:FuncId} {fn:Func} {nt:Nat} {rs:List ResultVar}
theorem MH{p:Vw->Prop}{g:Vw->D}{w:Option (Vw->List (Int×(Int×Int)))}(hf:P.funcs[f]?=some fn)(cG:fn.ntmps=nt)(bW:fn.results.toList=rs)(hn:(fn.name== "runtime.NumGoroutine")=false)(hy:f<1000000000)(cq:∀ x,D.clos (fun _=>false) (g x )=true)
 (hb:∃ cc,fn.body=some cc/\1<=nt/\∀ x,p x->∀ H:Name->Option O,H [0,1]=some (bp x [1,1] [2,1])->H [1,1]=some (.map 2 (bH x.bk))->H [2,1]=some (.map 0 (bz x.ds))->
   (∀ hs,bP [0] (bL [0] hs) H=True)->(∀ hs es,bP [0] (bL [0] hs) (fun nm=>if nm=[2,1]then some (.map 0 es)else H nm)=True)->
   CL P [cc] (ba nt [0] H (cN 0 (.ref [0,1] 0::[].map .v)) []) (tH P rs x (g x ) (w.map fun w=>w x ))):aL P f (v0 p g w).toSpec:=by
 obtain⟨cc,hc,h1,h⟩:=hb
 refine zz hf cG bW hn hy (fun x xs hp=>by
  obtain⟨rfl,_,hg,_⟩:=D7 hp
  rw[hg];exact cq x ) ⟨cc,hc,fun x xs hp=>?_⟩
 obtain⟨rfl,hp,hg,hw⟩:=D7 hp
 rw[hg,hw]
 exact⟨h1,h x hp⟩
theorem vS{α:Type}{A:En α}{p:Vw->α->Prop}{g:Vw->α->D}{w:Option (Vw->α->List (Int×(Int×Int)))}(hf:P.funcs[f]?=some fn)(cG:fn.ntmps=nt)(bW:fn.results.toList=rs)(hn:(fn.name== "runtime.NumGoroutine")=false)(hy:f<1000000000)(cq:∀ x a,D.clos (fun _=>false) (g x a)=true)
 (hb:∃ cc,fn.body=some cc/\2<=nt/\∀ x a,p x a->∀ H:Name->Option O,H [0,1]=some (bp x [1,1] [2,1])->H [1,1]=some (.map 2 (bH x.bk))->H [2,1]=some (.map 0 (bz x.ds))->
   (∀ hs,bP [0] (bL [0] hs) H=True)->(∀ hs es,bP [0] (bL [0] hs) (fun nm=>if nm=[2,1]then some (.map 0 es)else H nm)=True)->
   CL P [cc] (ba nt [0] H (cN 0 (.ref [0,1] 0::[A.enc a].map .v)) []) (tH P rs x (g x a) (w.map fun w=>w x a))):aL P f (v1 A p g w).toSpec:=by
 obtain⟨cc,hc,h1,h⟩:=hb
 refine zz hf cG bW hn hy (fun x xs hp=>by
  obtain⟨a,rfl,_,hg,_⟩:=D6 hp
  rw[hg];exact cq x a) ⟨cc,hc,fun x xs hp=>?_⟩
 obtain⟨a,rfl,hp,hg,hw⟩:=D6 hp
 rw[hg,hw]
 exact⟨h1,h x a hp⟩
theorem vR{α β:Type}{A:En α}{B:En β}{p:Vw->α->β->Prop}{g:Vw->α->β->D}{w:Option (Vw->α->β->List (Int×(Int×Int)))}(hf:P.funcs[f]?=some fn)(cG:fn.ntmps=nt)(bW:fn.results.toList=rs)(hn:(fn.name== "runtime.NumGoroutine")=false)(hy:f<1000000000)(cq:∀ x a b,D.clos (fun _=>false) (g x a b)=true)
 (hb:∃ cc,fn.body=some cc/\3<=nt/\∀ x a b,p x a b->∀ H:Name->Option O,H [0,1]=some (bp x [1,1] [2,1])->H [1,1]=some (.map 2 (bH x.bk))->H [2,1]=some (.map 0 (bz x.ds))->
   (∀ hs,bP [0] (bL [0] hs) H=True)->(∀ hs es,bP [0] (bL [0] hs) (fun nm=>if nm=[2,1]then some (.map 0 es)else H nm)=True)->
   CL P [cc] (ba nt [0] H (cN 0 (.ref [0,1] 0::[A.enc a,B.enc b].map .v)) []) (tH P rs x (g x a b) (w.map fun w=>w x a b))):aL P f (v2 A B p g w).toSpec:=by
 obtain⟨cc,hc,h1,h⟩:=hb
 refine zz hf cG bW hn hy (fun x xs hp=>by
  obtain⟨a,b,rfl,_,hg,_⟩:=D5 hp
  rw[hg];exact cq x a b) ⟨cc,hc,fun x xs hp=>?_⟩
 obtain⟨a,b,rfl,hp,hg,hw⟩:=D5 hp
 rw[hg,hw]
 exact⟨h1,h x a b hp⟩
end
attribute [go_sem] v0 v1 v2 v3 tH Option.map_some Option.map_none Option.getD_some Option.getD_none
attribute [go_sem] VSpec.toSpec VSpec.app gF mq bp sP
noncomputable section
def K16:List (Nat×Spec):=[(166,L5)]
theorem Mi:KS K16:=tc Ol.sound<|tn
attribute [go_sem] K16
def zeroR:Rec:=⟨0,0,0,[],0,0,0⟩
def fz(r:Rec):D:=.agg [.v (vInt r.so),.v (vInt r.bo),.v (vInt r.pa),.v (.sl (r.lv.map vInt)),.v (vInt r.da),.v (vInt r.kn),.v (vInt r.un)]
attribute [go_sem] fz
def lu:Option Rec->D
 |some r=>fz r
 |none=>.agg [.v (vInt 0),.v (vInt 0),.v (vInt 0),.nilsl,.v (vInt 0),.v (vInt 0),.v (vInt 0)]
theorem km(r:Option Rec)(p:Name->Bool):D.clos p (lu r)=true:=by cases r<;>rfl
def dC(l:List Rec)(s:Int):Option Rec:=l.find? fun r=>r.so==s
theorem Fh{l:List Rec}{s:Int}(h:db (fun x=>x.so==s) l<0):dC l s=none:=by
 unfold dC
 rw[List.find?_eq_none]
 intro x hx hp
 unfold db at h
 rw[if_pos (List.any_eq_true.2 ⟨x,hx,hp⟩)]at h
 omega
theorem Fg{l:List Rec}{s:Int}(h:¬ db (fun x=>x.so==s) l<0):∃ (i:Nat) (hi:i<l.length),db (fun x=>x.so==s) l=i/\dC l s=some l[i]:=by
 unfold db at h |-
 split at h
 ·rename_i iV
  have ae:l.findIdx (fun x=>x.so==s)<l.length:=List.findIdx_lt_length_of_exists (by obtain⟨x,hx,hp⟩:=List.any_eq_true.1 iV;exact⟨x,hx,hp⟩)
  rw[if_pos iV]
  refine⟨_,ae,rfl,?_⟩
  unfold dC
  rw[List.find?_eq_some_iff_getElem]
  exact⟨List.findIdx_getElem (w:=ae),_,ae,rfl,fun j hj=>by simpa using List.not_of_lt_findIdx hj⟩
 ·omega
def LK:VSpec:=v1 iI (fun _ _=>True) (fun x s=>.tup [lu (dC x.rs s),.v (.bool (dC x.rs s).isSome)]) none
def S77:Spec:=LK.toSpec
attribute [go_sem] LK S77
set_option maxHeartbeats 4000000 in
theorem Ij:aL Tryz.prog 77 S77:=by
 refine vS (rs:=[.cell 4 36,.tmp 5]) Tryz.func77 Tryz.ntmps77 (by rfl) (by kernel_rfl) (by decide) (fun _ _=>by first | rfl | exact km _ _ | simp[D.clos,D.closL,km]) ⟨_,rfl,lb rfl,fun x s hp H h0 h1 h2 hO ab=>?_⟩
 simp only[iI,bp,cN,List.map_cons,List.map_nil,Nat.zero_add,Option.map_some,Option.map_none]at h0 |-
 have hΓ:=Mi
 repeat refine sq ?_
 refine rx hΓ [0,3,4] [[3,0],[4,0]] (fun K' hK=>by simp only[go_sem,hO,ab,h0,h1,h2];(repeat (refine⟨ak,?_⟩));exact hK _ (by simp only[go_sem,hO,ab,h0,h1,h2]) (by simp only[go_sem,hO,ab,h0,h1,h2]<;>rfl)) ?_
 repeat refine sq ?_
 refine rx hΓ [0,4,6] [[4,0]] (fun K' hK=>by simp only[go_sem,hO,ab,h0,h1,h2,true_or,or_true];(repeat (refine⟨ak,?_⟩));exact hK _ (by simp only[go_sem,hO,ab,h0,h1,h2,true_or,or_true]) (by simp only[go_sem,hO,ab,h0,h1,h2,true_or,or_true]<;>rfl)) ?_
 repeat refine sq ?_
 refine rx hΓ [0,4,6,14] [[4,0]] (fun K' hK=>by simp only[go_sem,hO,ab,h0,h1,h2];(repeat (refine⟨ak,?_⟩));exact hK _ (by simp only[go_sem,hO,ab,h0,h1,h2]) (by simp only[go_sem,hO,ab,h0,h1,h2]<;>rfl)) ?_
 repeat refine sq ?_
 refine aB (fun hb=>?_) fun hb=>?_
 ·repeat refine sq ?_
  have e:dC x.rs s=none:=Fh (by simpa using hb)
  repeat refine sq ?_
  refine rx hΓ [4,5] [[4,0]] (fun K' hK=>by simp only[go_sem,hO,ab,h0,h1,h2];(repeat (refine⟨ak,?_⟩));exact hK _ (by simp only[go_sem,hO,ab,h0,h1,h2]) (by simp only[go_sem,hO,ab,h0,h1,h2]<;>rfl)) ?_
  refine ay ?_
  simp only[go_sem,hO,ab,h0,h1,h2]
  rw[e];rfl
 ·repeat refine sq ?_
  obtain⟨i,hi,e1,e⟩:=Fg (by simpa using hb)
  have bu:(i:Int)<x.rs.length:=by omega
  rw[e1]
  refine aG ?_
  repeat refine sq ?_
  refine rx hΓ [4,5] [[4,0]] (fun K' hK=>by simp only[go_sem,hO,ab,h0,h1,h2,ah hi,ai,aj,bu];(repeat (refine⟨ak,?_⟩));exact hK _ (by simp only[go_sem,hO,ab,h0,h1,h2,ah hi,ai,aj,bu]) (by simp only[go_sem,hO,ab,h0,h1,h2,ah hi,ai,aj,bu]<;>rfl)) ?_
  refine ay ?_
  simp only[go_sem,hO,ab,h0,h1,h2]
  rw[e];rfl
end
noncomputable section
structure Rg where
 (lo hi:Int)
 deriving Inhabited,DecidableEq
def qI(r:Rg):V:=.agg [vInt r.lo,vInt r.hi]
def sR:V->Rg
 | .agg [.int _ a,.int _ b]=>⟨a,b⟩
 |_=>default
def Bn:En Rg:=⟨qI,sR⟩
attribute [go_sem] qI sR Bn
@[go_sem] theorem ads(p:Rg):(⟨p.lo,p.hi⟩:Rg)=p:=rfl
def bI:List (Int×(Int×Int))->Int->Int×Int
 |[],_=>(0,0)
 |(k,d)::r,i=>if k=i then d else bI r i
def jW:List (Int×(Int×Int))->Int->Int×Int->List (Int×(Int×Int))
 |[],i,d=>[(i,d)]
 |(k,e)::r,i,d=>if k=i then(i,d)::r else(k,e)::jW r i d
theorem iG(d:List (Int×(Int×Int)))(i:Int):(el (bz d) (vInt i)).getD (.agg [vInt 0,vInt 0])=.agg [vInt (bI d i).1,vInt (bI d i).2]:=by
 induction d with
 |nil=>rfl
 |cons q r ih=>
  obtain⟨k,e⟩:=q
  show (if eK (vInt k) (vInt i)=true then some (V.agg [vInt e.1,vInt e.2])else el (bz r) (vInt i)).getD _=_
  by_cases h:k=i
  ·subst h;simp[eK,bI]
  ·have h':(k==i)=false:=by simpa using h
   simp only[eK,h',Bool.false_eq_true,if_false,bI,h]
   exact ih
theorem F3(d:List (Int×(Int×Int)))(i a b:Int):dt (bz d) (vInt i) (.agg [vInt a,vInt b])=bz (jW d i (a,b)):=by
 induction d with
 |nil=>rfl
 |cons q r ih=>
  obtain⟨k,e⟩:=q
  show (if eK (vInt k) (vInt i)=true then(vInt i,V.agg [vInt a,vInt b])::bz r else(vInt k,V.agg [vInt e.1,vInt e.2])::dt (bz r) (vInt i) (.agg [vInt a,vInt b]))=_
  by_cases h:k=i
  ·subst h;simp[eK,jW,bz]
  ·have h':(k==i)=false:=by simpa using h
   simp only[eK,h',Bool.false_eq_true,if_false,jW,h,ih]
   rfl
def dk(a b:Int):Int:=if b>a then b else a
def wU(a b:Int):Int:=if b<a then b else a
def AD(x:Vw)(i:Int)(r:Rg):List (Int×(Int×Int)):=jW x.ds i (dk (bI x.ds i).1 r.lo,wU (bI x.ds i).2 r.hi)
def LM:VSpec:=v2 iI Bn (fun _ _ _=>True) (fun _ _ _=>.tup []) (some AD)
def S165:Spec:=LM.toSpec
attribute [go_sem] LM S165
set_option maxHeartbeats 4000000 in
theorem Bd:aL Tryz.prog 165 S165:=by
 refine vR (rs:=[]) Tryz.func165 Tryz.ntmps165 (by rfl) (by kernel_rfl) (by decide) (fun _ _ _=>by first | rfl | simp[D.clos,D.closL,km]) ⟨_,rfl,lb rfl,fun x i r hp H h0 h1 h2 hO ab=>?_⟩
 have hP:=fB
 simp only[iI,Bn,qI,bp,cN,List.map_cons,List.map_nil,Nat.zero_add,Option.map_some,Option.map_none]at h0 |-
 have hΓ:=@eT Tryz.prog
 repeat refine sq ?_
 refine rx hΓ [0,1,5] [[5,0]] (fun K' hK=>by simp only[go_sem,hO,ab,h0,h1,h2];(repeat (refine⟨ak,?_⟩));exact hK _ (by simp only[go_sem,hO,ab,h0,h1,h2]) (by simp only[go_sem,hO,ab,h0,h1,h2]<;>rfl)) ?_
 repeat refine sq ?_
 refine rx hΓ [0,1,5,6] [[5,0],[6,0]] (fun K' hK=>by simp only[go_sem,hO,ab,h0,h1,h2,iG];(repeat (refine⟨ak,?_⟩));exact hK _ (by simp only[go_sem,hO,ab,h0,h1,h2,iG]) (by simp only[go_sem,hO,ab,h0,h1,h2,iG]<;>rfl)) ?_
 repeat refine sq ?_
 refine nY hΓ hP [[],[0],[0,1],[0,1,2],[],[],[5],[],[7],[5,6,7,8],[],[10],[],[12],[10,11,12,13],[5,6,7,8,9,10,11,12,13,14],u16] (by kernel_rfl) fun K' hK=>?_
 simp only[go_sem,hO,ab,h0,h1,h2,F3]
 repeat (refine⟨ak,?_⟩)
 first | refine⟨by rfl,?_⟩ | skip
 refine hK _ ?_
 clear K' hK
 simp only[go_sem]
 exact⟨h0,h1,rfl⟩
end
def bB(l:Led)(k:Int):List Rec:=l.rs.filter fun r=>cQ r.kn r.un k
def bm(l:Led)(k:Int):List Sig:=l.ss.filter fun s=>cQ s.kn s.un k
def jl(pa:Int)(lv:List Int)(r:Rec):Bool:=r.pa==pa&&r.lv.any fun n=>lv.contains n
def dU(rs:List Rec)(pa:Int)(lv:List Int):List Rec:=rs.filter (jl pa lv)
abbrev Bk:=List ((Int×Int)×Int)
abbrev Ds:=List (Int×(Int×Int))
def bt:Bk->Int×Int->Option Int
 |[],_=>none
 |(k,i)::r,q=>if k=q then some i else bt r q
def pq:Bk->Int×Int->Int->Bk
 |[],q,i=>[(q,i)]
 |(k,e)::r,q,i=>if k=q then(q,i)::r else(k,e)::pq r q i
theorem GP(a b c d:Int):eK (.agg [vInt a,vInt b]) (.agg [vInt c,vInt d])=decide ((a,b)=(c,d)):=by
 show (a==c&&b==d)=_
 by_cases h1:a=c<;>by_cases h2:b=d<;>simp[h1,h2]
theorem av(b:Bk)(p f:Int):el (bH b) (.agg [vInt p,vInt f])=(bt b (p,f)).map vInt:=by
 induction b with
 |nil=>rfl
 |cons q r ih=>
  obtain⟨⟨k1,k2⟩,i⟩:=q
  show (if eK (.agg [vInt k1,vInt k2]) (.agg [vInt p,vInt f])=true then some (vInt i)else el (bH r) (.agg [vInt p,vInt f]))=_
  rw[ih,GP]
  simp only[bt]
  by_cases h:(k1,k2)=(p,f)
  ·rw[if_pos h,if_pos (by simpa using h)];rfl
  ·rw[if_neg h,if_neg (by simpa using h)]
theorem P2(b:Bk)(p f i:Int):dt (bH b) (.agg [vInt p,vInt f]) (vInt i)=bH (pq b (p,f) i):=by
 induction b with
 |nil=>rfl
 |cons q r ih=>
  obtain⟨⟨k1,k2⟩,e⟩:=q
  show (if eK (.agg [vInt k1,vInt k2]) (.agg [vInt p,vInt f])=true then(V.agg [vInt p,vInt f],vInt i)::bH r else(.agg [vInt k1,vInt k2],vInt e)::dt (bH r) (.agg [vInt p,vInt f]) (vInt i))=_
  rw[ih,GP]
  simp only[pq]
  by_cases h:(k1,k2)=(p,f)
  ·rw[if_pos h,if_pos (by simpa using h)];rfl
  ·rw[if_neg h,if_neg (by simpa using h)];rfl
def nu(d:Ds)(i:Int)(r:Rg):Ds:=jW d i (dk (bI d i).1 r.lo,wU (bI d i).2 r.hi)
def aI(l:Led)(i:Nat):Ret:=l.ts.getD i default
def eH(k:Int)(rs:List Rec)(bk:Bk)(x:Ret):Option Rec:=match dC rs x.re with
 |none=>none
 |some r=>if cQ x.kn x.un k&&!(decide (dk x.lo (r.da+1)>x.hi)||x.lv.any fun f=>(bt bk (r.so,f)).isSome||!r.lv.contains f)then some r else none
def n7(b:Bk)(so:Int)(i:Int)(lv:List Int):Bk:=lv.foldl (fun b f=>pq b (so,f) i) b
def oK(l:Led)(k:Int)(v:Vw)(i:Nat):Vw:=match eH k v.rs v.bk (aI l i)with
 |none=>v
 |some r=>{ v with bk:=n7 v.bk r.so i (aI l i).lv,ts:=v.ts++[(i:Int)],ds:=jW v.ds i (dk (aI l i).lo (r.da+1),(aI l i).hi) }
def aw(l:Led)(k:Int):Nat->Vw
 | 0=>⟨l,bB l k,[],[],[]⟩
 |s+1=>oK l k (aw l k s) s
def mj(rs:List Rec)(s:Int):Rec:=(dC rs s).getD zeroR
def jF(d:Ds)(i da:Int)(os:List Rec):Ds:=os.foldl (fun d o=>if o.da>da then nu d i ⟨0,o.da⟩else d) d
def gj(l:Led)(rs:List Rec)(ts:List Int)(d:Ds):Nat->Ds
 | 0=>d
 |j+1=>jF (gj l rs ts d j) (ts.getD j 0) (mj rs (aI l (ts.getD j 0).toNat).re).da (dU rs (mj rs (aI l (ts.getD j 0).toNat).re).pa (aI l (ts.getD j 0).toNat).lv)
def aC(l:Led)(k:Int):Vw:={ aw l k l.ts.length with ds:=gj l (bB l k) (aw l k l.ts.length).ts (aw l k l.ts.length).ds (aw l k l.ts.length).ts.length }
theorem Qp(l:Led)(k:Int)(v:Vw)(i:Nat):(oK l k v i).l=v.l/\(oK l k v i).rs=v.rs:=by
 unfold oK
 split<;>exact⟨rfl,rfl⟩
theorem pU(l:Led)(k:Int)(i:Nat):(aw l k i).l=l/\(aw l k i).rs=bB l k:=by
 induction i with
 |zero=>exact⟨rfl,rfl⟩
 |succ i ih=>
  have :=Qp l k (aw l k i) i
  exact⟨this.1.trans ih.1,this.2.trans ih.2⟩
def qO(x:Vw)(a b:Rec):Bool:=a.lv.any fun f=>(a.pa==b.pa&&b.lv.contains f)&&(a.da==b.da||match bt x.bk (a.so,f)with
 |none=>true
 |some i=>decide (dk (aI x.l i.toNat).lo (a.da+1)>b.da))
def jY(x:Vw)(a b:Rec):Bool:=if a.da>b.da then qO x b a else qO x a b
def lz(x:Vw)(i:Nat):Option (Int×Int):=((x.rs.drop (i+1)).find? (jY x (x.rs.getD i zeroR))).map fun b=>((x.rs.getD i zeroR).so,b.so)
def ek(x:Vw):Option (Int×Int):=(List.range x.rs.length).findSome? (lz x)
def vx(day:Int)(o:Option Rec)(r:Rec):Option Rec:=if decide (r.da<=day)&&(o.isNone||decide (r.da>=(o.getD zeroR).da))then some r else o
def gN(rs:List Rec)(pa le day:Int):Option Rec:=(dU rs pa [le]).foldl (vx day) none
def ct:Rg:=⟨0,100000⟩
def cg:Rg:=⟨1,0⟩
def bf(x:Vw)(s:Sig):Int×Rg:=match gN x.rs s.pa s.le s.da with
 |none=>if s.pe=0 then(-1,ct)else(-1,cg)
 |some r=>match bt x.bk (r.so,s.le)with
  |none=>if s.pe=r.bo then(-1,ct)else(-1,cg)
  |some i=>if s.pe=0 then(i,⟨0,s.da⟩)else if s.pe=r.bo then(i,⟨s.da+1,100000⟩)else(-1,cg)
def qE(x:Vw)(d:Ds)(s:Sig):Ds:=if (bf x s).1>=0 then nu d (bf x s).1 (bf x s).2 else d
def eQ(x:Vw)(d:Ds)(l:List Sig):Ds:=l.foldl (qE x) d
def gi(x:Vw)(s:Sig):Bool:=decide ((bf x s).1>=0)||!decide ((bf x s).2.lo>(bf x s).2.hi)
def ve(ts:List Int)(d:Ds):Bool:=ts.all fun i=>decide ((bI d i).1<=(bI d i).2)
def fM(x:Vw)(l:List Sig):Bool:=l.all (gi x)&&ve x.ts (eQ x x.ds l)
end Go.Eng
