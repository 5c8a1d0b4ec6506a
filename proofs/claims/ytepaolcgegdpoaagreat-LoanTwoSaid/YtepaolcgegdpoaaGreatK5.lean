import Derived.Test.YtepaolcgegdpoaaGreatK4
import Derived.Test.YtepaolcgegdpoaaGreatProg
import Derived.KernelRfl
/- Texts L0 to LM1. -/
set_option linter.all false
namespace Go.Eng
open Go Go.Proofs
abbrev KS (K:List (Nat×Spec)):Prop:=∀ f s,tbl K f=some s->aK Tryz.prog f s
@[go_sem] theorem ta0:aY Tryz.prog 0=some (false,1):=by kernel_rfl
@[go_sem] theorem ta1:aY Tryz.prog 1=some (false,1):=by kernel_rfl
@[go_sem] theorem tz1:a8 Tryz.prog 1=some .nilFunc:=by kernel_rfl
@[go_sem] theorem ta2:aY Tryz.prog 2=some (false,1):=by kernel_rfl
@[go_sem] theorem ti2:lz Tryz.prog 2=some .i64:=by kernel_rfl
@[go_sem] theorem tz2:a8 Tryz.prog 2=some (.int .i64 0):=by kernel_rfl
@[go_sem] theorem wk:aY Tryz.prog 3=some (false,1):=by kernel_rfl
@[go_sem] theorem ti3:lz Tryz.prog 3=some .i64:=by kernel_rfl
@[go_sem] theorem tz3:a8 Tryz.prog 3=some (.int .i64 0):=by kernel_rfl
@[go_sem] theorem ta4:aY Tryz.prog 4=some (false,1):=by kernel_rfl
@[go_sem] theorem tz4:a8 Tryz.prog 4=some (.bool false):=by kernel_rfl
@[go_sem] theorem acR:aY Tryz.prog 18=some (true,1):=by kernel_rfl
@[go_sem] theorem aa2:gA Tryz.prog 18=some [(0,1)]:=by kernel_rfl
@[go_sem] theorem aaz:a8 Tryz.prog 18=some (.agg #[(.pointer none)]):=by kernel_rfl
@[go_sem] theorem abY:bH Tryz.prog 18 0=some (0,1,false):=by kernel_rfl
@[go_sem] theorem acL:aY Tryz.prog 22=some (false,1):=by kernel_rfl
@[go_sem] theorem ach:bR Tryz.prog 22=some (100,5,40):=by kernel_rfl
@[go_sem] theorem abi:cZ Tryz.prog 22=some 0:=by kernel_rfl
@[go_sem] theorem aau:a8 Tryz.prog 22=some (.slice none 0 0):=by kernel_rfl
@[go_sem] theorem acK:aY Tryz.prog 23=some (false,1):=by kernel_rfl
@[go_sem] theorem acg:bR Tryz.prog 23=some (131,7,56):=by kernel_rfl
@[go_sem] theorem abh:cZ Tryz.prog 23=some 0:=by kernel_rfl
@[go_sem] theorem aat:a8 Tryz.prog 23=some (.slice none 0 0):=by kernel_rfl
@[go_sem] theorem acJ:aY Tryz.prog 25=some (true,3):=by kernel_rfl
@[go_sem] theorem aa1:gA Tryz.prog 25=some [(0,1),(1,1),(2,1)]:=by kernel_rfl
@[go_sem] theorem aas:a8 Tryz.prog 25=some (.agg #[(.slice none 0 0),(.slice none 0 0),(.slice none 0 0)]):=by kernel_rfl
@[go_sem] theorem abX:bH Tryz.prog 25 0=some (0,1,false):=by kernel_rfl
@[go_sem] theorem abW:bH Tryz.prog 25 1=some (1,1,false):=by kernel_rfl
@[go_sem] theorem abV:bH Tryz.prog 25 2=some (2,1,false):=by kernel_rfl
@[go_sem] theorem acI:aY Tryz.prog 26=some (false,1):=by kernel_rfl
@[go_sem] theorem acf:bR Tryz.prog 26=some (46,2,16):=by kernel_rfl
@[go_sem] theorem abg:cZ Tryz.prog 26=some 0:=by kernel_rfl
@[go_sem] theorem aar:a8 Tryz.prog 26=some (.slice none 0 0):=by kernel_rfl
@[go_sem] theorem acH:aY Tryz.prog 27=some (false,1):=by kernel_rfl
@[go_sem] theorem ace:bR Tryz.prog 27=some (36,7,72):=by kernel_rfl
@[go_sem] theorem abf:cZ Tryz.prog 27=some 0:=by kernel_rfl
@[go_sem] theorem aaq:a8 Tryz.prog 27=some (.slice none 0 0):=by kernel_rfl
@[go_sem] theorem acG:aY Tryz.prog 28=some (false,1):=by kernel_rfl
@[go_sem] theorem acd:bR Tryz.prog 28=some (40,8,80):=by kernel_rfl
@[go_sem] theorem abe:cZ Tryz.prog 28=some 0:=by kernel_rfl
@[go_sem] theorem aap:a8 Tryz.prog 28=some (.slice none 0 0):=by kernel_rfl
@[go_sem] theorem acF:aY Tryz.prog 29=some (false,1):=by kernel_rfl
@[go_sem] theorem El:bR Tryz.prog 29=some (81,7,56):=by kernel_rfl
@[go_sem] theorem abd:cZ Tryz.prog 29=some 0:=by kernel_rfl
@[go_sem] theorem aao:a8 Tryz.prog 29=some (.slice none 0 0):=by kernel_rfl
@[go_sem] theorem acE:aY Tryz.prog 31=some (true,4):=by kernel_rfl
@[go_sem] theorem aa0:gA Tryz.prog 31=some [(0,1),(1,1),(2,1),(3,1)]:=by kernel_rfl
@[go_sem] theorem aan:a8 Tryz.prog 31=some (.agg #[(.slice none 0 0),(.slice none 0 0),(.slice none 0 0),(.slice none 0 0)]):=by kernel_rfl
@[go_sem] theorem abU:bH Tryz.prog 31 0=some (0,1,false):=by kernel_rfl
@[go_sem] theorem abT:bH Tryz.prog 31 1=some (1,1,false):=by kernel_rfl
@[go_sem] theorem abS:bH Tryz.prog 31 2=some (2,1,false):=by kernel_rfl
@[go_sem] theorem abR:bH Tryz.prog 31 3=some (3,1,false):=by kernel_rfl
@[go_sem] theorem acD:aY Tryz.prog 32=some (false,1):=by kernel_rfl
@[go_sem] theorem acb:bR Tryz.prog 32=some (3,1,8):=by kernel_rfl
@[go_sem] theorem abb:cZ Tryz.prog 32=some 0:=by kernel_rfl
@[go_sem] theorem aam:a8 Tryz.prog 32=some (.slice none 0 0):=by kernel_rfl
@[go_sem] theorem acC:aY Tryz.prog 33=some (false,1):=by kernel_rfl
@[go_sem] theorem acB:aY Tryz.prog 36=some (true,7):=by kernel_rfl
@[go_sem] theorem aaZ:gA Tryz.prog 36=some [(0,1),(1,1),(2,1),(3,1),(4,1),(5,1),(6,1)]:=by kernel_rfl
@[go_sem] theorem aal:a8 Tryz.prog 36=some (.agg #[(.int .i64 0),(.int .i64 0),(.int .i64 0),(.slice none 0 0),(.int .i64 0),(.int .i64 0),(.int .i64 0)]):=by kernel_rfl
@[go_sem] theorem abQ:bH Tryz.prog 36 0=some (0,1,false):=by kernel_rfl
@[go_sem] theorem abP:bH Tryz.prog 36 1=some (1,1,false):=by kernel_rfl
@[go_sem] theorem abO:bH Tryz.prog 36 2=some (2,1,false):=by kernel_rfl
@[go_sem] theorem abN:bH Tryz.prog 36 3=some (3,1,false):=by kernel_rfl
@[go_sem] theorem abM:bH Tryz.prog 36 4=some (4,1,false):=by kernel_rfl
@[go_sem] theorem abL:bH Tryz.prog 36 5=some (5,1,false):=by kernel_rfl
@[go_sem] theorem abK:bH Tryz.prog 36 6=some (6,1,false):=by kernel_rfl
@[go_sem] theorem acA:aY Tryz.prog 38=some (true,2):=by kernel_rfl
@[go_sem] theorem aaY:gA Tryz.prog 38=some [(0,1),(1,1)]:=by kernel_rfl
@[go_sem] theorem aak:a8 Tryz.prog 38=some (.agg #[(.int .i64 0),(.int .i64 0)]):=by kernel_rfl
@[go_sem] theorem abJ:bH Tryz.prog 38 0=some (0,1,false):=by kernel_rfl
@[go_sem] theorem abI:bH Tryz.prog 38 1=some (1,1,false):=by kernel_rfl
@[go_sem] theorem acz:aY Tryz.prog 40=some (true,8):=by kernel_rfl
@[go_sem] theorem aaX:gA Tryz.prog 40=some [(0,1),(1,1),(2,1),(3,1),(4,2),(6,1),(7,1)]:=by kernel_rfl
@[go_sem] theorem aaj:a8 Tryz.prog 40=some (.agg #[(.int .i64 0),(.int .i64 0),(.int .i64 0),(.slice none 0 0),(.int .i64 0),(.int .i64 0),(.int .i64 0),(.int .i64 0)]):=by kernel_rfl
@[go_sem] theorem abH:bH Tryz.prog 40 0=some (0,1,false):=by kernel_rfl
@[go_sem] theorem abG:bH Tryz.prog 40 1=some (1,1,false):=by kernel_rfl
@[go_sem] theorem abF:bH Tryz.prog 40 2=some (2,1,false):=by kernel_rfl
@[go_sem] theorem abE:bH Tryz.prog 40 3=some (3,1,false):=by kernel_rfl
@[go_sem] theorem abD:bH Tryz.prog 40 4=some (4,2,true):=by kernel_rfl
@[go_sem] theorem abC:bH Tryz.prog 40 5=some (6,1,false):=by kernel_rfl
@[go_sem] theorem abB:bH Tryz.prog 40 6=some (7,1,false):=by kernel_rfl
@[go_sem] theorem acy:aY Tryz.prog 42=some (false,1):=by kernel_rfl
@[go_sem] theorem abn:lz Tryz.prog 42=some .i64:=by kernel_rfl
@[go_sem] theorem aai:a8 Tryz.prog 42=some (.int .i64 0):=by kernel_rfl
@[go_sem] theorem acx:aY Tryz.prog 43=some (false,1):=by kernel_rfl
@[go_sem] theorem acw:aY Tryz.prog 46=some (true,2):=by kernel_rfl
@[go_sem] theorem aaW:gA Tryz.prog 46=some [(0,1),(1,1)]:=by kernel_rfl
@[go_sem] theorem aah:a8 Tryz.prog 46=some (.agg #[(.int .i64 0),(.int .i64 0)]):=by kernel_rfl
@[go_sem] theorem abA:bH Tryz.prog 46 0=some (0,1,false):=by kernel_rfl
@[go_sem] theorem abz:bH Tryz.prog 46 1=some (1,1,false):=by kernel_rfl
@[go_sem] theorem acv:aY Tryz.prog 51=some (false,1):=by kernel_rfl
@[go_sem] theorem aca:bR Tryz.prog 51=some (56,2,16):=by kernel_rfl
@[go_sem] theorem aba:cZ Tryz.prog 51=some 0:=by kernel_rfl
@[go_sem] theorem aag:a8 Tryz.prog 51=some (.slice none 0 0):=by kernel_rfl
@[go_sem] theorem acu:aY Tryz.prog 52=some (false,1):=by kernel_rfl
@[go_sem] theorem acs:aY Tryz.prog 56=some (true,2):=by kernel_rfl
@[go_sem] theorem aaV:gA Tryz.prog 56=some [(0,1),(1,1)]:=by kernel_rfl
@[go_sem] theorem aaf:a8 Tryz.prog 56=some (.agg #[(.int .i64 0),(.int .i64 0)]):=by kernel_rfl
@[go_sem] theorem aby:bH Tryz.prog 56 0=some (0,1,false):=by kernel_rfl
@[go_sem] theorem abx:bH Tryz.prog 56 1=some (1,1,false):=by kernel_rfl
@[go_sem] theorem acr:aY Tryz.prog 57=some (false,1):=by kernel_rfl
@[go_sem] theorem acq:aY Tryz.prog 65=some (false,1):=by kernel_rfl
@[go_sem] theorem acp:aY Tryz.prog 81=some (true,7):=by kernel_rfl
@[go_sem] theorem aaU:gA Tryz.prog 81=some [(0,1),(1,1),(2,1),(3,1),(4,1),(5,1),(6,1)]:=by kernel_rfl
@[go_sem] theorem M3:a8 Tryz.prog 81=some (.agg #[(.int .i64 0),(.int .i64 0),(.int .i64 0),(.int .i64 0),(.int .i64 0),(.int .i64 0),(.int .i64 0)]):=by kernel_rfl
@[go_sem] theorem abw:bH Tryz.prog 81 0=some (0,1,false):=by kernel_rfl
@[go_sem] theorem abv:bH Tryz.prog 81 1=some (1,1,false):=by kernel_rfl
@[go_sem] theorem abu:bH Tryz.prog 81 2=some (2,1,false):=by kernel_rfl
@[go_sem] theorem abt:bH Tryz.prog 81 3=some (3,1,false):=by kernel_rfl
@[go_sem] theorem abr:bH Tryz.prog 81 4=some (4,1,false):=by kernel_rfl
@[go_sem] theorem abq:bH Tryz.prog 81 5=some (5,1,false):=by kernel_rfl
@[go_sem] theorem abp:bH Tryz.prog 81 6=some (6,1,false):=by kernel_rfl
@[go_sem] theorem aco:aY Tryz.prog 86=some (false,1):=by kernel_rfl
@[go_sem] theorem acn:aY Tryz.prog 95=some (false,1):=by kernel_rfl
@[go_sem] theorem aae:a8 Tryz.prog 95=some .nilFunc:=by kernel_rfl
@[go_sem] theorem acm:aY Tryz.prog 96=some (false,1):=by kernel_rfl
@[go_sem] theorem aad:a8 Tryz.prog 96=some .nilFunc:=by kernel_rfl
@[go_sem] theorem ack:aY Tryz.prog 97=some (false,1):=by kernel_rfl
@[go_sem] theorem aac:a8 Tryz.prog 97=some .nilFunc:=by kernel_rfl
@[go_sem] theorem acj:aY Tryz.prog 98=some (false,1):=by kernel_rfl
@[go_sem] theorem aab:a8 Tryz.prog 98=some .nilFunc:=by kernel_rfl
@[go_sem] theorem ade:aY Tryz.prog 100=some (true,5):=by kernel_rfl
@[go_sem] theorem aaT:jj Tryz.prog 100=some (5,1,false):=by kernel_rfl
@[go_sem] theorem aa7:gA Tryz.prog 100=some [(0,1),(1,1),(2,1),(3,1),(4,1)]:=by kernel_rfl
@[go_sem] theorem aaR:a8 Tryz.prog 100=some (.agg #[(.int .i64 0),(.int .i64 0),(.int .i64 0),(.int .i64 0),(.int .i64 0)]):=by kernel_rfl
@[go_sem] theorem adb:aY Tryz.prog 103=some (false,1):=by kernel_rfl
@[go_sem] theorem aci:bR Tryz.prog 103=some (4,1,1):=by kernel_rfl
@[go_sem] theorem abm:cZ Tryz.prog 103=some 0:=by kernel_rfl
@[go_sem] theorem aaQ:a8 Tryz.prog 103=some (.slice none 0 0):=by kernel_rfl
@[go_sem] theorem ada:aY Tryz.prog 108=some (true,7):=by kernel_rfl
@[go_sem] theorem aa6:gA Tryz.prog 108=some [(0,4),(4,1),(5,1),(6,1)]:=by kernel_rfl
@[go_sem] theorem aaP:a8 Tryz.prog 108=some (.agg #[(.slice none 0 0),(.slice none 0 0),(.slice none 0 0),(.slice none 0 0),(.int .i64 0),(.slice none 0 0),(.slice none 0 0)]):=by kernel_rfl
@[go_sem] theorem ab9:bH Tryz.prog 108 0=some (0,4,true):=by kernel_rfl
@[go_sem] theorem ab8:bH Tryz.prog 108 1=some (4,1,false):=by kernel_rfl
@[go_sem] theorem ab7:bH Tryz.prog 108 2=some (5,1,false):=by kernel_rfl
@[go_sem] theorem ab6:bH Tryz.prog 108 3=some (6,1,false):=by kernel_rfl
@[go_sem] theorem ac':aY Tryz.prog 112=some (false,1):=by kernel_rfl
@[go_sem] theorem ac9:aY Tryz.prog 113=some (false,1):=by kernel_rfl
@[go_sem] theorem aaO:a8 Tryz.prog 113=some (.pointer none):=by kernel_rfl
@[go_sem] theorem ac8:aY Tryz.prog 115=some (false,1):=by kernel_rfl
@[go_sem] theorem aaN:a8 Tryz.prog 115=some (.pointer none):=by kernel_rfl
@[go_sem] theorem ac7:aY Tryz.prog 117=some (false,1):=by kernel_rfl
@[go_sem] theorem ac6:aY Tryz.prog 119=some (false,1):=by kernel_rfl
@[go_sem] theorem ac5:aY Tryz.prog 120=some (false,1):=by kernel_rfl
@[go_sem] theorem abl:cZ Tryz.prog 120=some 2:=by kernel_rfl
@[go_sem] theorem aa':ji Tryz.prog 120=some (2,3):=by kernel_rfl
@[go_sem] theorem aaM:a8 Tryz.prog 120=some (.map none):=by kernel_rfl
@[go_sem] theorem ac4:aY Tryz.prog 121=some (false,1):=by kernel_rfl
@[go_sem] theorem abk:cZ Tryz.prog 121=some 2:=by kernel_rfl
@[go_sem] theorem aa9:ji Tryz.prog 121=some (0,38):=by kernel_rfl
@[go_sem] theorem aaL:a8 Tryz.prog 121=some (.map none):=by kernel_rfl
@[go_sem] theorem ac3:aY Tryz.prog 123=some (true,5):=by kernel_rfl
@[go_sem] theorem aa5:gA Tryz.prog 123=some [(0,1),(1,1),(2,1),(3,1),(4,1)]:=by kernel_rfl
@[go_sem] theorem aaK:a8 Tryz.prog 123=some (.agg #[(.pointer none),(.slice none 0 0),(.slice none 0 0),(.map none),(.map none)]):=by kernel_rfl
@[go_sem] theorem ab5:bH Tryz.prog 123 0=some (0,1,false):=by kernel_rfl
@[go_sem] theorem ab4:bH Tryz.prog 123 1=some (1,1,false):=by kernel_rfl
@[go_sem] theorem ab3:bH Tryz.prog 123 2=some (2,1,false):=by kernel_rfl
@[go_sem] theorem ab2:bH Tryz.prog 123 3=some (3,1,false):=by kernel_rfl
@[go_sem] theorem ab1:bH Tryz.prog 123 4=some (4,1,false):=by kernel_rfl
@[go_sem] theorem ac2:aY Tryz.prog 125=some (true,2):=by kernel_rfl
@[go_sem] theorem aa4:gA Tryz.prog 125=some [(0,1),(1,1)]:=by kernel_rfl
@[go_sem] theorem aaJ:a8 Tryz.prog 125=some (.agg #[(.int .i64 0),(.int .i64 0)]):=by kernel_rfl
@[go_sem] theorem ab0:bH Tryz.prog 125 0=some (0,1,false):=by kernel_rfl
@[go_sem] theorem abZ:bH Tryz.prog 125 1=some (1,1,false):=by kernel_rfl
@[go_sem] theorem ac1:aY Tryz.prog 131=some (true,7):=by kernel_rfl
@[go_sem] theorem aaS:jj Tryz.prog 131=some (7,1,false):=by kernel_rfl
@[go_sem] theorem aa3:gA Tryz.prog 131=some [(0,1),(1,1),(2,1),(3,1),(4,1),(5,1),(6,1)]:=by kernel_rfl
@[go_sem] theorem aaI:a8 Tryz.prog 131=some (.agg #[(.int .i64 0),(.int .i64 0),(.int .i64 0),(.int .i64 0),(.int .i64 0),(.int .i64 0),(.int .i64 0)]):=by kernel_rfl
@[go_sem] theorem ac0:aY Tryz.prog 135=some (false,1):=by kernel_rfl
@[go_sem] theorem aaH:a8 Tryz.prog 135=some .nilFunc:=by kernel_rfl
@[go_sem] theorem acZ:aY Tryz.prog 139=some (false,1):=by kernel_rfl
@[go_sem] theorem aaG:a8 Tryz.prog 139=some .nilFunc:=by kernel_rfl
@[go_sem] theorem acY:aY Tryz.prog 153=some (false,1):=by kernel_rfl
@[go_sem] theorem aaF:a8 Tryz.prog 153=some .nilFunc:=by kernel_rfl
@[go_sem] theorem acX:aY Tryz.prog 155=some (false,1):=by kernel_rfl
@[go_sem] theorem aaE:a8 Tryz.prog 155=some .nilFunc:=by kernel_rfl
@[go_sem] theorem acW:aY Tryz.prog 157=some (false,1):=by kernel_rfl
@[go_sem] theorem aaD:a8 Tryz.prog 157=some .nilFunc:=by kernel_rfl
@[go_sem] theorem acV:aY Tryz.prog 159=some (false,1):=by kernel_rfl
@[go_sem] theorem aaC:a8 Tryz.prog 159=some .nilFunc:=by kernel_rfl
@[go_sem] theorem acU:aY Tryz.prog 160=some (false,1):=by kernel_rfl
@[go_sem] theorem abj:cZ Tryz.prog 160=some 2:=by kernel_rfl
@[go_sem] theorem aa8:ji Tryz.prog 160=some (0,4):=by kernel_rfl
@[go_sem] theorem aaB:a8 Tryz.prog 160=some (.map none):=by kernel_rfl
@[go_sem] theorem acT:aY Tryz.prog 161=some (false,1):=by kernel_rfl
@[go_sem] theorem aaA:a8 Tryz.prog 161=some .nilFunc:=by kernel_rfl
@[go_sem] theorem acS:aY Tryz.prog 164=some (false,1):=by kernel_rfl
@[go_sem] theorem acQ:aY Tryz.prog 186=some (false,1):=by kernel_rfl
@[go_sem] theorem aay:a8 Tryz.prog 186=some .nilFunc:=by kernel_rfl
@[go_sem] theorem acP:aY Tryz.prog 188=some (false,1):=by kernel_rfl
@[go_sem] theorem aax:a8 Tryz.prog 188=some .nilFunc:=by kernel_rfl
@[go_sem] theorem acO:aY Tryz.prog 191=some (false,1):=by kernel_rfl
@[go_sem] theorem aaw:a8 Tryz.prog 191=some .nilFunc:=by kernel_rfl
@[go_sem] theorem acN:aY Tryz.prog 205=some (false,1):=by kernel_rfl
@[go_sem] theorem acM:aY Tryz.prog 208=some (false,1):=by kernel_rfl
@[go_sem] theorem abo:lz Tryz.prog 208=some .u64:=by kernel_rfl
@[go_sem] theorem aav:a8 Tryz.prog 208=some (.int .u64 0):=by kernel_rfl
theorem gE:Tryz.prog.follows .mixedOrders=true:=by kernel_rfl
structure Pap where
 (id lv:Int)
 deriving Inhabited,DecidableEq
structure Rec where
 (so bo pa:Int)
 lv:List Int
 (da kn un:Int)
 deriving Inhabited,DecidableEq
structure Ret where
 (so re pe:Int)
 lv:List Int
 (lo hi kn un:Int)
 deriving Inhabited,DecidableEq
structure Sig where
 (so pe pa le da kn un:Int)
 deriving Inhabited,DecidableEq
structure Led where
 ps:List Pap
 rs:List Rec
 ts:List Ret
 ss:List Sig
 deriving Inhabited,DecidableEq
def jb:V->Int
 | .int _ n=>n
 |_=>0
def yu:V->Bool
 | .bool b=>b
 |_=>false
def Kz:V->List Int
 | .sl l=>l.map jb
 |_=>[]
def dv(p:Pap):V:=.agg [vInt p.id,vInt p.lv]
def px:V->Pap
 | .agg [.int _ a,.int _ b]=>⟨a,b⟩
 |_=>default
def encR(r:Rec):V:=.agg [vInt r.so,vInt r.bo,vInt r.pa,.sl (r.lv.map vInt),vInt r.da,vInt r.kn,vInt r.un]
def jH:V->Rec
 | .agg [.int _ a,.int _ b,.int _ c,.sl l,.int _ d,.int _ e,.int _ f]=>⟨a,b,c,l.map jb,d,e,f⟩
 |_=>default
def du(r:Ret):V:=.agg [vInt r.so,vInt r.re,vInt r.pe,.sl (r.lv.map vInt),vInt r.lo,vInt r.hi,vInt r.kn,vInt r.un]
def kX:V->Ret
 | .agg [.int _ a,.int _ b,.int _ c,.sl l,.int _ d,.int _ g,.int _ e,.int _ f]=>⟨a,b,c,l.map jb,d,g,e,f⟩
 |_=>default
def encS(s:Sig):V:=.agg [vInt s.so,vInt s.pe,vInt s.pa,vInt s.le,vInt s.da,vInt s.kn,vInt s.un]
def iv:V->Sig
 | .agg [.int _ a,.int _ b,.int _ c,.int _ d,.int _ e,.int _ f,.int _ g]=>⟨a,b,c,d,e,f,g⟩
 |_=>default
def fY(l:Led):V:=.agg [.sl (l.ps.map dv),.sl (l.rs.map encR),.sl (l.ts.map du),.sl (l.ss.map encS)]
def Kx:V->Led
 | .agg [.sl a,.sl b,.sl c,.sl d]=>⟨a.map px,b.map jH,c.map kX,d.map iv⟩
 |_=>default
def ja(l:Led):V:=.ptr [.sl (l.ps.map dv),.sl (l.rs.map encR),.sl (l.ts.map du),.sl (l.ss.map encS)]
def yr:V->Led
 | .ptr [.sl a,.sl b,.sl c,.sl d]=>⟨a.map px,b.map jH,c.map kX,d.map iv⟩
 |_=>default
@[go_sem] theorem oe(l:List Int):(l.map vInt).map jb=l:=by rw[List.map_map];exact List.map_id _
@[go_sem] theorem adz(l:List Bool):(l.map V.bool).map yu=l:=by rw[List.map_map];exact List.map_id _
theorem V3(p:Pap):px (dv p)=p:=rfl
theorem VY(r:Rec):jH (encR r)=r:=by
 cases r;simp only[encR,jH,oe]
theorem VT(r:Ret):kX (du r)=r:=by
 cases r;simp only[du,kX,oe]
theorem VV(r:Sig):iv (encS r)=r:=rfl
theorem pY{α:Type}{e:α->V}{d:V->α}(h:∀ a,d (e a)=a)(l:List α):(l.map e).map d=l:=by
 rw[List.map_map]
 have :d∘e=id:=funext h
 rw[this,List.map_id]
@[go_sem] theorem Kw(l:List Pap):(l.map dv).map px=l:=pY V3 l
@[go_sem] theorem yp(l:List Rec):(l.map encR).map jH=l:=pY VY l
@[go_sem] theorem Ku(l:List Ret):(l.map du).map kX=l:=pY VT l
@[go_sem] theorem qS(l:List Sig):(l.map encS).map iv=l:=pY VV l
@[go_sem] theorem adv(p:Pap):(⟨p.id,p.lv⟩:Pap)=p:=rfl
@[go_sem] theorem adu(r:Rec):(⟨r.so,r.bo,r.pa,r.lv,r.da,r.kn,r.un⟩:Rec)=r:=rfl
@[go_sem] theorem adp(r:Ret):(⟨r.so,r.re,r.pe,r.lv,r.lo,r.hi,r.kn,r.un⟩:Ret)=r:=rfl
@[go_sem] theorem adq(r:Sig):(⟨r.so,r.pe,r.pa,r.le,r.da,r.kn,r.un⟩:Sig)=r:=rfl
@[go_sem] theorem adw(l:Led):(⟨l.ps,l.rs,l.ts,l.ss⟩:Led)=l:=rfl
def iI:En Int:=⟨vInt,jb⟩
def iB:En Bool:=⟨.bool,yu⟩
def ef:En (List Int):=⟨fun l=>.sl (l.map vInt),Kz⟩
def iP:En Pap:=⟨dv,px⟩
def iR:En Rec:=⟨encR,jH⟩
def iT:En Ret:=⟨du,kX⟩
def iS:En Sig:=⟨encS,iv⟩
def iL:En Led:=⟨fY,Kx⟩
def nN:En Led:=⟨ja,yr⟩
attribute [go_sem] iI iB ef iP iR iT iS iL nN jb yu Kz dv px encR jH du kX encS iv fY Kx ja yr
def cl(n lo hi:Int):Bool:=decide (lo<=n)&&decide (n<=hi)
def dayB(n:Int):Bool:=cl n 0 100000
noncomputable section
@[go_sem] def P96:PSpec:=p3 iI iI iI (fun _ _ _=>True) (fun n lo hi=>.bool (cl n lo hi)) true
@[go_sem] def rm:Spec:=P96.toSpec
theorem wt:aT Tryz.prog 96 P96:=by
 refine kC (rs:=[.tmp 6]) Tryz.func96 Tryz.ntmps96 fun n lo hi hp hw=>?_
 simp only[iI]at hw |-
 have hΓ:=@ff Tryz.prog
 repeat refine sq ?_
 refine rs hΓ [0,1,2] [] ?_
 repeat refine sq ?_
 refine rs hΓ [6] [] ?_
 refine av ?_
 simp only[go_sem]
 all_goals exact dM
@[go_sem] def P189:PSpec:=p1 iI (fun _=>True) (fun _=>.bool false) true
@[go_sem] def X2:Spec:=P189.toSpec
theorem On:aT Tryz.prog 189 P189:=by
 refine fz (rs:=[.tmp 2]) Tryz.func189 Tryz.ntmps189 fun n hp hw=>?_
 simp only[iI]at hw |-
 have hΓ:=@ff Tryz.prog
 repeat refine sq ?_
 refine rs hΓ [0] [] ?_
 repeat refine sq ?_
 refine rs hΓ [2] [] ?_
 refine av ?_
 simp only[go_sem]
 all_goals exact dM
def K1:List (Nat×Spec):=[(96,rm),(189,X2)]
theorem tr:KS K1:=tc wt.sound<|tc On.sound<|tn
attribute [go_sem] K1
@[go_sem] def P144:PSpec:=p1 iI (fun _=>True) (fun n=>.bool (cl n 1 999)) true
@[go_sem] def Mm:Spec:=P144.toSpec
theorem EN:aT Tryz.prog 144 P144:=by
 refine fz (rs:=[.tmp 2]) Tryz.func144 Tryz.ntmps144 fun n hp hw=>?_
 simp only[iI]at hw |-
 have hΓ:=tr
 repeat refine sq ?_
 refine rs hΓ [0] [] ?_
 repeat refine sq ?_
 refine rs hΓ [2] [] ?_
 refine av ?_
 simp only[go_sem]
 all_goals exact dM
@[go_sem] def P145:PSpec:=p1 iI (fun _=>True) (fun n=>.bool (cl n 1 30)) true
@[go_sem] def DL:Spec:=P145.toSpec
theorem zY:aT Tryz.prog 145 P145:=by
 refine fz (rs:=[.tmp 2]) Tryz.func145 Tryz.ntmps145 fun n hp hw=>?_
 simp only[iI]at hw |-
 have hΓ:=tr
 repeat refine sq ?_
 refine rs hΓ [0] [] ?_
 repeat refine sq ?_
 refine rs hΓ [2] [] ?_
 refine av ?_
 simp only[go_sem]
 all_goals exact dM
@[go_sem] def P147:PSpec:=p1 iI (fun _=>True) (fun n=>.bool (cl n 1 99999)) true
@[go_sem] def Ml:Spec:=P147.toSpec
theorem EM:aT Tryz.prog 147 P147:=by
 refine fz (rs:=[.tmp 2]) Tryz.func147 Tryz.ntmps147 fun n hp hw=>?_
 simp only[iI]at hw |-
 have hΓ:=tr
 repeat refine sq ?_
 refine rs hΓ [0] [] ?_
 repeat refine sq ?_
 refine rs hΓ [2] [] ?_
 refine av ?_
 simp only[go_sem]
 all_goals exact dM
@[go_sem] def P148:PSpec:=p1 iI (fun _=>True) (fun n=>.bool (cl n 1 99)) true
@[go_sem] def Mk:Spec:=P148.toSpec
theorem EL:aT Tryz.prog 148 P148:=by
 refine fz (rs:=[.tmp 2]) Tryz.func148 Tryz.ntmps148 fun n hp hw=>?_
 simp only[iI]at hw |-
 have hΓ:=tr
 repeat refine sq ?_
 refine rs hΓ [0] [] ?_
 repeat refine sq ?_
 refine rs hΓ [2] [] ?_
 refine av ?_
 simp only[go_sem]
 all_goals exact dM
@[go_sem] def P150:PSpec:=p1 iI (fun _=>True) (fun n=>.bool (dayB n)) true
@[go_sem] def DK:Spec:=P150.toSpec
theorem zW:aT Tryz.prog 150 P150:=by
 refine fz (rs:=[.tmp 2]) Tryz.func150 Tryz.ntmps150 fun n hp hw=>?_
 simp only[iI]at hw |-
 have hΓ:=tr
 repeat refine sq ?_
 refine rs hΓ [0] [] ?_
 repeat refine sq ?_
 refine rs hΓ [2] [] ?_
 refine av ?_
 simp only[go_sem]
 all_goals exact dM
def kY(a b:Int):Int:=if a<b then -1 else if b<a then 1 else 0
@[go_sem] def P140:PSpec:=p2 iI iI (fun _ _=>True) (fun a b=>vInt (kY a b)) true
@[go_sem] def X':Spec:=P140.toSpec
theorem OI:aT Tryz.prog 140 P140:=by
 refine ev (rs:=[.tmp 4]) Tryz.func140 Tryz.ntmps140 fun a b hp hw=>?_
 simp only[iI]at hw |-
 have hΓ:=tr
 repeat refine sq ?_
 refine rs hΓ [0,1] [] ?_
 repeat refine sq ?_
 refine rs hΓ [0,1,5] [] ?_
 repeat refine sq ?_
 refine rs hΓ [0,1,5,6] [] ?_
 repeat refine sq ?_
 refine rs hΓ [0,1,6,11] [] ?_
 repeat refine dZ ?_
 refine aB (fun hb=>?_) fun hb=>?_
 ·repeat refine dZ ?_
  repeat refine sq ?_
  refine rs hΓ [12] [] ?_
  repeat refine dZ ?_
  refine aB (fun hb=>?_) fun hb=>?_
  ·repeat refine dZ ?_
   repeat refine sq ?_
   refine rs hΓ [4] [] ?_
   refine av ?_
   simp only[go_sem]
   all_goals first | rfl | (simp;done) | (grind [kY];done)
  ·repeat refine dZ ?_
   refine aF ?_
   repeat refine sq ?_
   refine rs hΓ [4] [] ?_
   refine av ?_
   simp only[go_sem]
   all_goals first | rfl | (simp;done) | (grind [kY];done)
 ·repeat refine dZ ?_
  refine aF ?_
  repeat refine sq ?_
  refine rs hΓ [0,1,13] [] ?_
  repeat refine dZ ?_
  refine aB (fun hb=>?_) fun hb=>?_
  ·repeat refine dZ ?_
   repeat refine sq ?_
   refine rs hΓ [4] [] ?_
   refine av ?_
   simp only[go_sem]
   all_goals first | rfl | (simp;done) | (grind [kY];done)
  ·repeat refine dZ ?_
   refine aF ?_
   repeat refine sq ?_
   refine rs hΓ [0,1,16] [] ?_
   repeat refine dZ ?_
   refine aB (fun hb=>?_) fun hb=>?_
   ·repeat refine dZ ?_
    repeat refine sq ?_
    refine rs hΓ [4] [] ?_
    refine av ?_
    simp only[go_sem]
    all_goals first | rfl | (simp;done) | (grind [kY];done)
   ·repeat refine dZ ?_
    refine aF ?_
    repeat refine sq ?_
    refine rs hΓ [19] [] ?_
    repeat refine dZ ?_
    refine aB (fun hb=>?_) fun hb=>?_
    ·repeat refine dZ ?_
     repeat refine sq ?_
     refine rs hΓ [4] [] ?_
     refine av ?_
     simp only[go_sem]
     all_goals first | rfl | (simp;done) | (grind [kY];done)
    ·repeat refine dZ ?_
     refine aF ?_
     repeat refine sq ?_
     refine rs hΓ [4] [] ?_
     refine av ?_
     simp only[go_sem]
     all_goals first | rfl | (simp;done) | (grind [kY];done)
def bJ(since Ef known:Int):Bool:=decide (since<=known)&&(Ef==0||decide (known<Ef))
@[go_sem] def P157:PSpec:=p3 iI iI iI (fun _ _ _=>True) (fun a b c=>.bool (bJ a b c)) true
@[go_sem] def zj:Spec:=P157.toSpec
theorem zV:aT Tryz.prog 157 P157:=by
 refine kC (rs:=[.tmp 6]) Tryz.func157 Tryz.ntmps157 fun a b c hp hw=>?_
 simp only[iI]at hw |-
 have hΓ:=@ff Tryz.prog
 repeat refine sq ?_
 refine rs hΓ [0,1,2] [] ?_
 repeat refine sq ?_
 refine rs hΓ [6] [] ?_
 refine av ?_
 simp only[go_sem]
 all_goals first | rfl | (simp;done) | (grind [bJ];done)
@[go_sem] def P162:PSpec:=p3 iI iI iI (fun _ _ _=>True) (fun a b c=>.bool (bJ a b c)) true
@[go_sem] def S162:Spec:=P162.toSpec
theorem OB:aT Tryz.prog 162 P162:=by
 refine kC (rs:=[.tmp 6]) Tryz.func162 Tryz.ntmps162 fun a b c hp hw=>?_
 simp only[iI]at hw |-
 have hΓ:=@ff Tryz.prog
 repeat refine sq ?_
 refine rs hΓ [0,1,2] [] ?_
 repeat refine sq ?_
 refine rs hΓ [6] [] ?_
 refine av ?_
 simp only[go_sem]
 all_goals first | rfl | (simp;done) | (grind [bJ];done)
theorem Ip:aK Tryz.prog 162 S162:=OB.sound
end
noncomputable section
def kD(k u:Int):Bool:=dayB k&&(u==0||(decide (k<u)&&decide (u<=100000)))
def K2:List (Nat×Spec):=[(96,rm),(145,DL),(150,DK),(144,Mm),(147,Ml),(148,Mk)]
theorem Zz:KS K2:=tc wt.sound<|tc zY.sound<|tc zW.sound<|tc EN.sound<|tc EM.sound<|tc EL.sound<|tn
attribute [go_sem] K2
theorem M8(k u:Int):(dayB k&&(u==0||cl u (IntKind.i64.wrap (k+1)) 100000))=kD k u:=by
 unfold kD
 cases h:dayB k with
 |false=>rfl
 |true=>
  unfold dayB cl at h
  simp only[Bool.and_eq_true,decide_eq_true_eq]at h
  rw[wrap_i64 (by omega) (by omega)]
  unfold cl
  simp only[Bool.true_and]
  congr 2
@[go_sem] def P151:PSpec:=p2 iI iI (fun _ _=>True) (fun a b=>.bool (kD a b)) true
@[go_sem] def X8:Spec:=P151.toSpec
theorem OG:aT Tryz.prog 151 P151:=by
 refine ev (rs:=[.tmp 4]) Tryz.func151 Tryz.ntmps151 fun k u hp hw=>?_
 simp only[iI]at hw |-
 have hΓ:=Zz
 repeat refine sq ?_
 refine rs hΓ [0,1] [] ?_
 repeat refine sq ?_
 refine rs hΓ [4] [] ?_
 refine av ?_
 simp only[go_sem]
 all_goals first | rfl | (simp;done) | (exact congrArg V.bool (M8 _ _);done)
open Classical in
def jm(l:List Int):Bool:=decide (∀ j (h:j<l.length),0<j->l[j-1] <l[j])
theorem rP{l:List Int}:jm l=true↔∀ j (h:j<l.length),0<j->l[j-1] <l[j]:=by unfold jm;exact decide_eq_true_iff
theorem Pb{l:List Int}{j:Nat}(h:j<l.length)(h0:0<j)(hb:l[j-1]>=l[j]):jm l=false:=by
 rw[Bool.eq_false_iff]
 intro k
 have :=rP.1 k j h h0
 omega
theorem MH{i n:Nat}(h0:0<i)(h:i<=n)(hn:n<=maxLen):IntKind.i64.wrap ((i:Int)-1)=((i-1:Nat):Int):=zr (by omega) (Nat.le_trans h hn)
@[go_sem] def P130:PSpec:=p1 ef (fun _=>True) (fun l=>.bool (jm l)) true
@[go_sem] def Mn:Spec:=P130.toSpec
set_option maxHeartbeats 4000000 in
theorem EO:aT Tryz.prog 130 P130:=by
 refine fz (rs:=[.tmp 2]) Tryz.func130 Tryz.ntmps130 fun l hp hw=>?_
 have hP:=gE
 simp only[ef]at hw |-
 have hΓ:=@ff Tryz.prog
 have hl:l.length<=maxLen:=by have:=hw.1.1;simpa using this
 repeat refine sq ?_
 refine rs hΓ [0] [] ?_
 repeat refine sq ?_
 refine rs hΓ [0,3] [] ?_
 repeat refine sq ?_
 refine aS ?_
 repeat refine sq ?_
 refine cM (fun i:Nat=>[(3,⟨true,.v (vInt i)⟩)]) (fun i=>[]) (fun i=>0<i/\∀ j (h:j<l.length),j<i->0<j->l[j-1] <l[j]) (fun i=>l.length-i) 1 ?_ ?_ ?_ ?_
 ·exact⟨Nat.one_pos,fun j h h1 h2=>by omega⟩
 ·rfl
 ·rfl
 rintro i ⟨h0,hz⟩
 simp only[go_sem]
 repeat refine sq ?_
 refine rs hΓ [0,3,7] [] ?_
 repeat refine sq ?_
 refine aB (fun hb=>?_) fun hb=>?_
 ·have ab:i<l.length:=by simpa using hb
  have aq:(i:Int)<l.length:=by omega
  have uJ:=MH h0 (Nat.le_of_lt ab) hl
  have BD:(0:Int)<=((i-1:Nat):Int):=by omega
  have xu:((i-1:Nat):Int)<l.length:=by omega
  have BC:i-1<l.length:=by omega
  repeat refine sq ?_
  refine aF ?_
  repeat refine sq ?_
  refine aS ?_
  repeat refine sq ?_
  refine dx hΓ hP [[],[],[1],[0,1,2],u4,[],[],[5,6],[5,6,7],u9] [0,3,19] [] (by kernel_rfl) (fun K' hK=>by simp only[go_sem,uJ,ah ab,ah BC,ai,aj,aq,xu];exact fd) ?_
  repeat refine sq ?_
  refine aB (fun hb=>?_) fun hb=>?_
  ·repeat refine sq ?_
   refine rs hΓ [2] [] ?_
   refine av ?_
   simp only[go_sem]
   rw[Pb ab h0 (by simpa using hb)]
  ·replace hb:l[i-1] <l[i]:=by simpa using hb
   repeat refine sq ?_
   refine aF ?_
   refine b9 ?_
   simp only[go_sem]
   refine kp [0,3] [] ?_
   repeat refine sq ?_
   refine bc hΓ fun K' hK=>?_
   simp only[go_sem]
   repeat (refine⟨ob,?_⟩)
   refine hK _ ?_
   clear K' hK
   simp only[go_sem]
   refine⟨i+1,⟨by omega,fun j h h1 h2=>?_⟩,by omega,?_⟩
   ·rcases Nat.lt_succ_iff_lt_or_eq.1 h1 with h3 | rfl
    ·exact hz j h h3 h2
    ·exact hb
   refine bu [0,3] [] ?_ ?_<;>simp only[go_sem,bn ab hl,br]
 ·have bF:l.length<=i:=by
    have :¬ (i:Int)<l.length:=by simpa using hb
    omega
  repeat refine sq ?_
  refine bW ?_
  simp only[go_sem]
  refine kp [] [] ?_
  repeat refine sq ?_
  refine rs hΓ [2] [] ?_
  refine av ?_
  simp only[go_sem]
  rw[rP.2 fun j h h0=>hz j h (by omega) h0]
end
noncomputable section
def K3:List (Nat×Spec):=[(130,Mn),(145,DL),(96,rm)]
theorem Zi:KS K3:=tc EO.sound<|tc zY.sound<|tc wt.sound<|tn
attribute [go_sem] K3
def jY(l:List Int):Bool:=decide (0<l.length)&&jm l&&cl (l.getD 0 0) 1 30&&cl (l.getD (l.length-1) 0) 1 30
@[go_sem] def P149:PSpec:=p1 ef (fun _=>True) (fun l=>.bool (jY l)) true
@[go_sem] def X9:Spec:=P149.toSpec
set_option maxHeartbeats 4000000 in
theorem OH:aT Tryz.prog 149 P149:=by
 refine fz (rs:=[.tmp 2]) Tryz.func149 Tryz.ntmps149 fun l hp hw=>?_
 simp only[ef]at hw |-
 have hΓ:=Zi
 have hl:l.length<=maxLen:=by have:=hw.1.1;simpa using this
 by_cases h0:l.length=0
 ·have e0:l=[]:=List.length_eq_zero_iff.1 h0
  subst e0
  repeat refine sq ?_
  refine rs hΓ [0] [] ?_
  repeat refine sq ?_
  refine rs hΓ [2] [] ?_
  refine av ?_
  simp only[go_sem]
  rfl
 ·have hq:0<l.length:=by omega
  have bZ:(0:Int)<l.length:=by omega
  have Tn:=zr h0 hl
  have uQ:((l.length-1:Nat):Int)<l.length:=by omega
  have jy:l.length-1<l.length:=by omega
  have hp3:(0:Int)<=((l.length-1:Nat):Int):=by omega
  have T3:(l.map vInt).getD 0 default=vInt (l.getD 0 0):=by rw[ah hq,dt hq]
  have fv:(l.map vInt).getD (l.length-1) default=vInt (l.getD (l.length-1) 0):=by rw[ah jy,dt jy]
  have hd:decide ((l.length:Int)>0)=true:=by simpa using hq
  repeat refine sq ?_
  refine rs hΓ [0] [] ?_
  repeat refine sq ?_
  refine rx hΓ [2] [] (fun K' hK=>by simp only[go_sem,Tn,T3,fv,ai,Int.toNat_zero,aj,bZ,uQ,hd,decide_true];exact fn) ?_
  refine av ?_
  simp only[go_sem]
  have BC:decide (0<l.length)=true:=by simpa using hq
  simp only[jY,BC,Bool.true_and,Bool.decide_and,Bool.decide_eq_true]
theorem wH{i n:Nat}(h:i<n)(hn:n<=maxLen):∃ p:Nat,(IntKind.i64.wrap ((i:Int)-1)).toNat=p/\p<n/\(0<i->p=i-1/\0<=IntKind.i64.wrap ((i:Int)-1)/\IntKind.i64.wrap ((i:Int)-1)<n):=by
 unfold maxLen at hn
 rcases Nat.eq_zero_or_pos i with rfl | hp
 ·exact⟨0,by decide,h,fun h=>by omega⟩
 ·have:IntKind.i64.wrap ((i:Int)-1)=((i-1:Nat):Int):=by rw[wrap_i64 (by omega) (by omega)];omega
  exact⟨i-1,by rw[this];rfl,by omega,fun _=>⟨rfl,by omega,by omega⟩⟩
theorem z7{l:List Int}(hr:jm l=true):∀ (k j:Nat) (h:j+k<l.length),l[j]+k<=l[j+k]
 | 0,j,h=>by simp
 |k+1,j,h=>by
  have h1:=z7 hr k j (by omega)
  have h2:=rP.1 hr (j+k+1) (by omega) (by omega)
  have e:j+k+1-1=j+k:=by omega
  simp only[e]at h2
  show l[j]+((k+1:Nat):Int)<=l[j+k+1]
  omega
theorem p7{l:List Int}:jY l=true↔0<l.length/\l.length<=30/\jm l=true/\∀ j (h:j<l.length),cl l[j] 1 30=true:=by
 unfold jY
 simp only[Bool.and_eq_true,decide_eq_true_eq]
 constructor
 ·rintro⟨⟨⟨h1,h2⟩,h3⟩,h4⟩
  have jy:l.length-1<l.length:=by omega
  rw[dt h1]at h3
  rw[dt jy]at h4
  unfold cl at h3 h4 |-
  simp only[Bool.and_eq_true,decide_eq_true_eq]at h3 h4 |-
  have eg:∀ j (h:j<l.length),l[0]+j<=l[j]:=fun j h=>by
   have :=z7 h2 j 0 (by omega)
   simpa using this
  have fM:∀ j (h:j<l.length),l[j]<=l[l.length-1]:=fun j h=>by
   have :=z7 h2 (l.length-1-j) j (by omega)
   have e:j+(l.length-1-j)=l.length-1:=by omega
   simp only[e]at this
   omega
  refine⟨h1,?_,h2,fun j h=>?_⟩
  ·have:=eg _ jy;omega
  ·have a:=eg j h;have b:=fM j h;omega
 ·rintro⟨h1,h2,h3,h4⟩
  have jy:l.length-1<l.length:=by omega
  refine⟨⟨⟨h1,h3⟩,?_⟩,?_⟩
  ·rw[dt h1];exact h4 0 h1
  ·rw[dt jy];exact h4 _ jy
theorem te{b:Bool}{p:Prop}(h:b=true↔p)(hn:¬ p):b=false:=by
 cases b with
 |false=>rfl
 |true=>exact(hn (h.1 rfl)).elim
end
set_option maxHeartbeats 8000000
noncomputable section
def K4:List (Nat×Spec):=[(96,rm),(144,Mm),(145,DL),(147,Ml),(148,Mk),(149,X9),(150,DK),(151,X8)]
theorem zo:KS K4:=tc wt.sound<|tc EN.sound<|tc zY.sound<|tc EM.sound<|tc EL.sound<|tc OH.sound<|tc zW.sound<|tc OG.sound<|tn
attribute [go_sem] K4
def dh(b:Bool)(n:Int):Int:=if b then 0 else n
theorem yh(b:Bool)(n:Int)(hn:n≠0):(dh b n != 0)=!b:=by cases b<;>simp[dh,hn]
def ny(p:Pap):Bool:=cl p.id 1 999&&cl p.lv 1 30
def dQ(r:Rec):Bool:=cl r.so 1 99999&&cl r.bo 1 99&&cl r.pa 1 999&&jY r.lv&&dayB r.da&&kD r.kn r.un
def jo(r:Ret):Bool:=cl r.so 1 99999&&cl r.re 1 99999&&cl r.pe 1 99&&jY r.lv&&cl r.lo 0 r.hi&&dayB r.hi&&kD r.kn r.un
def kG(s:Sig):Bool:=cl s.so 1 99999&&cl s.pe 0 99&&cl s.pa 1 999&&cl s.le 1 30&&dayB s.da&&kD s.kn s.un
@[go_sem] def P61:PSpec:=p1 iP (fun _=>True) (fun x=>vInt (dh (ny x) 20)) true
@[go_sem] def XT:Spec:=P61.toSpec
theorem Oc:aT Tryz.prog 61 P61:=by
 refine fz (rs:=[.tmp 2]) Tryz.func61 Tryz.ntmps61 fun x hp hw=>?_
 simp only[iP,dv]at hw |-
 have hΓ:=zo
 repeat refine sq ?_
 refine rs hΓ [1] [[1,0]] ?_
 repeat refine sq ?_
 refine rs hΓ [12] [] ?_
 repeat refine dZ ?_
 refine aB (fun hb=>?_) fun hb=>?_
 ·repeat refine dZ ?_
  repeat refine sq ?_
  refine rs hΓ [2] [] ?_
  refine av ?_
  simp only[go_sem]
  all_goals first | rfl | (simp;done) | (grind [ny,dh];done)
 ·repeat refine dZ ?_
  refine aF ?_
  repeat refine sq ?_
  refine rs hΓ [2] [] ?_
  refine av ?_
  simp only[go_sem]
  all_goals first | rfl | (simp;done) | (grind [ny,dh];done)
@[go_sem] def P63:PSpec:=p1 iR (fun _=>True) (fun x=>vInt (dh (dQ x) 21)) true
@[go_sem] def XS:Spec:=P63.toSpec
theorem Ob:aT Tryz.prog 63 P63:=by
 refine fz (rs:=[.tmp 2]) Tryz.func63 Tryz.ntmps63 fun x hp hw=>?_
 simp only[iR,encR]at hw |-
 have hΓ:=zo
 repeat refine sq ?_
 refine rs hΓ [1] [[1,0]] ?_
 repeat refine sq ?_
 refine rs hΓ [38] [] ?_
 repeat refine dZ ?_
 refine aB (fun hb=>?_) fun hb=>?_
 ·repeat refine dZ ?_
  repeat refine sq ?_
  refine rs hΓ [2] [] ?_
  refine av ?_
  simp only[go_sem]
  all_goals first | rfl | (simp;done) | (grind [dQ,dh];done)
 ·repeat refine dZ ?_
  refine aF ?_
  repeat refine sq ?_
  refine rs hΓ [2] [] ?_
  refine av ?_
  simp only[go_sem]
  all_goals first | rfl | (simp;done) | (grind [dQ,dh];done)
@[go_sem] def P65:PSpec:=p1 iT (fun _=>True) (fun x=>vInt (dh (jo x) 22)) true
@[go_sem] def XR:Spec:=P65.toSpec
theorem Oa:aT Tryz.prog 65 P65:=by
 refine fz (rs:=[.tmp 2]) Tryz.func65 Tryz.ntmps65 fun x hp hw=>?_
 simp only[iT,du]at hw |-
 have hΓ:=zo
 repeat refine sq ?_
 refine rs hΓ [1] [[1,0]] ?_
 repeat refine sq ?_
 refine rs hΓ [49] [] ?_
 repeat refine dZ ?_
 refine aB (fun hb=>?_) fun hb=>?_
 ·repeat refine dZ ?_
  repeat refine sq ?_
  refine rs hΓ [2] [] ?_
  refine av ?_
  simp only[go_sem]
  all_goals first | rfl | (simp;done) | (grind [jo,dh];done)
 ·repeat refine dZ ?_
  refine aF ?_
  repeat refine sq ?_
  refine rs hΓ [2] [] ?_
  refine av ?_
  simp only[go_sem]
  all_goals first | rfl | (simp;done) | (grind [jo,dh];done)
@[go_sem] def P67:PSpec:=p1 iS (fun _=>True) (fun x=>vInt (dh (kG x) 23)) true
@[go_sem] def Mc:Spec:=P67.toSpec
theorem N':aT Tryz.prog 67 P67:=by
 refine fz (rs:=[.tmp 2]) Tryz.func67 Tryz.ntmps67 fun x hp hw=>?_
 simp only[iS,encS]at hw |-
 have hΓ:=zo
 repeat refine sq ?_
 refine rs hΓ [1] [[1,0]] ?_
 repeat refine sq ?_
 refine rs hΓ [38] [] ?_
 repeat refine dZ ?_
 refine aB (fun hb=>?_) fun hb=>?_
 ·repeat refine dZ ?_
  repeat refine sq ?_
  refine rs hΓ [2] [] ?_
  refine av ?_
  simp only[go_sem]
  all_goals first | rfl | (simp;done) | (grind [kG,dh];done)
 ·repeat refine dZ ?_
  refine aF ?_
  repeat refine sq ?_
  refine rs hΓ [2] [] ?_
  refine av ?_
  simp only[go_sem]
  all_goals first | rfl | (simp;done) | (grind [kG,dh];done)
@[go_sem] def P110:PSpec:=p1 iP (fun _=>True) (fun x=>vInt x.id) true
@[go_sem] def Yh:Spec:=P110.toSpec
theorem OP:aT Tryz.prog 110 P110:=by
 refine fz (rs:=[.tmp 2]) Tryz.func110 Tryz.ntmps110 fun x hp hw=>?_
 simp only[iP,dv]at hw |-
 have hΓ:=@ff Tryz.prog
 repeat refine sq ?_
 refine rs hΓ [1] [[1,0]] ?_
 repeat refine sq ?_
 refine rs hΓ [2] [] ?_
 refine av ?_
 simp only[go_sem]
 all_goals exact dM
@[go_sem] def P112:PSpec:=p1 iR (fun _=>True) (fun x=>vInt x.so) true
@[go_sem] def Yf:Spec:=P112.toSpec
theorem ON:aT Tryz.prog 112 P112:=by
 refine fz (rs:=[.tmp 2]) Tryz.func112 Tryz.ntmps112 fun x hp hw=>?_
 simp only[iR,encR]at hw |-
 have hΓ:=@ff Tryz.prog
 repeat refine sq ?_
 refine rs hΓ [1] [[1,0]] ?_
 repeat refine sq ?_
 refine rs hΓ [2] [] ?_
 refine av ?_
 simp only[go_sem]
 all_goals exact dM
@[go_sem] def P114:PSpec:=p1 iT (fun _=>True) (fun x=>vInt x.so) true
@[go_sem] def Yd:Spec:=P114.toSpec
theorem OL:aT Tryz.prog 114 P114:=by
 refine fz (rs:=[.tmp 2]) Tryz.func114 Tryz.ntmps114 fun x hp hw=>?_
 simp only[iT,du]at hw |-
 have hΓ:=@ff Tryz.prog
 repeat refine sq ?_
 refine rs hΓ [1] [[1,0]] ?_
 repeat refine sq ?_
 refine rs hΓ [2] [] ?_
 refine av ?_
 simp only[go_sem]
 all_goals exact dM
@[go_sem] def P116:PSpec:=p1 iS (fun _=>True) (fun x=>vInt x.so) true
@[go_sem] def Yb:Spec:=P116.toSpec
theorem OJ:aT Tryz.prog 116 P116:=by
 refine fz (rs:=[.tmp 2]) Tryz.func116 Tryz.ntmps116 fun x hp hw=>?_
 simp only[iS,encS]at hw |-
 have hΓ:=@ff Tryz.prog
 repeat refine sq ?_
 refine rs hΓ [1] [[1,0]] ?_
 repeat refine sq ?_
 refine rs hΓ [2] [] ?_
 refine av ?_
 simp only[go_sem]
 all_goals exact dM
end
set_option maxHeartbeats 8000000
noncomputable section
def K5:List (Nat×Spec):=[(61,XT),(63,XS),(65,XR),(67,Mc),(110,Yh),(112,Yf),(114,Yd),(116,Yb)]
theorem zn:KS K5:=tc Oc.sound<|tc Ob.sound<|tc Oa.sound<|tc N'.sound<|tc OP.sound<|tc ON.sound<|tc OL.sound<|tc OJ.sound<|tn
attribute [go_sem] K5
def mD{α:Type}(eE:α->Bool)(num:α->Int)(l:List α)(n:Nat):Prop:=∀ j (h:j<l.length),j<n->eE l[j]=true/\(0<j->num l[j-1] <num l[j])
open Classical in
def gT{α:Type}(eE:α->Bool)(num:α->Int)(l:List α):Bool:=decide (mD eE num l l.length)
theorem jJ{α:Type}{eE:α->Bool}{num:α->Int}{l:List α}:gT eE num l=true↔mD eE num l l.length:=by unfold gT;exact @decide_eq_true_iff _ (Classical.propDecidable _)
theorem wM{α:Type}{eE:α->Bool}{num:α->Int}{l:List α}:mD eE num l 0:=fun j _ h=>by omega
theorem wN{α:Type}{eE:α->Bool}{num:α->Int}{l:List α}{i:Nat}(h:mD eE num l i)(hi:i<l.length)(hc:eE l[i]=true/\(0<i->num l[i-1] <num l[i])):mD eE num l (i+1):=by
 intro j hj eO
 rcases Nat.lt_succ_iff_lt_or_eq.1 eO with h1 | rfl
 ·exact h j hj h1
 ·exact hc
@[go_sem] def P109:PSpec:=p4 (eX iP) iI (iF 61) (iF 110) (fun _ _ _ _=>True) (fun l m _ _=>.bool (gT ny Pap.id l&&decide ((l.length:Int)<=m))) true
@[go_sem] def Yi:Spec:=P109.toSpec
theorem OQ:aT Tryz.prog 109 P109:=by
 refine tw (rs:=[.tmp 8]) Tryz.func109 Tryz.ntmps109 fun l m _ _ hp hw=>?_
 have hP:=gE
 simp only[iF,iI,iP,eX,iC,dv]at hw |-
 have hΓ:=zn
 have hl:l.length<=maxLen:=by have:=hw.1.1;simpa using this
 repeat refine sq ?_
 refine rs hΓ [0,1,2,3] [] ?_
 repeat refine sq ?_
 refine rs hΓ [0,1,2,3,11,12,13] [] ?_
 repeat refine sq ?_
 refine aS ?_
 repeat refine sq ?_
 refine cM (fun s:Nat=>[(13,⟨true,.v (vInt s)⟩)]) (fun s=>[]) (fun s=>s<=l.length/\mD ny Pap.id l s) (fun s=>l.length-s) 0 ?_ ?_ ?_ ?_
 ·exact⟨Nat.zero_le _,wM⟩
 ·rfl
 ·rfl
 rintro i ⟨hi,hR⟩
 simp only[go_sem]
 repeat refine sq ?_
 refine rs hΓ [0,1,2,3,11,12,13,14] [] ?_
 repeat refine sq ?_
 refine aB (fun hb=>?_) fun hb=>?_
 ·have ab:i<l.length:=by simpa using hb
  have aq:(i:Int)<l.length:=by omega
  clear hb
  obtain⟨p,hp,lT,cv⟩:=wH ab hl
  repeat refine sq ?_
  refine aF ?_
  repeat refine sq ?_
  refine aS ?_
  repeat refine sq ?_
  refine rx hΓ [0,1,2,3,9,10,11,12,13] [[10,0]] (fun K' hK=>by simp only[go_sem,ah ab,ai,aj,aq];exact fn) ?_
  repeat refine sq ?_
  refine dx hΓ hP [[],[],[0,1],[0,1,2],u4,u5,u6,u7,u8,u8,u8,[0,1,2,3,4,5,6,7,10],[0,1,2,3,4,5,6,7,9,10,11],[0,1,2,3,4,5,6,7,9,10,11,12],nj,u8,u8,rG,jN,oz,pL] [0,1,2,3,11,12,13,38] [] (by kernel_rfl) (fun K' hK=>by simp only[go_sem,ah ab,ai,aj,aq,hp,ah lT,fun b=>yh b 20 (by decide)];(repeat (refine⟨by first | exact ob | (intro h;have:=cv (by simp_all);simp_all;done),?_⟩));exact i7) ?_
  repeat refine sq ?_
  refine aB (fun hb=>?_) fun hb=>?_
  ·repeat refine sq ?_
   have i5:gT ny Pap.id l=false:=by
    rw[te jJ]
    intro h
    obtain⟨h1,h2⟩:=h i ab ab
    simp only[h1,Bool.not_true,Bool.false_or,Bool.and_eq_true,decide_eq_true_eq]at hb
    obtain⟨e,_⟩:=cv (by omega)
    subst e
    have :=h2 (by omega)
    have :=hb.2
    omega
   repeat refine sq ?_
   refine rx hΓ [8] [] (fun K' hK=>by simp only[go_sem,ah ab,ai,aj,aq];exact fn) ?_
   refine av ?_
   simp only[go_sem]
   rw[i5];rfl
  ·repeat refine sq ?_
   have hn:ny l[i]=true/\(0<i->Pap.id l[i-1] <Pap.id l[i]):=by
    simp only[Bool.or_eq_false_iff,Bool.not_eq_false',Bool.and_eq_false_iff,decide_eq_false_iff_not]at hb
    refine⟨hb.1,fun h=>?_⟩
    obtain⟨e,_⟩:=cv h
    subst e
    omega
   refine aF ?_
   refine b9 ?_
   simp only[go_sem]
   refine kp [0,1,2,3,11,12,13] [] ?_
   repeat refine sq ?_
   refine bc hΓ fun K' hK=>?_
   simp only[go_sem,ah ab,ai,aj,aq]
   repeat (refine⟨ob,?_⟩)
   refine hK _ ?_
   clear K' hK
   simp only[go_sem]
   refine⟨i+1,⟨ab,?_⟩,by(show l.length-(i+1)<l.length-i;omega),?_⟩
   ·exact wN hR ab hn
   refine bu [0,1,2,3,11,12,13] [] ?_ ?_<;>simp only[go_sem,bn ab hl,br]
 ·have bF:i=l.length:=by
   have :¬ (i:Int)<l.length:=by simpa using hb
   omega
  clear hb
  subst bF
  repeat refine sq ?_
  refine bW ?_
  simp only[go_sem]
  refine kp [0,1] [] ?_
  repeat refine sq ?_
  refine rs hΓ [8] [] ?_
  refine av ?_
  simp only[go_sem]
  rw[jJ.2 hR];rfl
@[go_sem] def P111:PSpec:=p4 (eX iR) iI (iF 63) (iF 112) (fun _ _ _ _=>True) (fun l m _ _=>.bool (gT dQ Rec.so l&&decide ((l.length:Int)<=m))) true
@[go_sem] def Yg:Spec:=P111.toSpec
theorem OO:aT Tryz.prog 111 P111:=by
 refine tw (rs:=[.tmp 8]) Tryz.func111 Tryz.ntmps111 fun l m _ _ hp hw=>?_
 have hP:=gE
 simp only[iF,iI,iR,eX,iC,encR]at hw |-
 have hΓ:=zn
 have hl:l.length<=maxLen:=by have:=hw.1.1;simpa using this
 repeat refine sq ?_
 refine rs hΓ [0,1,2,3] [] ?_
 repeat refine sq ?_
 refine rs hΓ [0,1,2,3,11,12,13] [] ?_
 repeat refine sq ?_
 refine aS ?_
 repeat refine sq ?_
 refine cM (fun s:Nat=>[(13,⟨true,.v (vInt s)⟩)]) (fun s=>[]) (fun s=>s<=l.length/\mD dQ Rec.so l s) (fun s=>l.length-s) 0 ?_ ?_ ?_ ?_
 ·exact⟨Nat.zero_le _,wM⟩
 ·rfl
 ·rfl
 rintro i ⟨hi,hR⟩
 simp only[go_sem]
 repeat refine sq ?_
 refine rs hΓ [0,1,2,3,11,12,13,14] [] ?_
 repeat refine sq ?_
 refine aB (fun hb=>?_) fun hb=>?_
 ·have ab:i<l.length:=by simpa using hb
  have aq:(i:Int)<l.length:=by omega
  clear hb
  obtain⟨p,hp,lT,cv⟩:=wH ab hl
  repeat refine sq ?_
  refine aF ?_
  repeat refine sq ?_
  refine aS ?_
  repeat refine sq ?_
  refine rx hΓ [0,1,2,3,9,10,11,12,13] [[10,0]] (fun K' hK=>by simp only[go_sem,ah ab,ai,aj,aq];exact fn) ?_
  repeat refine sq ?_
  refine dx hΓ hP [[],[],[0,1],[0,1,2],u4,u5,u6,u7,u8,u8,u8,[0,1,2,3,4,5,6,7,10],[0,1,2,3,4,5,6,7,9,10,11],[0,1,2,3,4,5,6,7,9,10,11,12],nj,u8,u8,rG,jN,oz,pL] [0,1,2,3,11,12,13,38] [] (by kernel_rfl) (fun K' hK=>by simp only[go_sem,ah ab,ai,aj,aq,hp,ah lT,fun b=>yh b 21 (by decide)];(repeat (refine⟨by first | exact ob | (intro h;have:=cv (by simp_all);simp_all;done),?_⟩));exact i7) ?_
  repeat refine sq ?_
  refine aB (fun hb=>?_) fun hb=>?_
  ·repeat refine sq ?_
   have i5:gT dQ Rec.so l=false:=by
    rw[te jJ]
    intro h
    obtain⟨h1,h2⟩:=h i ab ab
    simp only[h1,Bool.not_true,Bool.false_or,Bool.and_eq_true,decide_eq_true_eq]at hb
    obtain⟨e,_⟩:=cv (by omega)
    subst e
    have :=h2 (by omega)
    have :=hb.2
    omega
   repeat refine sq ?_
   refine rx hΓ [8] [] (fun K' hK=>by simp only[go_sem,ah ab,ai,aj,aq];exact fn) ?_
   refine av ?_
   simp only[go_sem]
   rw[i5];rfl
  ·repeat refine sq ?_
   have hn:dQ l[i]=true/\(0<i->Rec.so l[i-1] <Rec.so l[i]):=by
    simp only[Bool.or_eq_false_iff,Bool.not_eq_false',Bool.and_eq_false_iff,decide_eq_false_iff_not]at hb
    refine⟨hb.1,fun h=>?_⟩
    obtain⟨e,_⟩:=cv h
    subst e
    omega
   refine aF ?_
   refine b9 ?_
   simp only[go_sem]
   refine kp [0,1,2,3,11,12,13] [] ?_
   repeat refine sq ?_
   refine bc hΓ fun K' hK=>?_
   simp only[go_sem,ah ab,ai,aj,aq]
   repeat (refine⟨ob,?_⟩)
   refine hK _ ?_
   clear K' hK
   simp only[go_sem]
   refine⟨i+1,⟨ab,?_⟩,by(show l.length-(i+1)<l.length-i;omega),?_⟩
   ·exact wN hR ab hn
   refine bu [0,1,2,3,11,12,13] [] ?_ ?_<;>simp only[go_sem,bn ab hl,br]
 ·have bF:i=l.length:=by
   have :¬ (i:Int)<l.length:=by simpa using hb
   omega
  clear hb
  subst bF
  repeat refine sq ?_
  refine bW ?_
  simp only[go_sem]
  refine kp [0,1] [] ?_
  repeat refine sq ?_
  refine rs hΓ [8] [] ?_
  refine av ?_
  simp only[go_sem]
  rw[jJ.2 hR];rfl
@[go_sem] def P113:PSpec:=p4 (eX iT) iI (iF 65) (iF 114) (fun _ _ _ _=>True) (fun l m _ _=>.bool (gT jo Ret.so l&&decide ((l.length:Int)<=m))) true
@[go_sem] def Ye:Spec:=P113.toSpec
theorem OM:aT Tryz.prog 113 P113:=by
 refine tw (rs:=[.tmp 8]) Tryz.func113 Tryz.ntmps113 fun l m _ _ hp hw=>?_
 have hP:=gE
 simp only[iF,iI,eX,iT,iC,du]at hw |-
 have hΓ:=zn
 have hl:l.length<=maxLen:=by have:=hw.1.1;simpa using this
 repeat refine sq ?_
 refine rs hΓ [0,1,2,3] [] ?_
 repeat refine sq ?_
 refine rs hΓ [0,1,2,3,11,12,13] [] ?_
 repeat refine sq ?_
 refine aS ?_
 repeat refine sq ?_
 refine cM (fun s:Nat=>[(13,⟨true,.v (vInt s)⟩)]) (fun s=>[]) (fun s=>s<=l.length/\mD jo Ret.so l s) (fun s=>l.length-s) 0 ?_ ?_ ?_ ?_
 ·exact⟨Nat.zero_le _,wM⟩
 ·rfl
 ·rfl
 rintro i ⟨hi,hR⟩
 simp only[go_sem]
 repeat refine sq ?_
 refine rs hΓ [0,1,2,3,11,12,13,14] [] ?_
 repeat refine sq ?_
 refine aB (fun hb=>?_) fun hb=>?_
 ·have ab:i<l.length:=by simpa using hb
  have aq:(i:Int)<l.length:=by omega
  clear hb
  obtain⟨p,hp,lT,cv⟩:=wH ab hl
  repeat refine sq ?_
  refine aF ?_
  repeat refine sq ?_
  refine aS ?_
  repeat refine sq ?_
  refine rx hΓ [0,1,2,3,9,10,11,12,13] [[10,0]] (fun K' hK=>by simp only[go_sem,ah ab,ai,aj,aq];exact fn) ?_
  repeat refine sq ?_
  refine dx hΓ hP [[],[],[0,1],[0,1,2],u4,u5,u6,u7,u8,u8,u8,[0,1,2,3,4,5,6,7,10],[0,1,2,3,4,5,6,7,9,10,11],[0,1,2,3,4,5,6,7,9,10,11,12],nj,u8,u8,rG,jN,oz,pL] [0,1,2,3,11,12,13,38] [] (by kernel_rfl) (fun K' hK=>by simp only[go_sem,ah ab,ai,aj,aq,hp,ah lT,fun b=>yh b 22 (by decide)];(repeat (refine⟨by first | exact ob | (intro h;have:=cv (by simp_all);simp_all;done),?_⟩));exact i7) ?_
  repeat refine sq ?_
  refine aB (fun hb=>?_) fun hb=>?_
  ·repeat refine sq ?_
   have i5:gT jo Ret.so l=false:=by
    rw[te jJ]
    intro h
    obtain⟨h1,h2⟩:=h i ab ab
    simp only[h1,Bool.not_true,Bool.false_or,Bool.and_eq_true,decide_eq_true_eq]at hb
    obtain⟨e,_⟩:=cv (by omega)
    subst e
    have :=h2 (by omega)
    have :=hb.2
    omega
   repeat refine sq ?_
   refine rx hΓ [8] [] (fun K' hK=>by simp only[go_sem,ah ab,ai,aj,aq];exact fn) ?_
   refine av ?_
   simp only[go_sem]
   rw[i5];rfl
  ·repeat refine sq ?_
   have hn:jo l[i]=true/\(0<i->Ret.so l[i-1] <Ret.so l[i]):=by
    simp only[Bool.or_eq_false_iff,Bool.not_eq_false',Bool.and_eq_false_iff,decide_eq_false_iff_not]at hb
    refine⟨hb.1,fun h=>?_⟩
    obtain⟨e,_⟩:=cv h
    subst e
    omega
   refine aF ?_
   refine b9 ?_
   simp only[go_sem]
   refine kp [0,1,2,3,11,12,13] [] ?_
   repeat refine sq ?_
   refine bc hΓ fun K' hK=>?_
   simp only[go_sem,ah ab,ai,aj,aq]
   repeat (refine⟨ob,?_⟩)
   refine hK _ ?_
   clear K' hK
   simp only[go_sem]
   refine⟨i+1,⟨ab,?_⟩,by(show l.length-(i+1)<l.length-i;omega),?_⟩
   ·exact wN hR ab hn
   refine bu [0,1,2,3,11,12,13] [] ?_ ?_<;>simp only[go_sem,bn ab hl,br]
 ·have bF:i=l.length:=by
   have :¬ (i:Int)<l.length:=by simpa using hb
   omega
  clear hb
  subst bF
  repeat refine sq ?_
  refine bW ?_
  simp only[go_sem]
  refine kp [0,1] [] ?_
  repeat refine sq ?_
  refine rs hΓ [8] [] ?_
  refine av ?_
  simp only[go_sem]
  rw[jJ.2 hR];rfl
@[go_sem] def P115:PSpec:=p4 (eX iS) iI (iF 67) (iF 116) (fun _ _ _ _=>True) (fun l m _ _=>.bool (gT kG Sig.so l&&decide ((l.length:Int)<=m))) true
@[go_sem] def Yc:Spec:=P115.toSpec
theorem OK:aT Tryz.prog 115 P115:=by
 refine tw (rs:=[.tmp 8]) Tryz.func115 Tryz.ntmps115 fun l m _ _ hp hw=>?_
 have hP:=gE
 simp only[iF,iI,iS,eX,iC,encS]at hw |-
 have hΓ:=zn
 have hl:l.length<=maxLen:=by have:=hw.1.1;simpa using this
 repeat refine sq ?_
 refine rs hΓ [0,1,2,3] [] ?_
 repeat refine sq ?_
 refine rs hΓ [0,1,2,3,11,12,13] [] ?_
 repeat refine sq ?_
 refine aS ?_
 repeat refine sq ?_
 refine cM (fun s:Nat=>[(13,⟨true,.v (vInt s)⟩)]) (fun s=>[]) (fun s=>s<=l.length/\mD kG Sig.so l s) (fun s=>l.length-s) 0 ?_ ?_ ?_ ?_
 ·exact⟨Nat.zero_le _,wM⟩
 ·rfl
 ·rfl
 rintro i ⟨hi,hR⟩
 simp only[go_sem]
 repeat refine sq ?_
 refine rs hΓ [0,1,2,3,11,12,13,14] [] ?_
 repeat refine sq ?_
 refine aB (fun hb=>?_) fun hb=>?_
 ·have ab:i<l.length:=by simpa using hb
  have aq:(i:Int)<l.length:=by omega
  clear hb
  obtain⟨p,hp,lT,cv⟩:=wH ab hl
  repeat refine sq ?_
  refine aF ?_
  repeat refine sq ?_
  refine aS ?_
  repeat refine sq ?_
  refine rx hΓ [0,1,2,3,9,10,11,12,13] [[10,0]] (fun K' hK=>by simp only[go_sem,ah ab,ai,aj,aq];exact fn) ?_
  repeat refine sq ?_
  refine dx hΓ hP [[],[],[0,1],[0,1,2],u4,u5,u6,u7,u8,u8,u8,[0,1,2,3,4,5,6,7,10],[0,1,2,3,4,5,6,7,9,10,11],[0,1,2,3,4,5,6,7,9,10,11,12],nj,u8,u8,rG,jN,oz,pL] [0,1,2,3,11,12,13,38] [] (by kernel_rfl) (fun K' hK=>by simp only[go_sem,ah ab,ai,aj,aq,hp,ah lT,fun b=>yh b 23 (by decide)];(repeat (refine⟨by first | exact ob | (intro h;have:=cv (by simp_all);simp_all;done),?_⟩));exact i7) ?_
  repeat refine sq ?_
  refine aB (fun hb=>?_) fun hb=>?_
  ·repeat refine sq ?_
   have i5:gT kG Sig.so l=false:=by
    rw[te jJ]
    intro h
    obtain⟨h1,h2⟩:=h i ab ab
    simp only[h1,Bool.not_true,Bool.false_or,Bool.and_eq_true,decide_eq_true_eq]at hb
    obtain⟨e,_⟩:=cv (by omega)
    subst e
    have :=h2 (by omega)
    have :=hb.2
    omega
   repeat refine sq ?_
   refine rx hΓ [8] [] (fun K' hK=>by simp only[go_sem,ah ab,ai,aj,aq];exact fn) ?_
   refine av ?_
   simp only[go_sem]
   rw[i5];rfl
  ·repeat refine sq ?_
   have hn:kG l[i]=true/\(0<i->Sig.so l[i-1] <Sig.so l[i]):=by
    simp only[Bool.or_eq_false_iff,Bool.not_eq_false',Bool.and_eq_false_iff,decide_eq_false_iff_not]at hb
    refine⟨hb.1,fun h=>?_⟩
    obtain⟨e,_⟩:=cv h
    subst e
    omega
   refine aF ?_
   refine b9 ?_
   simp only[go_sem]
   refine kp [0,1,2,3,11,12,13] [] ?_
   repeat refine sq ?_
   refine bc hΓ fun K' hK=>?_
   simp only[go_sem,ah ab,ai,aj,aq]
   repeat (refine⟨ob,?_⟩)
   refine hK _ ?_
   clear K' hK
   simp only[go_sem]
   refine⟨i+1,⟨ab,?_⟩,by(show l.length-(i+1)<l.length-i;omega),?_⟩
   ·exact wN hR ab hn
   refine bu [0,1,2,3,11,12,13] [] ?_ ?_<;>simp only[go_sem,bn ab hl,br]
 ·have bF:i=l.length:=by
   have :¬ (i:Int)<l.length:=by simpa using hb
   omega
  clear hb
  subst bF
  repeat refine sq ?_
  refine bW ?_
  simp only[go_sem]
  refine kp [0,1] [] ?_
  repeat refine sq ?_
  refine rs hΓ [8] [] ?_
  refine av ?_
  simp only[go_sem]
  rw[jJ.2 hR];rfl
end
set_option maxHeartbeats 8000000
noncomputable section
theorem Qg{i j:Nat}(hi:i<=maxLen)(hj:j<=maxLen):IntKind.i64.wrap ((IntKind.u64.wrap (IntKind.i64.wrap ((i:Int)+(j:Int)))).fdiv (2 ^ min (Int.toNat 1) 64))=(((i+j) / 2:Nat):Int):=by
 unfold maxLen at hi hj
 have h1:min (Int.toNat 1) 64=1:=by decide
 have h2:IntKind.u64.wrap (IntKind.i64.wrap ((i:Int)+(j:Int)))=((i+j:Nat):Int):=by
  rw[IntKind.wrap_u64,IntKind.wrap_i64]
  omega
 rw[h1,h2]
 have h3:(((i+j:Nat):Int)).fdiv (2 ^ 1)=(((i+j) / 2:Nat):Int):=by
  rw[Int.fdiv_eq_ediv_of_nonneg _ (by decide)]
  omega
 rw[h3,wrap_i64 (by omega) (by omega)]
theorem KV{a b:Int}:kY a b<0↔a<b:=by
 unfold kY
 split
 ·simp[*]
 ·split<;>simp<;>omega
theorem Wi{a b:Int}:(kY a b==0)=(a==b):=by
 unfold kY
 split
 ·have:a≠b:=by omega
  simp[this]
 ·split
  ·have:a≠b:=by omega
   simp[this]
  ·have:a=b:=by omega
   simp[this]
def srt{α:Type}(num:α->Int)(l:List α):Prop:=∀ i j (hi:i<l.length) (hj:j<l.length),i<j->num l[i] <num l[j]
theorem Ng{α:Type}{num:α->Int}{l:List α}(h:∀ j (h:j<l.length),0<j->num l[j-1] <num l[j]):srt num l:=by
 intro i j hi hj bL
 induction j with
 |zero=>omega
 |succ j ih=>
  have h1:=h (j+1) hj (by omega)
  simp only[Nat.add_sub_cancel]at h1
  rcases Nat.lt_succ_iff_lt_or_eq.1 bL with h2 | rfl
  ·have:=ih (by omega) h2;omega
  ·exact h1
theorem wO{α:Type}{eE:α->Bool}{num:α->Int}{l:List α}(h:mD eE num l l.length):srt num l:=Ng fun j hj h0=>(h j hj hj).2 h0
def pZ{α:Type}(num:α->Int)(l:List α)(x:Int):Nat:=(l.takeWhile fun y=>decide (num y<x)).length
def nY{α:Type}(num:α->Int)(l:List α)(x:Int):Bool:=l.any fun y=>num y==x
theorem AP{α:Type}{num:α->Int}{l:List α}{x:Int}{i:Nat}(hi:i<=l.length)(h1:∀ k (h:k<l.length),k<i->num l[k] <x)(h2:∀ k (h:k<l.length),i<=k->x<=num l[k]):pZ num l x=i:=by
 unfold pZ
 induction l generalizing i with
 |nil=>simp at hi |-;omega
 |cons a r ih=>
  cases i with
  |zero=>
   have :=h2 0 (by simp) (Nat.le_refl _)
   simp only[List.getElem_cons_zero]at this
   have hd:decide (num a<x)=false:=by simp;omega
   simp[hd]
  |succ i=>
   have :=h1 0 (by simp) (by omega)
   simp only[List.getElem_cons_zero]at this
   have hd:decide (num a<x)=true:=by simp;omega
   simp only[List.takeWhile_cons,hd,if_true,List.length_cons]
   rw[ih (by simpa using hi) (fun k hk eh=>by have:=h1 (k+1) (by simpa using hk) (by omega);simpa using this) (fun k hk eh=>by have:=h2 (k+1) (by simpa using hk) (by omega);simpa using this)]
theorem xV{α:Type}{num:α->Int}{l:List α}{x:Int}:nY num l x=true↔∃ k,∃ (h:k<l.length),num l[k]=x:=by
 unfold nY
 rw[List.any_eq_true]
 constructor
 ·rintro⟨y,hy,h⟩
  obtain⟨k,hk,rfl⟩:=List.getElem_of_mem hy
  exact⟨k,hk,by simpa using h⟩
 ·rintro⟨k,hk,h⟩
  exact⟨_,List.getElem_mem hk,by simpa using h⟩
theorem UG{α:Type}{num:α->Int}{l:List α}{x:Int}{i:Nat}(hs:srt num l)(hi:i<l.length)(h1:∀ k (h:k<l.length),k<i->num l[k] <x)(h2:∀ k (h:k<l.length),i<=k->x<=num l[k]):nY num l x=(num l[i]==x):=by
 rw[Bool.eq_iff_iff,xV]
 simp only[beq_iff_eq]
 constructor
 ·rintro⟨k,hk,e⟩
  rcases Nat.lt_trichotomy k i with h3 | h3 | h3
  ·have:=h1 k hk h3;omega
  ·subst h3;exact e
  ·have:=hs i k hi hk h3
   have :=h2 i hi (Nat.le_refl _)
   omega
 ·intro e
  exact⟨i,hi,e⟩
theorem UF{α:Type}{num:α->Int}{l:List α}{x:Int}(h1:∀ k (h:k<l.length),num l[k] <x):nY num l x=false:=by
 rw[Bool.eq_false_iff]
 intro h
 obtain⟨k,hk,e⟩:=xV.1 h
 have :=h1 k hk
 omega
def K6a:List (Nat×Spec):=[(140,X')]
theorem YL:KS K6a:=tc OI.sound<|tn
attribute [go_sem] K6a
@[go_sem] def P169:PSpec:=p2 iP iI (fun _ _=>True) (fun p x=>vInt (kY p.id x)) true
@[go_sem] def X6:Spec:=P169.toSpec
theorem Ox:aT Tryz.prog 169 P169:=by
 refine ev (rs:=[.tmp 4]) Tryz.func169 Tryz.ntmps169 fun p x hp hw=>?_
 simp only[iI,iP,dv]at hw |-
 have hΓ:=YL
 repeat refine sq ?_
 refine rs hΓ [1,2] [[2,0]] ?_
 repeat refine sq ?_
 refine rs hΓ [4] [] ?_
 refine av ?_
 simp only[go_sem]
 all_goals exact dM
def K6b:List (Nat×Spec):=[(169,X6)]
theorem YK:KS K6b:=tc Ox.sound<|tn
attribute [go_sem] K6b
@[go_sem] def P168:PSpec:=p3 (eX iP) iI (iF 169) (fun l _ _=>srt Pap.id l) (fun l x _=>.tup [vInt (pZ Pap.id l x),.bool (nY Pap.id l x)]) true
@[go_sem] def X7:Spec:=P168.toSpec
set_option maxRecDepth 10000 in
theorem Oy:aT Tryz.prog 168 P168:=by
 refine kC (rs:=[.tmp 6,.tmp 7]) Tryz.func168 Tryz.ntmps168 fun l x _ hp hw=>?_
 simp only[iF,iI,iP,eX,iC,dv]at hw |-
 have hΓ:=YK
 have hs:=hp
 have hl:l.length<=maxLen:=by have:=hw.1.1;simpa using this
 repeat refine sq ?_
 refine rs hΓ [0,1,2] [] ?_
 repeat refine sq ?_
 refine rs hΓ [0,1,2,8] [] ?_
 repeat refine sq ?_
 refine rs hΓ [0,1,2,8,9,10] [] ?_
 repeat refine sq ?_
 refine aS ?_
 repeat refine sq ?_
 refine cM (fun ij:Nat×Nat=>[(9,⟨true,.v (vInt ij.1)⟩),(10,⟨true,.v (vInt ij.2)⟩)]) (fun i=>[]) (fun ij=>ij.1<=ij.2/\ij.2<=l.length/\(∀ k (h:k<l.length),k<ij.1->Pap.id l[k] <x)/\(∀ k (h:k<l.length),ij.2<=k->x<=Pap.id l[k])) (fun ij=>ij.2-ij.1) (0,l.length) ?_ ?_ ?_ ?_
 ·exact⟨Nat.zero_le _,Nat.le_refl _,fun k h hk=>by omega,fun k h hk=>by omega⟩
 ·rfl
 ·rfl
 rintro⟨i,j⟩ ⟨bL,lX,eg,fM⟩
 simp only[go_sem]
 repeat refine sq ?_
 refine rs hΓ [0,1,2,8,9,10,17] [] ?_
 repeat refine sq ?_
 refine aB (fun hb=>?_) fun hb=>?_
 ·have ab:i<j:=by simpa using hb
  repeat refine sq ?_
  refine aF ?_
  repeat refine sq ?_
  refine aS ?_
  repeat refine sq ?_
  refine rx hΓ [0,1,2,8,9,10,11] [] (fun K' hK=>by simp only[go_sem,Qg (show i<=maxLen by omega) (show j<=maxLen by omega)];exact fn) ?_
  obtain⟨h,hh⟩:∃ h,h=(i+j) / 2:=⟨_,rfl⟩
  rw[<-hh]
  have h1:i<=h:=by omega
  have h2:h<j:=by omega
  have h3:h<l.length:=by omega
  have Vh:(h:Int)<l.length:=by omega
  repeat refine sq ?_
  refine rx hΓ [0,1,2,8,9,10,11,31] [] (fun K' hK=>by simp only[go_sem,ah h3,ai,aj,Vh];exact fn) ?_
  repeat refine sq ?_
  refine aB (fun hb=>?_) fun hb=>?_
  ·have hx:Pap.id l[h] <x:=by simpa[KV]using hb
   repeat refine sq ?_
   refine bc hΓ fun K' hK=>?_
   simp only[go_sem]
   repeat (refine⟨ob,?_⟩)
   refine hK _ ?_
   clear K' hK
   simp only[go_sem]
   refine⟨(h+1,j),⟨by omega,lX,fun k hk BW=>?_,fM⟩,by omega,?_⟩
   ·rcases Nat.lt_succ_iff_lt_or_eq.1 BW with h5 | h5
    ·have:=hs k h hk h3 h5;omega
    ·subst h5;exact hx
   ·refine bu [0,1,2,8,9,10] [] ?_ ?_<;>simp only[go_sem,bn h3 hl,br]
  ·have hx:x<=Pap.id l[h]:=by
     have :¬ Pap.id l[h] <x:=by simpa[KV]using hb
     omega
   repeat refine sq ?_
   refine bc hΓ fun K' hK=>?_
   simp only[go_sem]
   repeat (refine⟨ob,?_⟩)
   refine hK _ ?_
   clear K' hK
   simp only[go_sem]
   refine⟨(i,h),⟨by omega,by omega,eg,fun k hk BW=>?_⟩,by omega,?_⟩
   ·rcases Nat.lt_or_eq_of_le BW with h5 | h5
    ·have:=hs h k h3 hk h5;omega
    ·subst h5;exact hx
   ·refine bu [0,1,2,8,9,10] [] ?_ ?_<;>simp only[go_sem]
 ·have he:i=j:=by
    have :¬ (i:Int)<j:=by simpa using hb
    omega
  subst he
  repeat refine sq ?_
  refine bW ?_
  simp only[go_sem]
  refine kp [0,1,2,8,9] [] ?_
  by_cases jC:i<l.length
  ·have B4:(i:Int)<l.length:=by omega
   repeat refine sq ?_
   refine rx hΓ [6,7] [] (fun K' hK=>by simp only[go_sem,ah jC,ai,aj,B4];exact fn) ?_
   refine av ?_
   simp only[go_sem]
   rw[AP lX eg fM,UG hs jC eg fM]
   simp[Wi]
  ·have j8:i=l.length:=by omega
   have B4:¬ (i:Int)<l.length:=by omega
   obtain⟨k0,n0,Uq⟩:∃ k0 n0,(l.map dv).getD i default=.int k0 n0:=by
    refine⟨default,default,?_⟩
    rw[List.getD_eq_getElem?_getD,List.getElem?_eq_none (by simp;omega)]
    rfl
   repeat refine sq ?_
   refine rx hΓ [6,7] [] (fun K' hK=>by simp only[go_sem,Uq,ai,aj,B4];exact fn) ?_
   refine av ?_
   simp only[go_sem]
   rw[AP lX eg fM,UF fun k hk=>eg k hk (by omega)]
   simp
def dY(l:List Pap)(id:Int):Int:=match l.find? fun p=>p.id==id with
 |some p=>p.lv
 |none=>0
theorem Gp{l:List Pap}{x:Int}{i:Nat}(hi:i<l.length)(h:l[i].id=x)(h1:∀ k (h:k<l.length),k<i->l[k].id≠x):dY l x=l[i].lv:=by
 unfold dY
 have :(l.find? fun p=>p.id==x)=some l[i]:=by
  rw[List.find?_eq_some_iff_getElem]
  exact⟨by simpa using h,i,hi,rfl,fun j hj=>by simpa using h1 j (by omega) hj⟩
 rw[this]
theorem Gn{l:List Pap}{x:Int}(h1:∀ k (h:k<l.length),l[k].id≠x):dY l x=0:=by
 unfold dY
 have :(l.find? fun p=>p.id==x)=none:=by
  rw[List.find?_eq_none]
  intro p hp
  obtain⟨k,hk,rfl⟩:=List.getElem_of_mem hp
  simpa using h1 k hk
 rw[this]
theorem Qn{l:List Pap}{x:Int}(hs:srt Pap.id l)(h:nY Pap.id l x=true):∃ (h:pZ Pap.id l x<l.length),l[pZ Pap.id l x].lv=dY l x:=by
 obtain⟨k,hk,e⟩:=xV.1 h
 have e2:pZ Pap.id l x=k:=AP (Nat.le_of_lt hk) (fun j hj lY=>by have:=hs j k hj hk lY;omega) (fun j hj lY=>by
  rcases Nat.lt_or_eq_of_le lY with h | rfl
  ·have:=hs k j hk hj h;omega
  ·omega)
 refine⟨e2▸hk,?_⟩
 rw[Gp hk e fun j hj lY=>by have:=hs j k hj hk lY;omega]
 congr
theorem Qm{l:List Pap}{x:Int}(h:nY Pap.id l x=false):dY l x=0:=Gn fun k hk e=>by
 rw[xV.2 ⟨k,hk,e⟩]at h;cases h
def K6:List (Nat×Spec):=[(168,X7)]
theorem YM:KS K6:=tc Oy.sound<|tn
attribute [go_sem] K6
@[go_sem] def P79:PSpec:=p2 nN iI (fun l _=>srt Pap.id l.ps) (fun l x=>vInt (dY l.ps x)) true
@[go_sem] def vN:Spec:=P79.toSpec
theorem N3:aT Tryz.prog 79 P79:=by
 refine ev (rs:=[.tmp 4]) Tryz.func79 Tryz.ntmps79 fun l x hp hw=>?_
 simp only[iI,nN,ja]at hw |-
 have hΓ:=YM
 repeat refine sq ?_
 refine rs hΓ [0,1] [] ?_
 repeat refine sq ?_
 refine rx hΓ [0,5,6] [] (fun K' hK=>by simp only[go_sem,hp];exact fn) ?_
 repeat refine sq ?_
 refine rs hΓ [0,5,17] [] ?_
 repeat refine sq ?_
 refine aB (fun hb=>?_) fun hb=>?_
 ·repeat refine sq ?_
  have hf:nY Pap.id l.ps x=false:=by simpa using hb
  repeat refine sq ?_
  refine rs hΓ [4] [] ?_
  refine av ?_
  simp only[go_sem]
  rw[Qm hf]
 ·repeat refine sq ?_
  have hf:nY Pap.id l.ps x=true:=by simpa using hb
  obtain⟨TB,o8⟩:=Qn hp hf
  have TA:(pZ Pap.id l.ps x:Int)<l.ps.length:=by omega
  refine aF ?_
  repeat refine sq ?_
  refine rx hΓ [4] [] (fun K' hK=>by simp only[go_sem,ah TB,ai,aj,TA];exact fn) ?_
  refine av ?_
  simp only[go_sem]
  rw[o8]
@[go_sem] def P84:PSpec:=p2 iL iI (fun _ _=>True) (fun l x=>vInt (dY l.ps x)) true
@[go_sem] def zg:Spec:=P84.toSpec
theorem N1:aT Tryz.prog 84 P84:=by
 refine ev (rs:=[.tmp 4]) Tryz.func84 Tryz.ntmps84 fun l x hp hw=>?_
 simp only[iI,iL,fY]at hw |-
 have hΓ:=@ff Tryz.prog
 have hl:l.ps.length<=maxLen:=by have:=hw.1;simp[V.wfL,V.wf]at this;omega
 repeat refine sq ?_
 refine rs hΓ [1,2] [[2,0]] ?_
 repeat refine sq ?_
 refine rs hΓ [1,2,5] [[2,0]] ?_
 repeat refine sq ?_
 refine aS ?_
 repeat refine sq ?_
 refine cM (fun s:Nat=>[(5,⟨true,.v (vInt s)⟩)]) (fun s=>[]) (fun s=>s<=l.ps.length/\∀ k (h:k<l.ps.length),k<s->l.ps[k].id≠x) (fun s=>l.ps.length-s) 0 ?_ ?_ ?_ ?_
 ·exact⟨Nat.zero_le _,by simp⟩
 ·rfl
 ·rfl
 rintro i ⟨hi,hR⟩
 simp only[go_sem]
 repeat refine sq ?_
 refine rs hΓ [1,2,5,10] [[2,0]] ?_
 repeat refine sq ?_
 refine aB (fun hb=>?_) fun hb=>?_
 ·have ab:i<l.ps.length:=by simpa using hb
  have aq:(i:Int)<l.ps.length:=by omega
  clear hb
  repeat refine sq ?_
  refine aF ?_
  repeat refine sq ?_
  refine aS ?_
  repeat refine sq ?_
  refine rx hΓ [1,2,5,20] [[2,0]] (fun K' hK=>by simp only[go_sem,ah ab,ai,aj,aq];exact fn) ?_
  repeat refine sq ?_
  refine aB (fun hb=>?_) fun hb=>?_
  ·repeat refine sq ?_
   refine rx hΓ [4] [] (fun K' hK=>by simp only[go_sem,ah ab,ai,aj,aq];exact fn) ?_
   refine av ?_
   simp only[go_sem]
   rw[Gp ab (by simpa using hb) hR]
  ·repeat refine sq ?_
   refine aF ?_
   refine b9 ?_
   simp only[go_sem]
   refine kp [1,2,5] [[2,0]] ?_
   repeat refine sq ?_
   refine bc hΓ fun K' hK=>?_
   simp only[go_sem,ah ab,ai,aj,aq]
   repeat (refine⟨ob,?_⟩)
   refine hK _ ?_
   clear K' hK
   simp only[go_sem]
   refine⟨i+1,⟨ab,?_⟩,by(show l.ps.length-(i+1)<l.ps.length-i;omega),?_⟩
   ·intro k hk eh
    rcases Nat.lt_succ_iff_lt_or_eq.1 eh with h5 | rfl
    ·exact hR k hk h5
    ·simpa using hb
   refine bu [1,2,5] [[2,0]] ?_ ?_<;>simp only[go_sem,bn ab hl,br]
 ·have bF:i=l.ps.length:=by
   have :¬ (i:Int)<l.ps.length:=by simpa using hb
   omega
  clear hb
  subst bF
  repeat refine sq ?_
  refine bW ?_
  simp only[go_sem]
  refine kp [] [] ?_
  repeat refine sq ?_
  refine rs hΓ [4] [] ?_
  refine av ?_
  simp only[go_sem]
  rw[Gn fun k hk=>hR k hk hk]
end
end Go.Eng
set_option linter.unusedVariables false
namespace Go.Eng
open Go Go.Proofs Go.RowKit Go.Lib Go.Shelf
end Go.Eng
set_option linter.unusedVariables false
namespace Go.Eng
open Go Go.Proofs Go.RowKit Go.Lib Go.Shelf
set_option maxHeartbeats 2000000 in
set_option maxRecDepth 100000 in
theorem WD(n c:Nat)(w:World):Calls Tryz.prog 132 #[.slice none n c] w fun e w'=>e=.returned (.slice none 0 0)/\w'=w:=by
 have mixed:Tryz.prog.follows Departure.mixedOrders=true:=by kernel_rfl
 have qT:∀ (w:World) (a:Option Addr) (n c n' c':Nat),(binOp .eql 29 (.slice a n c) (.slice none n' c')).run Tryz.prog w=.ok (.bool a.isNone) w:=fun w a n c n' c'=>Lib.run_eql_slice_nil w _ _ a n c n' c' Tryz.underlying29
 go_enter Tryz.func132,Tryz.ntmps132
 go_wp2
 go_ret
 exact⟨rfl,rfl⟩
set_option maxHeartbeats 2000000 in
set_option maxRecDepth 100000 in
theorem WC(a:Addr)(n c:Nat)(w:World)(v':Value)(w':World)
 (cC:∀ ty,(Builtin.append_ #[29,29] ty #[.slice (some ⟨w.heap.size,0,none⟩) 0 0,.slice (some a) n c]).run Tryz.prog (w.alloc (.cells #[] 81))=.ok v' w'):
 Calls Tryz.prog 132 #[.slice (some a) n c] w fun e w1=>e=.returned v'/\w1=w':=by
 have mixed:Tryz.prog.follows Departure.mixedOrders=true:=by kernel_rfl
 have qT:∀ (w:World) (a:Option Addr) (n c n' c':Nat),(binOp .eql 29 (.slice a n c) (.slice none n' c')).run Tryz.prog w=.ok (.bool a.isNone) w:=fun w a n c n' c'=>Lib.run_eql_slice_nil w _ _ a n c n' c' Tryz.underlying29
 go_enter Tryz.func132,Tryz.ntmps132
 go_wp2_with (at_builtin;refine Lib.wpList_append_run _ rfl _ _ _ _ rfl _ _ rfl rfl _ _ (cC _) ?_)
 go_ret
 exact⟨rfl,rfl⟩
set_option maxHeartbeats 2000000 in
set_option maxRecDepth 100000 in
theorem WA(n c:Nat)(w:World):Calls Tryz.prog 176 #[.slice none n c] w fun e w'=>e=.returned (.slice none 0 0)/\w'=w:=by
 have mixed:Tryz.prog.follows Departure.mixedOrders=true:=by kernel_rfl
 have qT:∀ (w:World) (a:Option Addr) (n c n' c':Nat),(binOp .eql 26 (.slice a n c) (.slice none n' c')).run Tryz.prog w=.ok (.bool a.isNone) w:=fun w a n c n' c'=>Lib.run_eql_slice_nil w _ _ a n c n' c' Tryz.underlying26
 go_enter Tryz.func176,Tryz.ntmps176
 go_wp2
 go_ret
 exact⟨rfl,rfl⟩
set_option maxHeartbeats 2000000 in
set_option maxRecDepth 100000 in
theorem Wz(a:Addr)(n c:Nat)(w:World)(v':Value)(w':World)
 (cC:∀ ty,(Builtin.append_ #[26,26] ty #[.slice (some ⟨w.heap.size,0,none⟩) 0 0,.slice (some a) n c]).run Tryz.prog (w.alloc (.cells #[] 46))=.ok v' w'):
 Calls Tryz.prog 176 #[.slice (some a) n c] w fun e w1=>e=.returned v'/\w1=w':=by
 have mixed:Tryz.prog.follows Departure.mixedOrders=true:=by kernel_rfl
 have qT:∀ (w:World) (a:Option Addr) (n c n' c':Nat),(binOp .eql 26 (.slice a n c) (.slice none n' c')).run Tryz.prog w=.ok (.bool a.isNone) w:=fun w a n c n' c'=>Lib.run_eql_slice_nil w _ _ a n c n' c' Tryz.underlying26
 go_enter Tryz.func176,Tryz.ntmps176
 go_wp2_with (at_builtin;refine Lib.wpList_append_run _ rfl _ _ _ _ rfl _ _ rfl rfl _ _ (cC _) ?_)
 go_ret
 exact⟨rfl,rfl⟩
set_option maxHeartbeats 2000000 in
set_option maxRecDepth 100000 in
theorem Wx(n c:Nat)(w:World):Calls Tryz.prog 177 #[.slice none n c] w fun e w'=>e=.returned (.slice none 0 0)/\w'=w:=by
 have mixed:Tryz.prog.follows Departure.mixedOrders=true:=by kernel_rfl
 have qT:∀ (w:World) (a:Option Addr) (n c n' c':Nat),(binOp .eql 27 (.slice a n c) (.slice none n' c')).run Tryz.prog w=.ok (.bool a.isNone) w:=fun w a n c n' c'=>Lib.run_eql_slice_nil w _ _ a n c n' c' Tryz.underlying27
 go_enter Tryz.func177,Tryz.ntmps177
 go_wp2
 go_ret
 exact⟨rfl,rfl⟩
set_option maxHeartbeats 2000000 in
set_option maxRecDepth 100000 in
theorem Ww(a:Addr)(n c:Nat)(w:World)(v':Value)(w':World)
 (cC:∀ ty,(Builtin.append_ #[27,27] ty #[.slice (some ⟨w.heap.size,0,none⟩) 0 0,.slice (some a) n c]).run Tryz.prog (w.alloc (.cells #[] 36))=.ok v' w'):
 Calls Tryz.prog 177 #[.slice (some a) n c] w fun e w1=>e=.returned v'/\w1=w':=by
 have mixed:Tryz.prog.follows Departure.mixedOrders=true:=by kernel_rfl
 have qT:∀ (w:World) (a:Option Addr) (n c n' c':Nat),(binOp .eql 27 (.slice a n c) (.slice none n' c')).run Tryz.prog w=.ok (.bool a.isNone) w:=fun w a n c n' c'=>Lib.run_eql_slice_nil w _ _ a n c n' c' Tryz.underlying27
 go_enter Tryz.func177,Tryz.ntmps177
 go_wp2_with (at_builtin;refine Lib.wpList_append_run _ rfl _ _ _ _ rfl _ _ rfl rfl _ _ (cC _) ?_)
 go_ret
 exact⟨rfl,rfl⟩
set_option maxHeartbeats 2000000 in
set_option maxRecDepth 100000 in
theorem Wu(n c:Nat)(w:World):Calls Tryz.prog 178 #[.slice none n c] w fun e w'=>e=.returned (.slice none 0 0)/\w'=w:=by
 have mixed:Tryz.prog.follows Departure.mixedOrders=true:=by kernel_rfl
 have qT:∀ (w:World) (a:Option Addr) (n c n' c':Nat),(binOp .eql 28 (.slice a n c) (.slice none n' c')).run Tryz.prog w=.ok (.bool a.isNone) w:=fun w a n c n' c'=>Lib.run_eql_slice_nil w _ _ a n c n' c' Tryz.underlying28
 go_enter Tryz.func178,Tryz.ntmps178
 go_wp2
 go_ret
 exact⟨rfl,rfl⟩
set_option maxHeartbeats 2000000 in
set_option maxRecDepth 100000 in
theorem Wt(a:Addr)(n c:Nat)(w:World)(v':Value)(w':World)
 (cC:∀ ty,(Builtin.append_ #[28,28] ty #[.slice (some ⟨w.heap.size,0,none⟩) 0 0,.slice (some a) n c]).run Tryz.prog (w.alloc (.cells #[] 40))=.ok v' w'):
 Calls Tryz.prog 178 #[.slice (some a) n c] w fun e w1=>e=.returned v'/\w1=w':=by
 have mixed:Tryz.prog.follows Departure.mixedOrders=true:=by kernel_rfl
 have qT:∀ (w:World) (a:Option Addr) (n c n' c':Nat),(binOp .eql 28 (.slice a n c) (.slice none n' c')).run Tryz.prog w=.ok (.bool a.isNone) w:=fun w a n c n' c'=>Lib.run_eql_slice_nil w _ _ a n c n' c' Tryz.underlying28
 go_enter Tryz.func178,Tryz.ntmps178
 go_wp2_with (at_builtin;refine Lib.wpList_append_run _ rfl _ _ _ _ rfl _ _ rfl rfl _ _ (cC _) ?_)
 go_ret
 exact⟨rfl,rfl⟩
set_option maxHeartbeats 2000000 in
set_option maxRecDepth 100000 in
theorem Wr(n c:Nat)(w:World):Calls Tryz.prog 179 #[.slice none n c] w fun e w'=>e=.returned (.slice none 0 0)/\w'=w:=by
 have mixed:Tryz.prog.follows Departure.mixedOrders=true:=by kernel_rfl
 have qT:∀ (w:World) (a:Option Addr) (n c n' c':Nat),(binOp .eql 32 (.slice a n c) (.slice none n' c')).run Tryz.prog w=.ok (.bool a.isNone) w:=fun w a n c n' c'=>Lib.run_eql_slice_nil w _ _ a n c n' c' Tryz.underlying32
 go_enter Tryz.func179,Tryz.ntmps179
 go_wp2
 go_ret
 exact⟨rfl,rfl⟩
set_option maxHeartbeats 2000000 in
set_option maxRecDepth 100000 in
theorem Wq(a:Addr)(n c:Nat)(w:World)(v':Value)(w':World)
 (cC:∀ ty,(Builtin.append_ #[32,32] ty #[.slice (some ⟨w.heap.size,0,none⟩) 0 0,.slice (some a) n c]).run Tryz.prog (w.alloc (.cells #[] 3))=.ok v' w'):
 Calls Tryz.prog 179 #[.slice (some a) n c] w fun e w1=>e=.returned v'/\w1=w':=by
 have mixed:Tryz.prog.follows Departure.mixedOrders=true:=by kernel_rfl
 have qT:∀ (w:World) (a:Option Addr) (n c n' c':Nat),(binOp .eql 32 (.slice a n c) (.slice none n' c')).run Tryz.prog w=.ok (.bool a.isNone) w:=fun w a n c n' c'=>Lib.run_eql_slice_nil w _ _ a n c n' c' Tryz.underlying32
 go_enter Tryz.func179,Tryz.ntmps179
 go_wp2_with (at_builtin;refine Lib.wpList_append_run _ rfl _ _ _ _ rfl _ _ rfl rfl _ _ (cC _) ?_)
 go_ret
 exact⟨rfl,rfl⟩
def Z81:Value:=.agg #[.int .i64 0,.int .i64 0,.int .i64 0,.int .i64 0,.int .i64 0,.int .i64 0,.int .i64 0]
def Z46:Value:=.agg #[.int .i64 0,.int .i64 0]
def Z36:Value:=.agg #[.int .i64 0,.int .i64 0,.int .i64 0,.slice none 0 0,.int .i64 0,.int .i64 0,.int .i64 0]
def Z40:Value:=.agg #[.int .i64 0,.int .i64 0,.int .i64 0,.slice none 0 0,.int .i64 0,.int .i64 0,.int .i64 0,.int .i64 0]
theorem lK(n:Nat)(h:n<1000000000):n≠yid:=by unfold yid;omega
theorem KW:pJ Tryz.prog 132 29 81 7 56 Z81:=
 ⟨by kernel_rfl,by kernel_rfl,lK _ (by decide),gn Tryz.func132 (by rfl) (by kernel_rfl),WD,WC⟩
theorem WB:pJ Tryz.prog 176 26 46 2 16 Z46:=
 ⟨by kernel_rfl,by kernel_rfl,lK _ (by decide),gn Tryz.func176 (by rfl) (by kernel_rfl),WA,Wz⟩
theorem Wy:pJ Tryz.prog 177 27 36 7 72 Z36:=
 ⟨by kernel_rfl,by kernel_rfl,lK _ (by decide),gn Tryz.func177 (by rfl) (by kernel_rfl),Wx,Ww⟩
theorem Wv:pJ Tryz.prog 178 28 40 8 80 Z40:=
 ⟨by kernel_rfl,by kernel_rfl,lK _ (by decide),gn Tryz.func178 (by rfl) (by kernel_rfl),Wu,Wt⟩
theorem Ws:pJ Tryz.prog 179 32 3 1 8 (.int .i64 0):=
 ⟨by kernel_rfl,by kernel_rfl,lK _ (by decide),gn Tryz.func179 (by rfl) (by kernel_rfl),Wr,Wq⟩
open Go Go.Proofs
def eC(l:List Int):List (V×V):=l.map fun s=>(vInt s,.bool true)
def mR(es:List (V×V)):List Int:=es.map fun q=>jb q.1
@[go_sem] theorem VU(l:List Int):mR (eC l)=l:=by
  unfold mR eC
  rw[List.map_map]
  exact List.map_id _
def pD(l:List Int)(s:Int):List Int:=if l.contains s then l else l++[s]
theorem Qh(l:List Int)(s:Int):et (eC l) (vInt s)=if l.contains s then some (.bool true)else none:=by
 induction l with
 |nil=>rfl
 |cons a r ih=>
  show (if eJ (vInt a) (vInt s)=true then some (V.bool true)else et (eC r) (vInt s))=_
  rw[ih]
  by_cases h:a=s
  ·subst h;simp[eJ]
  ·have h':(a==s)=false:=by simpa using h
   have fN:(s==a)=false:=by simpa using fun e=>h e.symm
   have h3:¬ s=a:=fun e=>h e.symm
   simp[eJ,h',h3]
theorem AN(l:List Int)(s:Int):(et (eC l) (vInt s)).getD (.bool false)=.bool (l.contains s):=by
 rw[Qh]
 cases l.contains s<;>rfl
theorem AK(l:List Int)(s:Int):dA (eC l) (vInt s) (.bool true)=eC (pD l s):=by
 induction l with
 |nil=>rfl
 |cons a r ih=>
  show (if eJ (vInt a) (vInt s)=true then(vInt s,V.bool true)::eC r else(vInt a,V.bool true)::dA (eC r) (vInt s) (.bool true))=_
  rw[ih]
  unfold pD
  by_cases h:a=s
  ·subst h;simp[eJ,eC]
  ·have h':(a==s)=false:=by simpa using h
   have fN:(s==a)=false:=by simpa using fun e=>h e.symm
   simp only[eJ,h',Bool.false_eq_true,if_false,List.contains_cons,fN,Bool.false_or]
   split<;>rfl
def Ap(obj:Name->Option O)(_:Name):List D->List Name
 |[_,.ref nm _]=>nm::(match obj nm with | some (.box [.map mm])=>[mm] | _=>[])
 |_=>[]
def oI(obj:Name->Option O)(_:Name):List D->R
 |[.v (.int .i64 s),.ref nm 0]=>match obj nm with
  |some (.box [.map mm])=>match obj mm with
   |some (.map 0 es)=>⟨(mm==nm)=false/\eC (mR es)=es,.v (.bool (!(mR es).contains s)),upd obj mm (some (.map 0 (eC (pD (mR es) s))))⟩
   |_=>.bad obj
  |_=>.bad obj
 |_=>.bad obj
def onceS:Spec:=⟨oI,Ap,Ap⟩
theorem PI:onceS.Near:=by
 refine t' fun obj obj2 t ds ha=>?_
 unfold Ap at ha |-
 split
 ·rename_i d nm off
  simp only at ha
  have h1:obj2 nm=obj nm:=ha nm (by simp)
  refine⟨by rw[h1],?_⟩
  have fJ:∀ wr,bE wr obj obj2->bK (R.bad obj) (R.bad obj2) obj obj2 wr:=fun wr h=>.none wr h
  unfold oI
  split
  ·rename_i s jr e
   simp only[List.cons.injEq,D.ref.injEq,and_true]at e
   obtain⟨_,rfl,rfl⟩:=e
   simp only[h1]
   split at ha
   ·rename_i mm hm
    have h2:obj2 mm=obj mm:=ha mm (by simp)
    simp only[h2,hm]
    split
    ·exact .one (by simp) ha
    ·exact fJ _ ha
   ·exact fJ _ ha
  ·exact fJ _ ha
 ·refine⟨rfl,?_⟩
  rename_i mM
  unfold oI
  split
  ·exact(mM _ _ _ rfl).elim
  ·exact .none _ (fun _ h=>by cases h)
attribute [go_sem] onceS oI
def tV:CSpec where
 pre:=fun os ds=>∃ (ss:List Int) (s:Int),os=[.box [.map [1,1]],.map 0 (eC ss)]/\ds=[.v (vInt s),.ref [0,1] 0]
 out:=fun os ds=>match os,ds with
  |[_,.map _ es],[.v (.int _ s),_]=>⟨[(1,.map 0 (eC (pD (mR es) s)))],[],.v (.bool (!(mR es).contains s))⟩
  |_,_=>⟨[],[],.any⟩
theorem PH{f:FuncId}(h:aK Tryz.prog f tV.toSpec)(aC:f≠yid):aK Tryz.prog f onceS:=by
 refine tK h PI aC fun obj t ds aa=>?_
 change (oI obj t ds).ok at aa
 refine⟨ds,rfl,fun _ _ _ _ h=>h,?_⟩
 show _/\_=(oI obj t ds).d/\_=(oI obj t ds).obj
 unfold oI at aa |-
 split at aa
 ·rename_i s nm
  split at aa
  ·rename_i mm hb
   split at aa
   ·rename_i es hm
    obtain⟨kQ,Uc⟩:=aa
    have Jb:mm≠nm:=by simpa using kQ
    have UD:(nm==mm)=false:=by simpa using fun e=>Jb e.symm
    have hr:reach obj [.v (.int .i64 s),.ref nm 0]=[nm,mm]:=by
     unfold reach
     show dd obj (2997+1+1+1) [nm] []=[nm,mm]
     simp only[dd,cG,List.any_nil,Bool.false_eq_true,if_false,hb,kK,cP,kL,List.nil_append,List.append_nil,List.any_cons,UD,Bool.or_false,hm,List.cons_append]
    have i0:idx [nm,mm] nm=0:=by simp[idx]
    have i1:idx [nm,mm] mm=1:=by simp[idx,Ne.symm Jb]
    have e1:cg obj [.v (.int .i64 s),.ref nm 0]=[.box [.map [1,1]],.map 0 es]:=by
     unfold cg
     rw[hr]
     simp only[List.map_cons,List.map_nil,cm,hb,hm,O.ren,D.renL,D.ren,cin,i1]
    have e2:cN obj [.v (.int .i64 s),.ref nm 0]=[.v (.int .i64 s),.ref [0,1] 0]:=by
     unfold cN
     rw[hr]
     simp only[D.renL,D.ren,cin,i0]
    have ie:tV.out [.box [.map [1,1]],.map 0 es] [.v (.int .i64 s),.ref [0,1] 0]=⟨[(1,.map 0 (eC (pD (mR es) s)))],[],.v (.bool (!(mR es).contains s))⟩:=rfl
    have dr:tV.pre [.box [.map [1,1]],.map 0 es] [.v (.int .i64 s),.ref [0,1] 0]:=⟨mR es,s,by rw[Uc],rfl⟩
    have e3:(shut obj [nm,mm]&&D.closL (cG [nm,mm]) [.v (.int .i64 s),.ref nm 0]&&fresh obj t [])=true:=by
     simp[shut,hb,hm,O.clos,D.closL,D.clos,cG,fresh]
    simp only[CSpec.toSpec,e1,e2,hr,ie,e3,dr,hb,hm,and_self,c9,cj,D.ren,D.renL,O.ren,cout,List.getD_cons_zero,List.getD_cons_succ]
   ·exact aa.elim
  ·exact aa.elim
 ·exact aa.elim
set_option maxHeartbeats 8000000
noncomputable section
def S117:Spec:=onceS
attribute [go_sem] S117
theorem Sz:aK Tryz.prog 117 S117:=by
 refine PH ?_ (lK _ (by decide))
 refine mS (nt:=12) (rs:=[.tmp 3]) Tryz.func117 rfl (by rfl) (by kernel_rfl) (gn Tryz.func117 rfl (by kernel_rfl)) (lK _ (by decide)) ?_
 rintro os ds ⟨ss,s,rfl,rfl⟩
 refine⟨Nat.le_of_ble_eq_true rfl,?_⟩
 have ie:tV.out [.box [.map [1,1]],.map 0 (eC ss)] [.v (vInt s),.ref [0,1] 0]=⟨[(1,.map 0 (eC (pD ss s)))],[],.v (.bool (!ss.contains s))⟩:=by
  simp only[tV,VU]
 rw[ie]
 refine iw ?_
 have hΓ:=@ff Tryz.prog
 have dj:∀ hs,bU [0] (bP [0] hs) (aQ [.box [.map [1,1]],.map 0 (eC ss)])=True:=fun hs=>eq_true (nz (by
  intro o ho dom hd
  simp only[List.mem_cons,List.not_mem_nil,or_false]at ho
  rcases ho with rfl | rfl
  ·simp[O.clos,D.closL,D.clos,hd]
  ·rfl) hs)
 have h0:aQ [.box [.map [1,1]],.map 0 (eC ss)] [0,1]=some (.box [.map [1,1]]):=rfl
 have h1:aQ [.box [.map [1,1]],.map 0 (eC ss)] [1,1]=some (.map 0 (eC ss)):=rfl
 generalize hH:aQ [.box [.map [1,1]],.map 0 (eC ss)]=H at *
 have ae:∀ hs es,bU [0] (bP [0] hs) (upd H [1,1] (some (.map 0 es)))=True:=fun hs es=>eq_true (ru rfl (by rw[dj];trivial))
 have ba:∀ hs es,bU [0] (bP [0] hs) (fun nm=>if nm=[1,1]then some (.map 0 es)else H nm)=True:=ae
 repeat refine sq ?_
 refine rx hΓ [0,1] [] (fun K' hK=>by simp only[go_sem,dj];(repeat (refine⟨ob,?_⟩));exact hK _ (by simp only[go_sem,dj]) (by simp only[go_sem,dj]<;>rfl)) ?_
 repeat refine sq ?_
 refine rx hΓ [0,1,4] [] (fun K' hK=>by simp only[go_sem,dj,h0,h1,AN];(repeat (refine⟨ob,?_⟩));exact hK _ (by simp only[go_sem,dj,h0,h1,AN]) (by simp only[go_sem,dj,h0,h1,AN]<;>rfl)) ?_
 repeat refine sq ?_
 refine rx hΓ [4] [] (fun K' hK=>by simp only[go_sem,dj,ae,ba,h0,h1,AK];(repeat (refine⟨ob,?_⟩));exact hK _ (by simp only[go_sem,dj,ae,ba,h0,h1,AK]) (by simp only[go_sem,dj,ae,ba,h0,h1,AK]<;>rfl)) ?_
 repeat refine sq ?_
 refine rx hΓ [3] [] (fun K' hK=>by simp only[go_sem,dj,ae,ba];(repeat (refine⟨ob,?_⟩));exact hK _ (by simp only[go_sem,dj,ae,ba]) (by simp only[go_sem,dj,ae,ba]<;>rfl)) ?_
 refine av ?_
 simp only[go_sem]
 exact⟨h0,rfl⟩
def K7:List (Nat×Spec):=[(109,Yi),(111,Yg),(113,Ye),(115,Yc),(117,S117),(79,vN)]
theorem YB:KS K7:=tc OQ.sound<|tc OO.sound<|tc OM.sound<|tc OK.sound<|tc Sz<|tc N3.sound<|tn
attribute [go_sem] K7
def sn{α:Type}(pre:List Int)(f:α->Int)(l:List α)(i:Nat):List Int:=(l.take i).foldl (fun a x=>a++[f x]) pre
theorem nl{α:Type}(pre:List Int)(f:α->Int)(l:List α)(i:Nat):sn pre f l i=pre++(l.take i).map f:=by
 unfold sn
 generalize l.take i=k
 induction k generalizing pre with
 |nil=>simp
 |cons a r ih=>simp[ih]
theorem zL{α:Type}{pre:List Int}{f:α->Int}{l:List α}{i:Nat}(h:i<l.length)(hc:(sn pre f l i).contains (f l[i])=false):pD (sn pre f l i) (f l[i])=sn pre f l (i+1):=by
 unfold pD
 rw[hc,nl,nl,List.take_add_one,List.getElem?_eq_getElem h]
 simp only[Bool.false_eq_true,if_false,Option.toList_some,List.map_append,List.map_cons,List.map_nil,List.append_assoc]
def nJ(l:List Int):Int:=l.getD (l.length-1) 0
def wo(l:Led):List Int:=l.rs.map Rec.so++l.ts.map Ret.so++l.ss.map Sig.so
structure bN (l:Led):Prop where
 ps:gT ny Pap.id l.ps=true
 psn:l.ps.length<=12
 rs:gT dQ Rec.so l.rs=true
 rsn:l.rs.length<=60
 ts:gT jo Ret.so l.ts=true
 tsn:l.ts.length<=60
 ss:gT kG Sig.so l.ss=true
 ssn:l.ss.length<=60
 rl:∀ j (h:j<l.rs.length),nJ l.rs[j].lv<=dY l.ps l.rs[j].pa
 sl:∀ j (h:j<l.ss.length),l.ss[j].le<=dY l.ps l.ss[j].pa
 nd:(wo l).Nodup
open Classical in
def tW(l:Led):Bool:=decide (bN l)
theorem Au{l:Led}:tW l=true↔bN l:=by unfold tW;exact @decide_eq_true_iff _ (Classical.propDecidable _)
def mV(l:Led):Int:=dh (tW l) 24
theorem vz{l:Led}(h:¬ bN l):mV l=24:=by unfold mV;rw[te Au h];rfl
theorem WN{l:Led}(h:bN l):mV l=0:=by unfold mV;rw[Au.2 h];rfl
def kJ{α:Type}(pre:List Int)(f:α->Int)(l:List α)(i:Nat):Prop:=∀ j (h:j<l.length),j<i->(sn pre f l j).contains (f l[j])=false
theorem AG{α:Type}{pre:List Int}{f:α->Int}{l:List α}{i:Nat}(h:kJ pre f l i)(hi:i<l.length)(hc:(sn pre f l i).contains (f l[i])=false):kJ pre f l (i+1):=by
 intro j hj eO
 rcases Nat.lt_succ_iff_lt_or_eq.1 eO with h1 | rfl
 ·exact h j hj h1
 ·exact hc
theorem se{α:Type}{pre:List Int}{f:α->Int}{l:List α}(hp:pre.Nodup):kJ pre f l l.length↔(pre++l.map f).Nodup:=by
 constructor
 ·intro h
  rw[List.nodup_append]
  refine⟨hp,?_,?_⟩
  ·rw[List.nodup_iff_pairwise_ne,List.pairwise_map,List.pairwise_iff_getElem]
   intro i j hi hj bL e
   have :=h j hj hj
   rw[nl]at this
   simp only[List.contains_append,Bool.or_eq_false_iff]at this
   have h2:=this.2
   have :(List.map f (List.take j l)).contains (f l[j])=true:=by
    rw[List.contains_iff_mem,List.mem_map]
    exact⟨l[i],by rw[List.mem_take_iff_getElem];exact⟨i,by omega,rfl⟩,e⟩
   rw[h2]at this;cases this
  ·intro a ha b hb e
   subst e
   obtain⟨x,hx,rfl⟩:=List.mem_map.1 hb
   obtain⟨j,hj,rfl⟩:=List.getElem_of_mem hx
   have :=h j hj hj
   rw[nl]at this
   simp only[List.contains_append,Bool.or_eq_false_iff]at this
   have h2:=this.1
   rw[List.contains_iff_mem.2 ha]at h2;cases h2
 ·intro h j hj _
  rw[List.nodup_append]at h
  obtain⟨_,h1,h2⟩:=h
  rw[nl,Bool.eq_false_iff]
  intro hc
  rw[List.contains_iff_mem,List.mem_append]at hc
  rcases hc with hc | hc
  ·exact h2 _ hc _ (List.mem_map_of_mem (List.getElem_mem hj)) rfl
  ·obtain⟨x,hx,e⟩:=List.mem_map.1 hc
   obtain⟨i,hi,rfl⟩:=List.mem_take_iff_getElem.1 hx
   rw[List.nodup_iff_pairwise_ne,List.pairwise_map,List.pairwise_iff_getElem]at h1
   exact h1 i j (by omega) hj (by omega) e
theorem F9{α:Type}{pre:List Int}{f:α->Int}{l:List α}(h:(pre++l.map f).Nodup):pre.Nodup:=(List.nodup_append.1 h).1
def Pm(l:Led)(i:Nat):Prop:=∀ j (h:j<l.rs.length),j<i->nJ l.rs[j].lv<=dY l.ps l.rs[j].pa
def Nn(l:Led)(i:Nat):Prop:=∀ j (h:j<l.ss.length),j<i->l.ss[j].le<=dY l.ps l.ss[j].pa
theorem DP{l:Led}(h:bN l):kJ [] Rec.so l.rs l.rs.length/\kJ (sn [] Rec.so l.rs l.rs.length) Ret.so l.ts l.ts.length/\kJ (sn (sn [] Rec.so l.rs l.rs.length) Ret.so l.ts l.ts.length) Sig.so l.ss l.ss.length:=by
 have hn:=h.nd
 unfold wo at hn
 have e1:sn [] Rec.so l.rs l.rs.length=l.rs.map Rec.so:=by rw[nl,List.take_length];rfl
 have e2:sn (sn [] Rec.so l.rs l.rs.length) Ret.so l.ts l.ts.length=l.rs.map Rec.so++l.ts.map Ret.so:=by rw[nl,e1,List.take_length]
 have n2:=F9 hn
 have n1:=F9 n2
 refine⟨(se (by simp)).2 (by simpa using n1),?_,?_⟩
 ·rw[e1];exact(se n1).2 n2
 ·rw[e2];exact(se n2).2 hn
theorem Yr{l:Led}(h1:kJ [] Rec.so l.rs l.rs.length)(h2:kJ (sn [] Rec.so l.rs l.rs.length) Ret.so l.ts l.ts.length)(h3:kJ (sn (sn [] Rec.so l.rs l.rs.length) Ret.so l.ts l.ts.length) Sig.so l.ss l.ss.length):(wo l).Nodup:=by
 have e1:sn [] Rec.so l.rs l.rs.length=l.rs.map Rec.so:=by rw[nl,List.take_length];rfl
 have e2:sn (sn [] Rec.so l.rs l.rs.length) Ret.so l.ts l.ts.length=l.rs.map Rec.so++l.ts.map Ret.so:=by rw[nl,e1,List.take_length]
 have n1:(l.rs.map Rec.so).Nodup:=by simpa using(se (pre:=[]) (by simp)).1 h1
 have n2:=(se n1).1 (by rw[e1]at h2;exact h2)
 exact(se n2).1 (by rw[e2]at h3;exact h3)
theorem W2{a b c d:Bool}{p q r s:Prop}[Decidable p][Decidable q][Decidable r][Decidable s](h:(!(a&&decide p)||!(b&&decide q)||!(c&&decide r)||!(d&&decide s))=false):a=true/\p/\b=true/\q/\c=true/\r/\d=true/\s:=by
 simp only[Bool.or_eq_false_iff,Bool.not_eq_false',Bool.and_eq_true,decide_eq_true_eq]at h
 obtain⟨⟨⟨⟨h1,h2⟩,h3,h4⟩,h5,h6⟩,h7,h8⟩:=h
 exact⟨h1,h2,h3,h4,h5,h6,h7,h8⟩
theorem ri{α:Type}{eE:α->Bool}{num:α->Int}{l:List α}(h:gT eE num l=true){j:Nat}(hj:j<l.length):eE l[j]=true:=(jJ.1 h j hj hj).1
theorem Pn{r:Rec}(h:dQ r=true):0<r.lv.length:=by
 unfold dQ at h
 simp only[Bool.and_eq_true]at h
 exact(p7.1 h.1.1.2).1
@[go_sem] def P37:PSpec:=p1 iL (fun _=>True) (fun l=>vInt (mV l)) true
@[go_sem] def DG:Spec:=P37.toSpec
theorem Oi:aT Tryz.prog 37 P37:=by
 refine fz (rs:=[.tmp 2]) Tryz.func37 Tryz.ntmps37 fun l hp hw=>?_
 have hP:=gE
 simp only[iL,fY]at hw |-
 have hΓ:=YB
 repeat refine sq ?_
 refine rs hΓ [1] [[1,0]] ?_
 repeat refine sq ?_
 refine rs hΓ [1,32] [[1,0]] ?_
 repeat refine sq ?_
 refine aB (fun hb=>?_) fun hb=>?_
 ·repeat refine sq ?_
  have i5:¬ bN l:=by
   intro h
   rw[h.ps,h.rs,h.ts,h.ss]at hb
   have h1:=h.psn
   have h2:=h.rsn
   have h3:=h.tsn
   have h4:=h.ssn
   simp only[Bool.true_and,Bool.or_eq_true,Bool.not_eq_true',decide_eq_false_iff_not]at hb
   omega
  repeat refine sq ?_
  refine rs hΓ [2] [] ?_
  refine av ?_
  simp only[go_sem]
  rw[vz i5]
 ·repeat refine sq ?_
  obtain⟨fI,I0,bY,lQ,qh,Br,qk,uP⟩:=W2 hb
  have IN:srt Pap.id l.ps:=wO (jJ.1 fI)
  have xH:l.rs.length<=maxLen:=by unfold maxLen;omega
  have lV:l.ts.length<=maxLen:=by unfold maxLen;omega
  have Tz:l.ss.length<=maxLen:=by unfold maxLen;omega
  refine aF ?_
  repeat refine sq ?_
  refine rs hΓ [1,3] [[1,0],[3,0],[33,0]] ?_
  repeat refine sq ?_
  refine rs hΓ [1,4] [[1,0],[3,0],[33,0]] ?_
  repeat refine sq ?_
  refine rs hΓ [1,4,36,37,38] [[1,0],[3,0],[33,0]] ?_
  repeat refine sq ?_
  refine aS ?_
  repeat refine sq ?_
  refine cM (fun s:Nat=>[(38,⟨true,.v (vInt s)⟩)]) (fun s=>[([33,0],.map 0 (eC (sn [] Rec.so l.rs s)))]) (fun s=>s<=l.rs.length/\kJ [] Rec.so l.rs s/\Pm l s) (fun s=>l.rs.length-s) 0 ?_ ?_ ?_ ?_
  ·exact⟨Nat.zero_le _,fun j _ h=>by omega,fun j _ h=>by omega⟩
  ·rfl
  ·rfl
  rintro i ⟨hi,hR,JO⟩
  simp only[go_sem]
  repeat refine sq ?_
  refine rs hΓ [1,4,36,37,38,39] [[1,0],[3,0],[33,0]] ?_
  repeat refine sq ?_
  refine aB (fun hb=>?_) fun hb=>?_
  ·have ab:i<l.rs.length:=by simpa using hb
   have aq:(i:Int)<l.rs.length:=by omega
   clear hb
   have hv:=Pn (ri bY ab)
   have IH:l.rs[i].lv.length<=maxLen:=by have h0:=(p7.1 (by have h:=ri bY ab;unfold dQ at h;simp only[Bool.and_eq_true]at h;exact h.1.1.2:jY l.rs[i].lv=true)).2.1;unfold maxLen;omega
   have Bp:=zr (by omega:¬ l.rs[i].lv.length=0) IH
   have BD:((l.rs[i].lv.length-1:Nat):Int)<l.rs[i].lv.length:=by omega
   have xu:l.rs[i].lv.length-1<l.rs[i].lv.length:=by omega
   have TX:(l.rs[i].lv.map vInt).getD (l.rs[i].lv.length-1) default=vInt (nJ l.rs[i].lv):=by unfold nJ;rw[ah xu,dt xu]
   repeat refine sq ?_
   refine aF ?_
   repeat refine sq ?_
   refine aS ?_
   repeat refine sq ?_
   refine rx hΓ [1,4,6,36,37,38] [[1,0],[3,0],[6,0],[33,0]] (fun K' hK=>by simp only[go_sem,ah ab,ai,aj,aq];exact fn) ?_
   repeat refine sq ?_
   refine dx hΓ hP [[],[],[1],[0,1,2],u4,u5,u6,u7,u6,[0,1,2,3,4,5,8],[0,1,2,3,4,5,8,9],[0,1,2,3,4,5,8,9,10],gW,pM,u6,[0,1,2,3,4,5,14],[0,1,2,3,4,5,14,15],rG,jN] [1,4,36,37,38,60] [[1,0],[3,0],[33,0]] (by kernel_rfl) (fun K' hK=>by simp only[go_sem,ah ab,ai,aj,aq,IN,Bp,TX,BD];exact fd) ?_
   repeat refine sq ?_
   refine aB (fun hb=>?_) fun hb=>?_
   ·repeat refine sq ?_
    have i5:¬ bN l:=by
     intro h
     have h1:=(DP h).1 i ab ab
     have h2:=h.rl i ab
     rw[h1]at hb
     simp only[Bool.not_false,Bool.not_true,Bool.false_or,decide_eq_true_eq]at hb
     omega
    repeat refine sq ?_
    refine rx hΓ [2] [] (fun K' hK=>by simp only[go_sem,ah ab,ai,aj,aq];exact fn) ?_
    refine av ?_
    simp only[go_sem]
    rw[vz i5]
   ·repeat refine sq ?_
    have o6:(sn [] Rec.so l.rs i).contains l.rs[i].so=false:=by
     simp only[Bool.or_eq_false_iff,Bool.not_not]at hb
     exact hb.1
    have sA:nJ l.rs[i].lv<=dY l.ps l.rs[i].pa:=by
     simp only[Bool.or_eq_false_iff,decide_eq_false_iff_not]at hb
     omega
    rw[zL ab o6]
    refine aF ?_
    refine b9 ?_
    simp only[go_sem]
    refine kp [1,4,36,37,38] [[1,0],[3,0],[33,0]] ?_
    repeat refine sq ?_
    refine bc hΓ fun K' hK=>?_
    simp only[go_sem,ah ab,ai,aj,aq]
    repeat (refine⟨ob,?_⟩)
    refine hK _ ?_
    clear K' hK
    simp only[go_sem]
    refine⟨i+1,⟨ab,?_⟩,by(show l.rs.length-(i+1)<l.rs.length-i;omega),?_⟩
    ·exact⟨AG hR ab o6,fun j hj eO=>by
      rcases Nat.lt_succ_iff_lt_or_eq.1 eO with h1 | rfl
      ·exact JO j hj h1
      ·exact sA⟩
    refine bu [1,4,36,37,38] [[1,0],[3,0],[33,0]] ?_ ?_<;>simp only[go_sem,bn ab xH,br]
  ·have bF:i=l.rs.length:=by
    have :¬ (i:Int)<l.rs.length:=by simpa using hb
    omega
   clear hb
   subst bF
   repeat refine sq ?_
   refine bW ?_
   simp only[go_sem]
   refine kp [1,4] [[1,0],[3,0],[33,0]] ?_
   repeat refine sq ?_
   refine rs hΓ [1,4,63,64,65] [[1,0],[3,0],[33,0]] ?_
   repeat refine sq ?_
   refine aS ?_
   repeat refine sq ?_
   refine cM (fun s:Nat=>[(65,⟨true,.v (vInt s)⟩)]) (fun s=>[([33,0],.map 0 (eC (sn (sn [] Rec.so l.rs l.rs.length) Ret.so l.ts s)))]) (fun s=>s<=l.ts.length/\kJ (sn [] Rec.so l.rs l.rs.length) Ret.so l.ts s) (fun s=>l.ts.length-s) 0 ?_ ?_ ?_ ?_
   ·exact⟨Nat.zero_le _,fun j _ h=>by omega⟩
   ·rfl
   ·rfl
   rintro i ⟨hi1,JN⟩
   simp only[go_sem]
   repeat refine sq ?_
   refine rs hΓ [1,4,63,64,65,66] [[1,0],[3,0],[33,0]] ?_
   repeat refine sq ?_
   refine aB (fun hb=>?_) fun hb=>?_
   ·have aI:i<l.ts.length:=by simpa using hb
    have bj:(i:Int)<l.ts.length:=by omega
    clear hb
    repeat refine sq ?_
    refine aF ?_
    repeat refine sq ?_
    refine aS ?_
    repeat refine sq ?_
    refine rx hΓ [1,4,8,63,64,65] [[1,0],[3,0],[8,0],[33,0]] (fun K' hK=>by simp only[go_sem,ah aI,ai,aj,bj];exact fn) ?_
    repeat refine sq ?_
    refine rx hΓ [1,4,63,64,65,73] [[1,0],[3,0],[33,0]] (fun K' hK=>by simp only[go_sem,ah aI,ai,aj,bj];exact fn) ?_
    repeat refine sq ?_
    refine aB (fun hb=>?_) fun hb=>?_
    ·repeat refine sq ?_
     have i5:¬ bN l:=by
      intro h
      have h1:=(DP h).2.1 i aI aI
      rw[h1]at hb
      cases hb
     repeat refine sq ?_
     refine rx hΓ [2] [] (fun K' hK=>by simp only[go_sem,ah aI,ai,aj,bj];exact fn) ?_
     refine av ?_
     simp only[go_sem]
     rw[vz i5]
    ·repeat refine sq ?_
     have o6:(sn (sn [] Rec.so l.rs l.rs.length) Ret.so l.ts i).contains l.ts[i].so=false:=by
      simpa only[Bool.not_not]using hb
     rw[zL aI o6]
     refine aF ?_
     refine b9 ?_
     simp only[go_sem]
     refine kp [1,4,63,64,65] [[1,0],[3,0],[33,0]] ?_
     repeat refine sq ?_
     refine bc hΓ fun K' hK=>?_
     simp only[go_sem,ah aI,ai,aj,bj]
     repeat (refine⟨ob,?_⟩)
     refine hK _ ?_
     clear K' hK
     simp only[go_sem]
     refine⟨i+1,⟨aI,?_⟩,by(show l.ts.length-(i+1)<l.ts.length-i;omega),?_⟩
     ·exact AG JN aI o6
     refine bu [1,4,63,64,65] [[1,0],[3,0],[33,0]] ?_ ?_<;>simp only[go_sem,bn aI lV,br]
   ·have iY:i=l.ts.length:=by
     have :¬ (i:Int)<l.ts.length:=by simpa using hb
     omega
    clear hb
    subst iY
    repeat refine sq ?_
    refine bW ?_
    simp only[go_sem]
    refine kp [1,4] [[1,0],[3,0],[33,0]] ?_
    repeat refine sq ?_
    refine rs hΓ [1,4,76,77,78] [[1,0],[3,0],[33,0]] ?_
    repeat refine sq ?_
    refine aS ?_
    repeat refine sq ?_
    refine cM (fun s:Nat=>[(78,⟨true,.v (vInt s)⟩)]) (fun s=>[([33,0],.map 0 (eC (sn (sn (sn [] Rec.so l.rs l.rs.length) Ret.so l.ts l.ts.length) Sig.so l.ss s)))]) (fun s=>s<=l.ss.length/\kJ (sn (sn [] Rec.so l.rs l.rs.length) Ret.so l.ts l.ts.length) Sig.so l.ss s/\Nn l s) (fun s=>l.ss.length-s) 0 ?_ ?_ ?_ ?_
    ·exact⟨Nat.zero_le _,fun j _ h=>by omega,fun j _ h=>by omega⟩
    ·rfl
    ·rfl
    rintro i ⟨j9,JM,JL⟩
    simp only[go_sem]
    repeat refine sq ?_
    refine rs hΓ [1,4,76,77,78,79] [[1,0],[3,0],[33,0]] ?_
    repeat refine sq ?_
    refine aB (fun hb=>?_) fun hb=>?_
    ·have cT:i<l.ss.length:=by simpa using hb
     have jz:(i:Int)<l.ss.length:=by omega
     clear hb
     repeat refine sq ?_
     refine aF ?_
     repeat refine sq ?_
     refine aS ?_
     repeat refine sq ?_
     refine rx hΓ [1,4,10,76,77,78] [[1,0],[3,0],[10,0],[33,0]] (fun K' hK=>by simp only[go_sem,ah cT,ai,aj,jz];exact fn) ?_
     repeat refine sq ?_
     refine dx hΓ hP [[],[],[1],[0,1,2],u4,u5,u6,u7,u6,[0,1,2,3,4,5,8],[0,1,2,3,4,5,8,9],gy,gW] [1,4,76,77,78,94] [[1,0],[3,0],[33,0]] (by kernel_rfl) (fun K' hK=>by simp only[go_sem,ah cT,ai,aj,jz,IN];exact fd) ?_
     repeat refine sq ?_
     refine aB (fun hb=>?_) fun hb=>?_
     ·repeat refine sq ?_
      have i5:¬ bN l:=by
       intro h
       have h1:=(DP h).2.2 i cT cT
       have h2:=h.sl i cT
       rw[h1]at hb
       simp only[Bool.not_false,Bool.not_true,Bool.false_or,decide_eq_true_eq]at hb
       omega
      repeat refine sq ?_
      refine rx hΓ [2] [] (fun K' hK=>by simp only[go_sem,ah cT,ai,aj,jz];exact fn) ?_
      refine av ?_
      simp only[go_sem]
      rw[vz i5]
     ·repeat refine sq ?_
      have o6:(sn (sn (sn [] Rec.so l.rs l.rs.length) Ret.so l.ts l.ts.length) Sig.so l.ss i).contains l.ss[i].so=false:=by
       simp only[Bool.or_eq_false_iff,Bool.not_not]at hb
       exact hb.1
      have sA:l.ss[i].le<=dY l.ps l.ss[i].pa:=by
       simp only[Bool.or_eq_false_iff,decide_eq_false_iff_not]at hb
       omega
      rw[zL cT o6]
      refine aF ?_
      refine b9 ?_
      simp only[go_sem]
      refine kp [1,4,76,77,78] [[1,0],[3,0],[33,0]] ?_
      repeat refine sq ?_
      refine bc hΓ fun K' hK=>?_
      simp only[go_sem,ah cT,ai,aj,jz]
      repeat (refine⟨ob,?_⟩)
      refine hK _ ?_
      clear K' hK
      simp only[go_sem]
      refine⟨i+1,⟨cT,?_⟩,by(show l.ss.length-(i+1)<l.ss.length-i;omega),?_⟩
      ·exact⟨AG JM cT o6,fun j hj eO=>by
        rcases Nat.lt_succ_iff_lt_or_eq.1 eO with h1 | rfl
        ·exact JL j hj h1
        ·exact sA⟩
      refine bu [1,4,76,77,78] [[1,0],[3,0],[33,0]] ?_ ?_<;>simp only[go_sem,bn cT Tz,br]
    ·have nQ:i=l.ss.length:=by
      have :¬ (i:Int)<l.ss.length:=by simpa using hb
      omega
     clear hb
     subst nQ
     repeat refine sq ?_
     refine bW ?_
     simp only[go_sem]
     refine kp [] [] ?_
     repeat refine sq ?_
     refine rs hΓ [2] [] ?_
     refine av ?_
     simp only[go_sem]
     rw[WN ⟨fI,by omega,bY,by omega,qh,by omega,qk,by omega,fun j h=>JO j h h,fun j h=>JL j h h,Yr hR JN JM⟩]
end
noncomputable section
def YA:List (Nat×Spec):=[(84,zg)]
attribute [go_sem] YA
structure Fol where
 (pa le:Int)
 deriving Inhabited,DecidableEq
def qQ(f:Fol):V:=.agg [vInt f.pa,vInt f.le]
def KA:V->Fol
 | .agg [.int _ a,.int _ b]=>⟨a,b⟩
 |_=>default
def mG:En Fol:=⟨qQ,KA⟩
attribute [go_sem] qQ KA mG
@[go_sem] theorem kU(p:Fol):(⟨p.pa,p.le⟩:Fol)=p:=rfl
end
noncomputable section
def K9:List (Nat×Spec):=[]
attribute [go_sem] K9
end
noncomputable section
theorem yi(d:Nat)(a b:Int):gP Tryz.prog (d+1) 3 (vInt a) (vInt b)=some (a==b):=by
 simp only[gP,Tryz.underlying3,if_true]
theorem Uh:Tryz.prog.stoodInHeld 46=false:=by kernel_rfl
theorem Vm:Tryz.prog.eqGuardType Tryz.prog.depth 46=false:=by kernel_rfl
theorem VD(d:Nat)(a b a' b':Int):gP Tryz.prog (d+2) 46 (.agg [vInt a,vInt b]) (.agg [vInt a',vInt b'])=some (a==a'&&b==b'):=by
 unfold gP
 simp only[Tryz.underlying46,Uh,Bool.false_eq_true,if_false,mQ,oH,wk,List.getElem?_cons_zero,List.getElem?_cons_succ,yi]
 cases a==a'<;>cases b==b'<;>rfl
@[go_sem] theorem adC(obj:Name->Option O)(op:BinOp)(a b a' b':Int):iA Tryz.prog obj op 46 (.agg [vInt a,vInt b]) (.agg [vInt a',vInt b'])=
    ⟨op=.eql\/op=.neq,.v (.bool (if op=.eql then(a==a'&&b==b')else !(a==a'&&b==b'))),obj⟩:=by
  unfold iA
  rw[show Op.maxDepth=9998+2 from rfl,VD]
  simp only[Vm,true_and]
theorem Ug:Tryz.prog.stoodInHeld 56=false:=by kernel_rfl
theorem Vl:Tryz.prog.eqGuardType Tryz.prog.depth 56=false:=by kernel_rfl
theorem VC(d:Nat)(a b a' b':Int):gP Tryz.prog (d+2) 56 (.agg [vInt a,vInt b]) (.agg [vInt a',vInt b'])=some (a==a'&&b==b'):=by
 unfold gP
 simp only[Tryz.underlying56,Ug,Bool.false_eq_true,if_false,mQ,oH,wk,List.getElem?_cons_zero,List.getElem?_cons_succ,yi]
 cases a==a'<;>cases b==b'<;>rfl
@[go_sem] theorem adB(obj:Name->Option O)(op:BinOp)(a b a' b':Int):iA Tryz.prog obj op 56 (.agg [vInt a,vInt b]) (.agg [vInt a',vInt b'])=
    ⟨op=.eql\/op=.neq,.v (.bool (if op=.eql then(a==a'&&b==b')else !(a==a'&&b==b'))),obj⟩:=by
  unfold iA
  rw[show Op.maxDepth=9998+2 from rfl,VC]
  simp only[Vl,true_and]
theorem Ui:Tryz.prog.stoodInHeld 38=false:=by kernel_rfl
theorem Vn:Tryz.prog.eqGuardType Tryz.prog.depth 38=false:=by kernel_rfl
theorem VE(d:Nat)(a b a' b':Int):gP Tryz.prog (d+2) 38 (.agg [vInt a,vInt b]) (.agg [vInt a',vInt b'])=some (a==a'&&b==b'):=by
 unfold gP
 simp only[Tryz.underlying38,Ui,Bool.false_eq_true,if_false,mQ,oH,wk,List.getElem?_cons_zero,List.getElem?_cons_succ,yi]
 cases a==a'<;>cases b==b'<;>rfl
@[go_sem] theorem adD(obj:Name->Option O)(op:BinOp)(a b a' b':Int):iA Tryz.prog obj op 38 (.agg [vInt a,vInt b]) (.agg [vInt a',vInt b'])=
    ⟨op=.eql\/op=.neq,.v (.bool (if op=.eql then(a==a'&&b==b')else !(a==a'&&b==b'))),obj⟩:=by
  unfold iA
  rw[show Op.maxDepth=9998+2 from rfl,VE]
  simp only[Vn,true_and]
theorem Uf:Tryz.prog.stoodInHeld 81=false:=by kernel_rfl
theorem Vk:Tryz.prog.eqGuardType Tryz.prog.depth 81=false:=by kernel_rfl
theorem VB(k:Nat)(a b c d e f g a' b' c' d' e' f' g':Int):gP Tryz.prog (k+2) 81 (.agg [vInt a,vInt b,vInt c,vInt d,vInt e,vInt f,vInt g]) (.agg [vInt a',vInt b',vInt c',vInt d',vInt e',vInt f',vInt g'])=
 some (a==a'&&(b==b'&&(c==c'&&(d==d'&&(e==e'&&(f==f'&&g==g')))))):=by
 unfold gP
 simp only[Tryz.underlying81,Uf,Bool.false_eq_true,if_false,mQ,oH,wk,List.getElem?_cons_zero,List.getElem?_cons_succ,yi]
 cases a==a'<;>cases b==b'<;>cases c==c'<;>cases d==d'<;>cases e==e'<;>cases f==f'<;>cases g==g'<;>rfl
@[go_sem] theorem adA(obj:Name->Option O)(op:BinOp)(a b c d e f g a' b' c' d' e' f' g':Int):iA Tryz.prog obj op 81 (.agg [vInt a,vInt b,vInt c,vInt d,vInt e,vInt f,vInt g]) (.agg [vInt a',vInt b',vInt c',vInt d',vInt e',vInt f',vInt g'])=
    ⟨op=.eql\/op=.neq,.v (.bool (if op=.eql then(a==a'&&(b==b'&&(c==c'&&(d==d'&&(e==e'&&(f==f'&&g==g'))))))else !(a==a'&&(b==b'&&(c==c'&&(d==d'&&(e==e'&&(f==f'&&g==g')))))))),obj⟩:=by
  unfold iA
  rw[show Op.maxDepth=9998+2 from rfl,VB]
  simp only[Vk,true_and]
theorem JH{l:List Int}{n:Int}:l.contains n=true↔∃ k,∃ (h:k<l.length),l[k]=n:=by
 rw[List.contains_iff_mem]
 constructor
 ·intro h
  obtain⟨k,hk,e⟩:=List.getElem_of_mem h
  exact⟨k,hk,e⟩
 ·rintro⟨k,hk,rfl⟩
  exact List.getElem_mem hk
@[go_sem] def P15:PSpec:=p2 ef iI (fun _ _=>True) (fun l n=>.bool (l.contains n)) true
@[go_sem] def tp:Spec:=P15.toSpec
set_option maxHeartbeats 4000000 in
theorem zX:aT Tryz.prog 15 P15:=by
 refine ev (rs:=[.tmp 4]) Tryz.func15 Tryz.ntmps15 fun l n hp hw=>?_
 simp only[iI,ef]at hw |-
 have hΓ:=@ff Tryz.prog
 have hl:l.length<=maxLen:=by have:=hw.1.1;simpa using this
 repeat refine sq ?_
 refine rs hΓ [0,1] [] ?_
 repeat refine sq ?_
 refine rs hΓ [0,1,5] [] ?_
 repeat refine sq ?_
 refine aS ?_
 repeat refine sq ?_
 refine cM (fun s:Nat=>[(5,⟨true,.v (vInt s)⟩)]) (fun s=>[]) (fun s=>s<=l.length/\∀ k (h:k<l.length),k<s->l[k]≠n) (fun s=>l.length-s) 0 ?_ ?_ ?_ ?_
 ·exact⟨Nat.zero_le _,by simp⟩
 ·rfl
 ·rfl
 rintro i ⟨hi,hR⟩
 simp only[go_sem]
 repeat refine sq ?_
 refine rs hΓ [0,1,5,9] [] ?_
 repeat refine sq ?_
 refine aB (fun hb=>?_) fun hb=>?_
 ·have ab:i<l.length:=by simpa using hb
  have aq:(i:Int)<l.length:=by omega
  clear hb
  repeat refine sq ?_
  refine aF ?_
  repeat refine sq ?_
  refine aS ?_
  repeat refine sq ?_
  refine rx hΓ [0,1,5,17] [] (fun K' hK=>by simp only[go_sem,ah ab,ai,aj,aq];exact fn) ?_
  repeat refine sq ?_
  refine aB (fun hb=>?_) fun hb=>?_
  ·repeat refine sq ?_
   refine rx hΓ [4] [] (fun K' hK=>by simp only[go_sem,ah ab,ai,aj,aq];exact fn) ?_
   refine av ?_
   simp only[go_sem]
   rw[JH.2 ⟨i,ab,by simpa using hb⟩]
  ·repeat refine sq ?_
   refine aF ?_
   refine b9 ?_
   simp only[go_sem]
   refine kp [0,1,5] [] ?_
   repeat refine sq ?_
   refine bc hΓ fun K' hK=>?_
   simp only[go_sem,ah ab,ai,aj,aq]
   repeat (refine⟨ob,?_⟩)
   refine hK _ ?_
   clear K' hK
   simp only[go_sem]
   refine⟨i+1,⟨ab,?_⟩,by(show l.length-(i+1)<l.length-i;omega),?_⟩
   ·intro k hk eh
    rcases Nat.lt_succ_iff_lt_or_eq.1 eh with h5 | rfl
    ·exact hR k hk h5
    ·simpa using hb
   refine bu [0,1,5] [] ?_ ?_<;>simp only[go_sem,bn ab hl,br]
 ·have bF:i=l.length:=by
   have :¬ (i:Int)<l.length:=by simpa using hb
   omega
  clear hb
  subst bF
  repeat refine sq ?_
  refine bW ?_
  simp only[go_sem]
  refine kp [] [] ?_
  repeat refine sq ?_
  refine rs hΓ [4] [] ?_
  refine av ?_
  simp only[go_sem]
  rw[te JH (fun ⟨k,hk,e⟩=>hR k hk hk e)]
def ZY:List (Nat×Spec):=[]
attribute [go_sem] ZY
def ZZ:List (Nat×Spec):=[]
attribute [go_sem] ZZ
end
noncomputable section
theorem aT.conv{P:Program}{f:FuncId}{s s':PSpec}(h:aT P f s)(hf:s'.flat=s.flat)(hp:∀ xs,s'.pre xs->s.pre xs/\s'.fn xs=s.fn xs):aT P f s':=by
 refine⟨h.ne,h.enter,fun ei xs hx=>?_,fun m w xs args hm hx dr=>?_⟩
 ·rw[(hp xs hx).2];exact h.flat (hf▸ei) xs (hp xs hx).1
 ·rw[(hp xs dr).2];exact h.calls m w xs args hm hx (hp xs dr).1
def S132:Spec:=s8 Tryz.prog 29
theorem Ir:aK Tryz.prog 132 S132:=Wn KW
attribute [go_sem] S132
def ZX:List (Nat×Spec):=[(132,S132)]
attribute [go_sem] ZX
def We(l:Led):List (Name×O):=[([8,0],.arr 2 (l.ps.map dv)),([11,0],.arr 7 (l.rs.map encR)),([14,0],.arr 8 (l.ts.map du)),([17,0],.arr 7 (l.ss.map encS))]
def Wf(l:Led):D:=.agg [.msl [8,0] l.ps.length,.msl [11,0] l.rs.length,.msl [14,0] l.ts.length,.msl [17,0] l.ss.length]
attribute [go_sem] We Wf
theorem FW(l:List Pap):∀ y∈l.map dv,y.cells.length=2/\y.okc=true:=by
 intro y hy;obtain⟨x,_,rfl⟩:=List.mem_map.1 hy;exact⟨rfl,rfl⟩
theorem Ar(l:List Rec):∀ y∈l.map encR,y.cells.length=7/\y.okc=true:=by
 intro y hy;obtain⟨x,_,rfl⟩:=List.mem_map.1 hy;exact⟨rfl,rfl⟩
theorem FV(l:List Ret):∀ y∈l.map du,y.cells.length=8/\y.okc=true:=by
 intro y hy;obtain⟨x,_,rfl⟩:=List.mem_map.1 hy;exact⟨rfl,rfl⟩
theorem Aq(l:List Sig):∀ y∈l.map encS,y.cells.length=7/\y.okc=true:=by
 intro y hy;obtain⟨x,_,rfl⟩:=List.mem_map.1 hy;exact⟨rfl,rfl⟩
theorem FZ(l:List Int):∀ y∈l.map vInt,y.cells.length=1/\y.okc=true:=by
 intro y hy;obtain⟨x,_,rfl⟩:=List.mem_map.1 hy;exact⟨rfl,rfl⟩
theorem an{p:Prop}(h:p:=by first | exact FW _ | exact Ar _ | exact FV _ | exact Aq _ | exact FZ _ | ((repeat' apply And.intro)<;>first | rfl | omega | (unfold maxLen;omega) | trivial | decide | exact FW _ | exact Ar _ | exact FV _ | exact Aq _ | exact FZ _) | exact ob):p:=h
theorem ak{p:Prop}(h:p:=by(repeat (refine⟨an,?_⟩));exact hK _ (by simp only[go_sem]) (by simp only[go_sem]<;>rfl)):p:=h
theorem sO{p:Prop}(h:p:=by(repeat (refine⟨an,?_⟩));(first | refine⟨by rfl,?_⟩ | skip);exact hK _ (by simp only[go_sem]) (by simp only[go_sem]<;>rfl)):p:=h
end
noncomputable section
def oV:En (Nat×Int):=⟨fun g=>.clo (.func g.1) [] [.ptr [vInt g.2]],fun v=>match v with | .clo (.func g) _ [.ptr [.int _ s]]=>(g,s) | _=>default⟩
def nM:En Int:=⟨fun s=>.ptr [vInt s],fun v=>match v with | .ptr [.int _ s]=>s | _=>0⟩
attribute [go_sem] oV nM
@[go_sem] def P171:PSpec:=p2 iR nM (fun _ _=>True) (fun x s=>.bool (x.so==s)) true
@[go_sem] def S171:Spec:=P171.toSpec
theorem Ow:aT Tryz.prog 171 P171:=by
 refine ev (rs:=[.tmp 3]) Tryz.func171 Tryz.ntmps171 fun x s hp hw=>?_
 simp only[nM,iR,encR]at hw |-
 have hΓ:=@ff Tryz.prog
 repeat refine sq ?_
 refine rx hΓ [1,2] [[2,0]] (fun K' hK=>by simp only[go_sem];exact ak) ?_
 repeat refine sq ?_
 refine rx hΓ [3] [] (fun K' hK=>by simp only[go_sem];exact ak) ?_
 refine av ?_
 simp only[go_sem]
 all_goals exact dM
@[go_sem] def P167:PSpec:=p2 iR nM (fun _ _=>True) (fun x s=>.bool (x.so==s)) true
@[go_sem] def Mh:Spec:=P167.toSpec
theorem Oz:aT Tryz.prog 167 P167:=by
 refine ev (rs:=[.tmp 3]) Tryz.func167 Tryz.ntmps167 fun x s hp hw=>?_
 simp only[nM,iR,encR]at hw |-
 have hΓ:=@ff Tryz.prog
 repeat refine sq ?_
 refine rx hΓ [1,2] [[2,0]] (fun K' hK=>by simp only[go_sem];exact ak) ?_
 repeat refine sq ?_
 refine rx hΓ [3] [] (fun K' hK=>by simp only[go_sem];exact ak) ?_
 refine av ?_
 simp only[go_sem]
 all_goals exact dM
@[go_sem] def P92:PSpec:=p2 iS nM (fun _ _=>True) (fun x s=>.bool (x.so==s)) true
@[go_sem] def XP:Spec:=P92.toSpec
theorem N0:aT Tryz.prog 92 P92:=by
 refine ev (rs:=[.tmp 3]) Tryz.func92 Tryz.ntmps92 fun x s hp hw=>?_
 simp only[nM,iS,encS]at hw |-
 have hΓ:=@ff Tryz.prog
 repeat refine sq ?_
 refine rx hΓ [1,2] [[2,0]] (fun K' hK=>by simp only[go_sem];exact ak) ?_
 repeat refine sq ?_
 refine rx hΓ [3] [] (fun K' hK=>by simp only[go_sem];exact ak) ?_
 refine av ?_
 simp only[go_sem]
 all_goals exact dM
def di{α:Type}(p:α->Bool)(l:List α):Int:=if l.any p then(l.findIdx p:Int)else -1
theorem qc{α:Type}{p:α->Bool}{l:List α}{i:Nat}(h:i<l.length)(hp:p l[i]=true)(hn:∀ k (hk:k<l.length),k<i->p l[k]=false):di p l=i:=by
 unfold di
 rw[if_pos (List.any_eq_true.2 ⟨_,List.getElem_mem h,hp⟩)]
 congr 1
 rw[List.findIdx_eq h]
 exact⟨hp,fun j hj=>hn j (by omega) hj⟩
theorem uA{α:Type}{p:α->Bool}{l:List α}(hn:∀ k (hk:k<l.length),p l[k]=false):di p l= -1:=by
 unfold di
 rw[if_neg]
 intro h
 obtain⟨x,hx,hp⟩:=List.any_eq_true.1 h
 obtain⟨k,hk,rfl⟩:=List.getElem_of_mem hx
 rw[hn k hk]at hp;cases hp
theorem uB{α:Type}(p:α->Bool)(l:List α):decide (di p l>=0)=l.any p:=by
 unfold di
 cases l.any p with
 |true=>simp
 |false=>simp
def K12a:List (Nat×Spec):=[(171,S171),(167,Mh)]
theorem ZV:KS K12a:=tc Ow.sound<|tc Oz.sound<|tn
attribute [go_sem] K12a
def Mx:FuncId->Option Spec:=tbl K12a
theorem ZT:∀ f s,Mx f=some s->aK Tryz.prog f s:=ZV
@[go_sem] theorem adE:Mh=S171:=rfl
@[go_sem] def P166:PSpec:=p2 (eX iR) oV (fun _ g=>g.1=171\/g.1=167) (fun l g=>vInt (di (fun x=>Rec.so x==g.2) l)) true
@[go_sem] def Mi:Spec:=P166.toSpec
set_option maxHeartbeats 4000000 in
theorem OA:aT Tryz.prog 166 P166:=by
 refine ev (rs:=[.tmp 4]) Tryz.func166 Tryz.ntmps166 fun l g hp hw=>?_
 simp only[oV,iR,eX,encR]at hw |-
 have hΓ:=ZT
 have hl:l.length<=maxLen:=by have:=hw.1.1;simpa using this
 obtain⟨g,s_⟩:=g
 try simp only[oV]at hw hp |-
 have hg:Mx g=some S171:=by rcases hp with rfl | rfl<;>rfl
 have TV:¬ g=1000000000:=by omega
 repeat refine sq ?_
 refine rx hΓ [0,1] [] (fun K' hK=>by simp only[go_sem];exact ak) ?_
 repeat refine sq ?_
 refine rx hΓ [0,1,7,8] [] (fun K' hK=>by simp only[go_sem];exact ak) ?_
 repeat refine sq ?_
 refine aS ?_
 repeat refine sq ?_
 refine cM (fun s:Nat=>[(8,⟨true,.v (vInt s)⟩)]) (fun s=>[]) (fun s=>s<=l.length/\∀ k (h:k<l.length),k<s->(fun x:Rec=>Rec.so x==s_) l[k]=false) (fun s=>l.length-s) 0 ?_ ?_ ?_ ?_
 ·exact⟨Nat.zero_le _,by simp⟩
 ·rfl
 ·rfl
 rintro i ⟨hi,hR⟩
 simp only[go_sem]
 repeat refine sq ?_
 refine rx hΓ [0,1,7,8,9] [] (fun K' hK=>by simp only[go_sem];exact ak) ?_
 repeat refine sq ?_
 refine aB (fun hb=>?_) fun hb=>?_
 ·have ab:i<l.length:=by simpa using hb
  have aq:(i:Int)<l.length:=by omega
  clear hb
  repeat refine sq ?_
  refine aF ?_
  repeat refine sq ?_
  refine aS ?_
  repeat refine sq ?_
  refine rx hΓ [0,1,5,7,8] [] (fun K' hK=>by simp only[go_sem,ah ab,ai,aj,aq];exact ak) ?_
  repeat refine sq ?_
  refine rx hΓ [0,1,5,7,8,16] [] (fun K' hK=>by simp only[go_sem,ah ab,ai,aj,aq,hg,TV];exact ak) ?_
  repeat refine sq ?_
  refine aB (fun hb=>?_) fun hb=>?_
  ·repeat refine sq ?_
   refine rx hΓ [4] [] (fun K' hK=>by simp only[go_sem,ah ab,ai,aj,aq];exact ak) ?_
   refine av ?_
   simp only[go_sem]
   rw[qc (p:=fun x=>Rec.so x==s_) ab (by simpa using hb) hR]
  ·repeat refine sq ?_
   refine aF ?_
   refine b9 ?_
   simp only[go_sem]
   refine kp [0,1,7,8] [] ?_
   repeat refine sq ?_
   refine bc hΓ fun K' hK=>?_
   simp only[go_sem,ah ab,ai,aj,aq]
   repeat (refine⟨an,?_⟩)
   refine hK _ ?_
   clear K' hK
   simp only[go_sem]
   refine⟨i+1,⟨ab,?_⟩,by(show l.length-(i+1)<l.length-i;omega),?_⟩
   ·intro k hk eh
    rcases Nat.lt_succ_iff_lt_or_eq.1 eh with h5 | rfl
    ·exact hR k hk h5
    ·simpa using hb
   refine bu [0,1,7,8] [] ?_ ?_<;>simp only[go_sem,bn ab hl,br]
 ·have bF:i=l.length:=by
   have :¬ (i:Int)<l.length:=by simpa using hb
   omega
  clear hb
  subst bF
  repeat refine sq ?_
  refine bW ?_
  simp only[go_sem]
  refine kp [] [] ?_
  repeat refine sq ?_
  refine rx hΓ [4] [] (fun K' hK=>by simp only[go_sem];exact ak) ?_
  refine av ?_
  simp only[go_sem]
  rw[uA (p:=fun x=>Rec.so x==s_) fun k hk=>hR k hk hk]
@[go_sem] def Yl:PSpec:=p2 (eX iS) oV (fun _ g=>g.1=175) (fun l g=>vInt (di (fun x=>Sig.so x==g.2) l)) true
@[go_sem] def X5:Spec:=Yl.toSpec
def ZU:List (Nat×Spec):=[(166,Mi),(181,X5)]
attribute [go_sem] ZU
def ZW:List (Nat×Spec):=[]
attribute [go_sem] ZW
end
noncomputable section
attribute [go_sem] SI
def ZS:List (Nat×Spec):=[(37,DG),(67,Mc),(79,vN)]
attribute [go_sem] ZS
end
noncomputable section
def ZR:List (Nat×Spec):=[(15,tp)]
attribute [go_sem] ZR
end
structure Vw where
 l:Led
 rs:List Rec
 ts:List Int
 bk:List ((Int×Int)×Int)
 ds:List (Int×(Int×Int))
 deriving Inhabited
def bM(b:List ((Int×Int)×Int)):List (V×V):=b.map fun q=>(.agg [vInt q.1.1,vInt q.1.2],vInt q.2)
def Ky:V->Int×Int
 | .agg [.int _ a,.int _ b]=>(a,b)
 |_=>(0,0)
def yt(es:List (V×V)):List ((Int×Int)×Int):=es.map fun q=>(Ky q.1,jb q.2)
def bB(d:List (Int×(Int×Int))):List (V×V):=d.map fun q=>(vInt q.1,.agg [vInt q.2.1,vInt q.2.2])
def C0(es:List (V×V)):List (Int×(Int×Int)):=es.map fun q=>(jb q.1,Ky q.2)
@[go_sem] theorem C1(b:List ((Int×Int)×Int)):yt (bM b)=b:=by
  unfold yt bM
  rw[List.map_map]
  exact List.map_id _
@[go_sem] theorem CZ(b:List (Int×(Int×Int))):C0 (bB b)=b:=by
  unfold C0 bB
  rw[List.map_map]
  exact List.map_id _
def bq(x:Vw)(nb nd:Name):O:=.box [.v (ja x.l),.v (.sl (x.rs.map encR)),.v (.sl (x.ts.map vInt)),.map nb,.map nd]
def sV(lp:V)(rs ts:List V)(eb ed:List (V×V)):Vw:=⟨yr lp,rs.map jH,ts.map jb,yt eb,C0 ed⟩
theorem VS(x:Vw):sV (ja x.l) (x.rs.map encR) (x.ts.map vInt) (bM x.bk) (bB x.ds)=x:=by
 obtain⟨⟨p,r,t,s⟩,rs,ts,bk,ds⟩:=x
 simp only[sV,ja,yr,Kw,yp,Ku,qS,oe,C1,CZ]
def gM(obj:Name->Option O)(nv:Name):Option (Name×Name×Vw):=match obj nv with
 |some (.box [.v lp,.v (.sl rs),.v (.sl ts),.map nb,.map nd])=>match obj nb,obj nd with
  |some (.map 2 eb),some (.map 0 ed)=>some (nb,nd,sV lp rs ts eb ed)
  |_,_=>none
 |_=>none
def mC(obj:Name->Option O)(nv nb nd:Name)(x:Vw):Prop:=
 obj nv=some (bq x nb nd)/\obj nb=some (.map 2 (bM x.bk))/\obj nd=some (.map 0 (bB x.ds))/\(nv==nb)=false/\(nv==nd)=false/\(nb==nd)=false
structure VSpec where
 pre:Vw->List V->Prop
 val:Vw->List V->D
 wr:Option (Vw->List V->List (Int×(Int×Int)))
def VSpec.app(s:VSpec)(obj:Name->Option O)(t:Name)(ds:List D):R:=match ds with
 | .ref nv 0::r=>match gM obj nv,kq r with
   |some (nb,nd,x),some xs=>⟨mC obj nv nb nd x/\s.pre x xs,(s.val x xs).ren (cout [nv,nb,nd] t),match s.wr with | none=>obj | some f=>upd obj nd (some (.map 0 (bB (f x xs))))⟩
   |_,_=>.bad obj
 |_=>.bad obj
def VSpec.foot(_:VSpec)(obj:Name->Option O)(_:Name)(ds:List D):List Name:=match ds with
 | .ref nv _::_=>nv::(match obj nv with | some (.box [_,_,_,.map nb,.map nd])=>[nb,nd] | _=>[])
 |_=>[]
def VSpec.toSpec(s:VSpec):Spec:=⟨s.app,s.foot,s.foot⟩
theorem VSpec.near(s:VSpec):s.toSpec.Near:=by
 refine t' fun obj obj2 t ds ha=>?_
 match ds with
 | .ref nv off::r=>
   have h1:obj2 nv=obj nv:=ha nv (by simp[VSpec.foot])
   refine⟨by simp only[VSpec.foot,h1],?_⟩
   cases off with
   |succ k=>exact .none _ ha
   |zero=>
    have fJ:bK (R.bad obj) (R.bad obj2) obj obj2 (s.foot obj t (.ref nv 0::r)):=.none _ ha
    by_cases hg:∃ a b c nb nd,obj nv=some (.box [a,b,c,.map nb,.map nd])
    ·obtain⟨a,b,c,nb,nd,hb⟩:=hg
     have ir:obj2 nb=obj nb:=ha nb (by simp[VSpec.foot,hb])
     have ka:obj2 nd=obj nd:=ha nd (by simp[VSpec.foot,hb])
     have TW:gM obj2 nv=gM obj nv:=by
      unfold gM
      rw[h1,hb]
      split<;>first | rfl | (rename_i e;cases e;rw[ir,ka])
     have b7:∀ sg sf x,gM obj nv=some (sg,sf,x)->sg=nb/\sf=nd:=by
      intro sg sf x h
      unfold gM at h
      rw[hb]at h
      split at h
      ·rename_i e
       cases e
       split at h
       ·cases h;exact⟨rfl,rfl⟩
       ·cases h
      ·cases h
     show bK (s.app obj t (.ref nv 0::r)) (s.app obj2 t (.ref nv 0::r)) obj obj2 _
     unfold VSpec.app
     simp only[TW]
     split
     ·rename_i sg sf x xs hx xn
      obtain⟨rfl,rfl⟩:=b7 _ _ _ hx
      have aa:mC obj2 nv sg sf x=mC obj nv sg sf x:=by unfold mC;rw[h1,ir,ka]
      rw[aa]
      cases s.wr with
      |none=>exact .none _ ha
      |some f=>exact .one (by simp[VSpec.foot,hb]) ha
     ·exact fJ
    ·have e1:gM obj nv=none:=by
       unfold gM
       split
       ·rename_i h;exact(hg ⟨_,_,_,_,_,h⟩).elim
       ·rfl
     have e2:gM obj2 nv=none:=by
      unfold gM
      rw[h1]
      split
      ·rename_i h;exact(hg ⟨_,_,_,_,_,h⟩).elim
      ·rfl
     show bK (s.app obj t (.ref nv 0::r)) (s.app obj2 t (.ref nv 0::r)) obj obj2 _
     unfold VSpec.app
     simp only[e1,e2]
     exact fJ
 |[]=>exact⟨rfl,.none _ ha⟩
 | .v _::_=>exact⟨rfl,.none _ ha⟩
 | .nilsl::_=>exact⟨rfl,.none _ ha⟩
 | .nilmap::_=>exact⟨rfl,.none _ ha⟩
 | .msl _ _::_=>exact⟨rfl,.none _ ha⟩
 | .aref _ _ _ _::_=>exact⟨rfl,.none _ ha⟩
 | .map _::_=>exact⟨rfl,.none _ ha⟩
 | .yld _::_=>exact⟨rfl,.none _ ha⟩
 | .clo _ _ _::_=>exact⟨rfl,.none _ ha⟩
 | .agg _::_=>exact⟨rfl,.none _ ha⟩
 | .tup _::_=>exact⟨rfl,.none _ ha⟩
 | .any::_=>exact⟨rfl,.none _ ha⟩
def VSpec.c(s:VSpec):CSpec where
 pre:=fun os ds=>∃ (x:Vw) (xs:List V),os=[bq x [1,1] [2,1],.map 2 (bM x.bk),.map 0 (bB x.ds)]/\ds=.ref [0,1] 0::xs.map .v/\s.pre x xs
 out:=fun os ds=>match os,ds with
  |[.box [.v lp,.v (.sl rs),.v (.sl ts),_,_],.map _ eb,.map _ ed],_::r=>match kq r with
   |some xs=>⟨match s.wr with | none=>[] | some f=>[(2,.map 0 (bB (f (sV lp rs ts eb ed) xs)))],[],s.val (sV lp rs ts eb ed) xs⟩
   |none=>⟨[],[],.any⟩
  |_,_=>⟨[],[],.any⟩
theorem VSpec.c_out(s:VSpec)(x:Vw)(xs:List V):s.c.out [bq x [1,1] [2,1],.map 2 (bM x.bk),.map 0 (bB x.ds)] (.ref [0,1] 0::xs.map .v)=
 ⟨match s.wr with | none=>[] | some f=>[(2,.map 0 (bB (f x xs)))],[],s.val x xs⟩:=by
 simp only[VSpec.c,bq,y8,VS]
theorem Fh{obj:Name->Option O}{nv nb nd:Name}{x:Vw}(h:mC obj nv nb nd x)(xs:List V):reach obj (.ref nv 0::xs.map .v)=[nv,nb,nd]:=by
 obtain⟨h1,h2,h3,h4,h5,h6⟩:=h
 unfold reach
 have e:cP (.ref nv 0::xs.map .v)=[nv]:=by simp only[cP,kL,AI,List.append_nil]
 rw[e]
 show dd obj (2996+1+1+1+1) [nv] []=[nv,nb,nd]
 simp only[dd,cG,List.any_nil,Bool.false_eq_true,if_false,h1,bq,kK,cP,kL,List.nil_append,List.append_nil,List.any_cons,h4,h5,h6,Bool.or_false,h2,h3,List.cons_append]
theorem VSpec.sound{P:Program}{f:FuncId}{s:VSpec}(h:aK P f s.c.toSpec)(aC:f≠yid):aK P f s.toSpec:=by
 refine tK h s.near aC fun obj t ds aa=>?_
 have ez:(s.app obj t ds).ok:=aa
 show ∃ kW,_/\_/\_/\_=(s.app obj t ds).d/\_=(s.app obj t ds).obj
 unfold VSpec.app at ez |-
 split at ez
 ·rename_i nv r
  split at ez
  ·rename_i nb nd x xs vd xn
   obtain⟨hv,hp⟩:=ez
   have hlen:=Dz xn
   have qf:=hv
   obtain⟨h1,h2,h3,h4,h5,h6⟩:=qf
   have n4:nv≠nb:=by simpa using h4
   have n5:nv≠nd:=by simpa using h5
   have n6:nb≠nd:=by simpa using h6
   have hr:=Fh hv xs
   have i0:idx [nv,nb,nd] nv=0:=by simp[idx]
   have i1:idx [nv,nb,nd] nb=1:=by simp[idx,n4]
   have i2:idx [nv,nb,nd] nd=2:=by simp[idx,n5,n6]
   have e1:cg obj (.ref nv 0::xs.map .v)=[bq x [1,1] [2,1],.map 2 (bM x.bk),.map 0 (bB x.ds)]:=by
    unfold cg
    rw[hr]
    simp only[List.map_cons,List.map_nil,cm,h1,h2,h3,bq,O.ren,D.renL,D.ren,cin,i1,i2]
   have e2:cN obj (.ref nv 0::xs.map .v)=.ref [0,1] 0::xs.map .v:=by
    unfold cN
    rw[hr]
    simp only[D.renL,D.ren,cin,i0,Aa]
   have e5:(shut obj [nv,nb,nd]&&D.closL (cG [nv,nb,nd]) (.ref nv 0::xs.map .v)&&fresh obj t [])=true:=by
    simp[shut,h1,h2,h3,bq,O.clos,D.closL,D.clos,cG,fresh,Db]
   refine⟨.ref nv 0::xs.map .v,by simpa using hlen,fun φ m us hl o0 i a b=>?_,?_⟩
   ·cases i with
    |zero=>exact o0 0 (by simp) b
    |succ i=>
     simp only[List.length_cons,List.length_map]at a
     simp only[List.getElem_cons_succ,List.getElem_map]
     exact .v _ _ (Dy xn i (by omega) (by omega) _ (by have:=o0 (i+1) (by simp;omega) b;simpa using this))
   ·have e4:s.c.pre [bq x [1,1] [2,1],.map 2 (bM x.bk),.map 0 (bB x.ds)] (.ref [0,1] 0::xs.map .v):=⟨x,xs,rfl,rfl,hp⟩
    simp only[CSpec.toSpec,e1,e2,hr,s.c_out,e4,e5,vd,xn,and_self,c9]
    refine⟨trivial,trivial,?_⟩
    cases s.wr with
    |none=>rfl
    |some f=>simp only[cj,O.ren,List.getD_cons_zero,List.getD_cons_succ]
  ·exact ez.elim
 ·exact ez.elim
def tQ(P:Program)(rs:List ResultVar)(x:Vw)(d:D)(w:Option (List (Int×(Int×Int)))):Exit->S->Prop
 | .normal,σ=>(bI P σ rs).ok/\(bI P σ rs).d=d/\σ.obj [0,1]=some (bq x [1,1] [2,1])/\σ.obj [1,1]=some (.map 2 (bM x.bk))/\σ.obj [2,1]=some (.map 0 (bB (w.getD x.ds)))
 | .ret,σ=>(bI P σ rs).ok/\(bI P σ rs).d=d/\σ.obj [0,1]=some (bq x [1,1] [2,1])/\σ.obj [1,1]=some (.map 2 (bM x.bk))/\σ.obj [2,1]=some (.map 0 (bB (w.getD x.ds)))
 |_,_=>False
theorem zA{P:Program}{f:FuncId}{fn:Func}{nt:Nat}{rs:List ResultVar}{s:VSpec}(hf:P.funcs[f]?=some fn)(cJ:fn.ntmps=nt)(bY:fn.results.toList=rs)(hn:(fn.name== "runtime.NumGoroutine")=false)(hy:f<1000000000)(cb:∀ x xs,s.pre x xs->D.clos (fun _=>false) (s.val x xs)=true)
 (hb:∃ c,fn.body=some c/\∀ x xs,s.pre x xs->xs.length+1<=nt/\∀ H:Name->Option O,H [0,1]=some (bq x [1,1] [2,1])->H [1,1]=some (.map 2 (bM x.bk))->H [2,1]=some (.map 0 (bB x.ds))->
   (∀ hs,bU [0] (bP [0] hs) H=True)->(∀ hs es,bU [0] (bP [0] hs) (fun nm=>if nm=[2,1]then some (.map 0 es)else H nm)=True)->
   CL P [c] (bb nt [0] H (cY 0 (.ref [0,1] 0::xs.map .v)) []) (tQ P rs x (s.val x xs) (s.wr.map fun f=>f x xs))):aK P f s.toSpec:=by
 obtain⟨c,hc,h⟩:=hb
 have aC:f≠yid:=Nat.ne_of_lt (show f<yid from hy)
 refine VSpec.sound (mS hf hc cJ bY (gn hf hc hn) aC ?_) aC
 rintro os ds ⟨x,xs,rfl,rfl,hp⟩
 obtain⟨h1,h2⟩:=h x xs hp
 refine⟨by simpa using h1,?_⟩
 have hO:∀ hs,bU [0] (bP [0] hs) (aQ [bq x [1,1] [2,1],.map 2 (bM x.bk),.map 0 (bB x.ds)]):=fun hs=>nz (by
  intro o ho dom hd
  simp only[List.mem_cons,List.not_mem_nil,or_false]at ho
  rcases ho with rfl | rfl | rfl
  ·simp[bq,O.clos,D.closL,D.clos,hd]
  ·rfl
  ·rfl) hs
 have :=h2 (aQ [bq x [1,1] [2,1],.map 2 (bM x.bk),.map 0 (bB x.ds)]) rfl rfl rfl (fun hs=>eq_true (hO hs)) (fun hs es=>eq_true (ru (nm:=[2,1]) (o:=.map 0 es) rfl (hO hs)))
 refine CW.mono (iw this) fun e σ hk=>?_
 rw[s.c_out]
 have key:(bI P σ rs).ok/\(bI P σ rs).d=s.val x xs/\σ.obj [0,1]=some (bq x [1,1] [2,1])/\σ.obj [1,1]=some (.map 2 (bM x.bk))/\σ.obj [2,1]=some (.map 0 (bB ((s.wr.map fun f=>f x xs).getD x.ds)))->
     (bI P σ rs).ok/\(bI P σ rs).d=s.val x xs/\fx [bq x [1,1] [2,1],.map 2 (bM x.bk),.map 0 (bB x.ds)] ⟨match s.wr with | none=>[] | some f=>[(2,.map 0 (bB (f x xs)))],[],s.val x xs⟩ σ:=by
  rintro⟨k1,k2,k3,k4,k5⟩
  refine⟨k1,k2,?_⟩
  have hd:=clos_imp (dom:=fun _=>false) (dom':=cS 3 []) (fun _ h=>by cases h) _ (cb x xs hp)
  cases hw:s.wr with
  |none=>
   rw[hw]at k5
   refine⟨⟨k3,k4,k5,trivial⟩,trivial,?_⟩
   show (D.clos (cS 3 []) (s.val x xs)&&_&&_&&_)=true
   rw[hd];rfl
  |some f=>
   rw[hw]at k5
   refine⟨⟨k3,k4,k5,trivial⟩,trivial,?_⟩
   show (D.clos (cS 3 []) (s.val x xs)&&_&&_&&_)=true
   rw[hd];rfl
 cases e with
 |normal=>exact key hk
 |ret=>exact key hk
 |_=>exact hk.elim
def v0(p:Vw->Prop)(g:Vw->D)(w:Option (Vw->List (Int×(Int×Int)))):VSpec:=
 ⟨fun x xs=>match xs with | []=>p x | _=>False,fun x xs=>match xs with | []=>g x | _=>.any,w.map fun w x xs=>match xs with | []=>w x | _=>[]⟩
theorem D7{p:Vw->Prop}{g:Vw->D}{w:Option (Vw->List (Int×(Int×Int)))}{x:Vw}{xs:List V}(h:(v0 p g w).pre x xs):
 xs=[]/\p x/\(v0 p g w).val x xs=g x/\((v0 p g w).wr.map fun f=>f x xs)=w.map fun w=>w x:=by
 unfold v0 at h
 simp only at h
 split at h
 ·exact⟨rfl,h,rfl,by cases w<;>rfl⟩
 ·exact h.elim
def v1{α:Type}(A:En α)(p:Vw->α->Prop)(g:Vw->α->D)(w:Option (Vw->α->List (Int×(Int×Int)))):VSpec:=
 ⟨fun x xs=>match xs with | [a]=>A.enc (A.dec a)=a/\p x (A.dec a) | _=>False,fun x xs=>match xs with | [a]=>g x (A.dec a) | _=>.any,w.map fun w x xs=>match xs with | [a]=>w x (A.dec a) | _=>[]⟩
theorem D6{α:Type}{A:En α}{p:Vw->α->Prop}{g:Vw->α->D}{w:Option (Vw->α->List (Int×(Int×Int)))}{x:Vw}{xs:List V}(h:(v1 A p g w).pre x xs):
 ∃ a,xs=[A.enc a]/\p x a/\(v1 A p g w).val x xs=g x a/\((v1 A p g w).wr.map fun f=>f x xs)=w.map fun w=>w x a:=by
 unfold v1 at h
 simp only at h
 split at h
 ·exact⟨_,by rw[h.1],h.2,rfl,by cases w<;>rfl⟩
 ·exact h.elim
def v2{α β:Type}(A:En α)(B:En β)(p:Vw->α->β->Prop)(g:Vw->α->β->D)(w:Option (Vw->α->β->List (Int×(Int×Int)))):VSpec:=
 ⟨fun x xs=>match xs with | [a,b]=>A.enc (A.dec a)=a/\B.enc (B.dec b)=b/\p x (A.dec a) (B.dec b) | _=>False,fun x xs=>match xs with | [a,b]=>g x (A.dec a) (B.dec b) | _=>.any,w.map fun w x xs=>match xs with | [a,b]=>w x (A.dec a) (B.dec b) | _=>[]⟩
theorem D5{α β:Type}{A:En α}{B:En β}{p:Vw->α->β->Prop}{g:Vw->α->β->D}{w:Option (Vw->α->β->List (Int×(Int×Int)))}{x:Vw}{xs:List V}(h:(v2 A B p g w).pre x xs):
 ∃ a b,xs=[A.enc a,B.enc b]/\p x a b/\(v2 A B p g w).val x xs=g x a b/\((v2 A B p g w).wr.map fun f=>f x xs)=w.map fun w=>w x a b:=by
 unfold v2 at h
 simp only at h
 split at h
 ·exact⟨_,_,by rw[h.1,h.2.1],h.2.2,rfl,by cases w<;>rfl⟩
 ·exact h.elim
def v3{α β γ:Type}(A:En α)(B:En β)(C:En γ)(p:Vw->α->β->γ->Prop)(g:Vw->α->β->γ->D)(w:Option (Vw->α->β->γ->List (Int×(Int×Int)))):VSpec:=
 ⟨fun x xs=>match xs with | [a,b,c]=>A.enc (A.dec a)=a/\B.enc (B.dec b)=b/\C.enc (C.dec c)=c/\p x (A.dec a) (B.dec b) (C.dec c) | _=>False,fun x xs=>match xs with | [a,b,c]=>g x (A.dec a) (B.dec b) (C.dec c) | _=>.any,w.map fun w x xs=>match xs with | [a,b,c]=>w x (A.dec a) (B.dec b) (C.dec c) | _=>[]⟩
section
variable {P:Program} {f:FuncId} {fn:Func} {nt:Nat} {rs:List ResultVar}
theorem MX{p:Vw->Prop}{g:Vw->D}{w:Option (Vw->List (Int×(Int×Int)))}(hf:P.funcs[f]?=some fn)(cJ:fn.ntmps=nt)(bY:fn.results.toList=rs)(hn:(fn.name== "runtime.NumGoroutine")=false)(hy:f<1000000000)(cb:∀ x,D.clos (fun _=>false) (g x )=true)
 (hb:∃ cc,fn.body=some cc/\1<=nt/\∀ x,p x->∀ H:Name->Option O,H [0,1]=some (bq x [1,1] [2,1])->H [1,1]=some (.map 2 (bM x.bk))->H [2,1]=some (.map 0 (bB x.ds))->
   (∀ hs,bU [0] (bP [0] hs) H=True)->(∀ hs es,bU [0] (bP [0] hs) (fun nm=>if nm=[2,1]then some (.map 0 es)else H nm)=True)->
   CL P [cc] (bb nt [0] H (cY 0 (.ref [0,1] 0::[].map .v)) []) (tQ P rs x (g x ) (w.map fun w=>w x ))):aK P f (v0 p g w).toSpec:=by
 obtain⟨cc,hc,h1,h⟩:=hb
 refine zA hf cJ bY hn hy (fun x xs hp=>by
  obtain⟨rfl,_,hg,_⟩:=D7 hp
  rw[hg];exact cb x ) ⟨cc,hc,fun x xs hp=>?_⟩
 obtain⟨rfl,hp,hg,hw⟩:=D7 hp
 rw[hg,hw]
 exact⟨h1,h x hp⟩
theorem vZ{α:Type}{A:En α}{p:Vw->α->Prop}{g:Vw->α->D}{w:Option (Vw->α->List (Int×(Int×Int)))}(hf:P.funcs[f]?=some fn)(cJ:fn.ntmps=nt)(bY:fn.results.toList=rs)(hn:(fn.name== "runtime.NumGoroutine")=false)(hy:f<1000000000)(cb:∀ x a,D.clos (fun _=>false) (g x a)=true)
 (hb:∃ cc,fn.body=some cc/\2<=nt/\∀ x a,p x a->∀ H:Name->Option O,H [0,1]=some (bq x [1,1] [2,1])->H [1,1]=some (.map 2 (bM x.bk))->H [2,1]=some (.map 0 (bB x.ds))->
   (∀ hs,bU [0] (bP [0] hs) H=True)->(∀ hs es,bU [0] (bP [0] hs) (fun nm=>if nm=[2,1]then some (.map 0 es)else H nm)=True)->
   CL P [cc] (bb nt [0] H (cY 0 (.ref [0,1] 0::[A.enc a].map .v)) []) (tQ P rs x (g x a) (w.map fun w=>w x a))):aK P f (v1 A p g w).toSpec:=by
 obtain⟨cc,hc,h1,h⟩:=hb
 refine zA hf cJ bY hn hy (fun x xs hp=>by
  obtain⟨a,rfl,_,hg,_⟩:=D6 hp
  rw[hg];exact cb x a) ⟨cc,hc,fun x xs hp=>?_⟩
 obtain⟨a,rfl,hp,hg,hw⟩:=D6 hp
 rw[hg,hw]
 exact⟨h1,h x a hp⟩
theorem zz{α β:Type}{A:En α}{B:En β}{p:Vw->α->β->Prop}{g:Vw->α->β->D}{w:Option (Vw->α->β->List (Int×(Int×Int)))}(hf:P.funcs[f]?=some fn)(cJ:fn.ntmps=nt)(bY:fn.results.toList=rs)(hn:(fn.name== "runtime.NumGoroutine")=false)(hy:f<1000000000)(cb:∀ x a b,D.clos (fun _=>false) (g x a b)=true)
 (hb:∃ cc,fn.body=some cc/\3<=nt/\∀ x a b,p x a b->∀ H:Name->Option O,H [0,1]=some (bq x [1,1] [2,1])->H [1,1]=some (.map 2 (bM x.bk))->H [2,1]=some (.map 0 (bB x.ds))->
   (∀ hs,bU [0] (bP [0] hs) H=True)->(∀ hs es,bU [0] (bP [0] hs) (fun nm=>if nm=[2,1]then some (.map 0 es)else H nm)=True)->
   CL P [cc] (bb nt [0] H (cY 0 (.ref [0,1] 0::[A.enc a,B.enc b].map .v)) []) (tQ P rs x (g x a b) (w.map fun w=>w x a b))):aK P f (v2 A B p g w).toSpec:=by
 obtain⟨cc,hc,h1,h⟩:=hb
 refine zA hf cJ bY hn hy (fun x xs hp=>by
  obtain⟨a,b,rfl,_,hg,_⟩:=D5 hp
  rw[hg];exact cb x a b) ⟨cc,hc,fun x xs hp=>?_⟩
 obtain⟨a,b,rfl,hp,hg,hw⟩:=D5 hp
 rw[hg,hw]
 exact⟨h1,h x a b hp⟩
end
attribute [go_sem] v0 v1 v2 v3 tQ Option.map_some Option.map_none Option.getD_some Option.getD_none
attribute [go_sem] VSpec.toSpec VSpec.app gM mC bq sV
noncomputable section
def K16:List (Nat×Spec):=[(166,Mi)]
theorem Mw:KS K16:=tc OA.sound<|tn
attribute [go_sem] K16
def zeroR:Rec:=⟨0,0,0,[],0,0,0⟩
def fB(r:Rec):D:=.agg [.v (vInt r.so),.v (vInt r.bo),.v (vInt r.pa),.v (.sl (r.lv.map vInt)),.v (vInt r.da),.v (vInt r.kn),.v (vInt r.un)]
attribute [go_sem] fB
def lF:Option Rec->D
 |some r=>fB r
 |none=>.agg [.v (vInt 0),.v (vInt 0),.v (vInt 0),.nilsl,.v (vInt 0),.v (vInt 0),.v (vInt 0)]
theorem lE(r:Option Rec)(p:Name->Bool):D.clos p (lF r)=true:=by cases r<;>rfl
def cV(l:List Rec)(s:Int):Option Rec:=l.find? fun r=>r.so==s
theorem Fp{l:List Rec}{s:Int}(h:di (fun x=>x.so==s) l<0):cV l s=none:=by
 unfold cV
 rw[List.find?_eq_none]
 intro x hx hp
 unfold di at h
 rw[if_pos (List.any_eq_true.2 ⟨x,hx,hp⟩)]at h
 omega
theorem Fo{l:List Rec}{s:Int}(h:¬ di (fun x=>x.so==s) l<0):∃ (i:Nat) (hi:i<l.length),di (fun x=>x.so==s) l=i/\cV l s=some l[i]:=by
 unfold di at h |-
 split at h
 ·rename_i i6
  have ab:l.findIdx (fun x=>x.so==s)<l.length:=List.findIdx_lt_length_of_exists (by obtain⟨x,hx,hp⟩:=List.any_eq_true.1 i6;exact⟨x,hx,hp⟩)
  rw[if_pos i6]
  refine⟨_,ab,rfl,?_⟩
  unfold cV
  rw[List.find?_eq_some_iff_getElem]
  exact⟨List.findIdx_getElem (w:=ab),_,ab,rfl,fun j hj=>by simpa using List.not_of_lt_findIdx hj⟩
 ·omega
def L3:VSpec:=v1 iI (fun _ _=>True) (fun x s=>.tup [lF (cV x.rs s),.v (.bool (cV x.rs s).isSome)]) none
def S77:Spec:=L3.toSpec
attribute [go_sem] L3 S77
set_option maxHeartbeats 4000000 in
theorem Io:aK Tryz.prog 77 S77:=by
 refine vZ (rs:=[.cell 4 36,.tmp 5]) Tryz.func77 Tryz.ntmps77 (by rfl) (by kernel_rfl) (by decide) (fun _ _=>by first | rfl | exact lE _ _ | simp[D.clos,D.closL,lE]) ⟨_,rfl,lb rfl,fun x s hp H h0 h1 h2 hO ae=>?_⟩
 simp only[iI,bq,cY,List.map_cons,List.map_nil,Nat.zero_add,Option.map_some,Option.map_none]at h0 |-
 have hΓ:=Mw
 repeat refine sq ?_
 refine rx hΓ [0,3,4] [[3,0],[4,0]] (fun K' hK=>by simp only[go_sem,hO,ae,h0,h1,h2];(repeat (refine⟨an,?_⟩));exact hK _ (by simp only[go_sem,hO,ae,h0,h1,h2]) (by simp only[go_sem,hO,ae,h0,h1,h2]<;>rfl)) ?_
 repeat refine sq ?_
 refine rx hΓ [0,4,6] [[4,0]] (fun K' hK=>by simp only[go_sem,hO,ae,h0,h1,h2,true_or,or_true];(repeat (refine⟨an,?_⟩));exact hK _ (by simp only[go_sem,hO,ae,h0,h1,h2,true_or,or_true]) (by simp only[go_sem,hO,ae,h0,h1,h2,true_or,or_true]<;>rfl)) ?_
 repeat refine sq ?_
 refine rx hΓ [0,4,6,14] [[4,0]] (fun K' hK=>by simp only[go_sem,hO,ae,h0,h1,h2];(repeat (refine⟨an,?_⟩));exact hK _ (by simp only[go_sem,hO,ae,h0,h1,h2]) (by simp only[go_sem,hO,ae,h0,h1,h2]<;>rfl)) ?_
 repeat refine sq ?_
 refine aB (fun hb=>?_) fun hb=>?_
 ·repeat refine sq ?_
  have e:cV x.rs s=none:=Fp (by simpa using hb)
  repeat refine sq ?_
  refine rx hΓ [4,5] [[4,0]] (fun K' hK=>by simp only[go_sem,hO,ae,h0,h1,h2];(repeat (refine⟨an,?_⟩));exact hK _ (by simp only[go_sem,hO,ae,h0,h1,h2]) (by simp only[go_sem,hO,ae,h0,h1,h2]<;>rfl)) ?_
  refine av ?_
  simp only[go_sem,hO,ae,h0,h1,h2]
  rw[e];rfl
 ·repeat refine sq ?_
  obtain⟨i,hi,e1,e⟩:=Fo (by simpa using hb)
  have bA:(i:Int)<x.rs.length:=by omega
  rw[e1]
  refine aF ?_
  repeat refine sq ?_
  refine rx hΓ [4,5] [[4,0]] (fun K' hK=>by simp only[go_sem,hO,ae,h0,h1,h2,ah hi,ai,aj,bA];(repeat (refine⟨an,?_⟩));exact hK _ (by simp only[go_sem,hO,ae,h0,h1,h2,ah hi,ai,aj,bA]) (by simp only[go_sem,hO,ae,h0,h1,h2,ah hi,ai,aj,bA]<;>rfl)) ?_
  refine av ?_
  simp only[go_sem,hO,ae,h0,h1,h2]
  rw[e];rfl
end
noncomputable section
structure Rg where
 (lo hi:Int)
 deriving Inhabited,DecidableEq
def qN(r:Rg):V:=.agg [vInt r.lo,vInt r.hi]
def sW:V->Rg
 | .agg [.int _ a,.int _ b]=>⟨a,b⟩
 |_=>default
def Bj:En Rg:=⟨qN,sW⟩
attribute [go_sem] qN sW Bj
@[go_sem] theorem adr(p:Rg):(⟨p.lo,p.hi⟩:Rg)=p:=rfl
def bh:List (Int×(Int×Int))->Int->Int×Int
 |[],_=>(0,0)
 |(k,d)::r,i=>if k=i then d else bh r i
def ma:List (Int×(Int×Int))->Int->Int×Int->List (Int×(Int×Int))
 |[],i,d=>[(i,d)]
 |(k,e)::r,i,d=>if k=i then(i,d)::r else(k,e)::ma r i d
theorem si(d:List (Int×(Int×Int)))(i:Int):(et (bB d) (vInt i)).getD (.agg [vInt 0,vInt 0])=.agg [vInt (bh d i).1,vInt (bh d i).2]:=by
 induction d with
 |nil=>rfl
 |cons q r ih=>
  obtain⟨k,e⟩:=q
  show (if eJ (vInt k) (vInt i)=true then some (V.agg [vInt e.1,vInt e.2])else et (bB r) (vInt i)).getD _=_
  by_cases h:k=i
  ·subst h;simp[eJ,bh]
  ·have h':(k==i)=false:=by simpa using h
   simp only[eJ,h',Bool.false_eq_true,if_false,bh,h]
   exact ih
theorem Gh(d:List (Int×(Int×Int)))(i a b:Int):dA (bB d) (vInt i) (.agg [vInt a,vInt b])=bB (ma d i (a,b)):=by
 induction d with
 |nil=>rfl
 |cons q r ih=>
  obtain⟨k,e⟩:=q
  show (if eJ (vInt k) (vInt i)=true then(vInt i,V.agg [vInt a,vInt b])::bB r else(vInt k,V.agg [vInt e.1,vInt e.2])::dA (bB r) (vInt i) (.agg [vInt a,vInt b]))=_
  by_cases h:k=i
  ·subst h;simp[eJ,ma,bB]
  ·have h':(k==i)=false:=by simpa using h
   simp only[eJ,h',Bool.false_eq_true,if_false,ma,h,ih]
   rfl
def cB(a b:Int):Int:=if b>a then b else a
def fE(a b:Int):Int:=if b<a then b else a
def AH(x:Vw)(i:Int)(r:Rg):List (Int×(Int×Int)):=ma x.ds i (cB (bh x.ds i).1 r.lo,fE (bh x.ds i).2 r.hi)
def L5:VSpec:=v2 iI Bj (fun _ _ _=>True) (fun _ _ _=>.tup []) (some AH)
def S165:Spec:=L5.toSpec
attribute [go_sem] L5 S165
set_option maxHeartbeats 4000000 in
theorem Bb:aK Tryz.prog 165 S165:=by
 refine zz (rs:=[]) Tryz.func165 Tryz.ntmps165 (by rfl) (by kernel_rfl) (by decide) (fun _ _ _=>by first | rfl | simp[D.clos,D.closL,lE]) ⟨_,rfl,lb rfl,fun x i r hp H h0 h1 h2 hO ae=>?_⟩
 have hP:=gE
 simp only[iI,Bj,qN,bq,cY,List.map_cons,List.map_nil,Nat.zero_add,Option.map_some,Option.map_none]at h0 |-
 have hΓ:=@ff Tryz.prog
 repeat refine sq ?_
 refine rx hΓ [0,1,5] [[5,0]] (fun K' hK=>by simp only[go_sem,hO,ae,h0,h1,h2];(repeat (refine⟨an,?_⟩));exact hK _ (by simp only[go_sem,hO,ae,h0,h1,h2]) (by simp only[go_sem,hO,ae,h0,h1,h2]<;>rfl)) ?_
 repeat refine sq ?_
 refine rx hΓ [0,1,5,6] [[5,0],[6,0]] (fun K' hK=>by simp only[go_sem,hO,ae,h0,h1,h2,si];(repeat (refine⟨an,?_⟩));exact hK _ (by simp only[go_sem,hO,ae,h0,h1,h2,si]) (by simp only[go_sem,hO,ae,h0,h1,h2,si]<;>rfl)) ?_
 repeat refine sq ?_
 refine s9 hΓ hP [[],[0],[0,1],[0,1,2],[],[],[5],[],[7],[5,6,7,8],[],[10],[],[12],[10,11,12,13],[5,6,7,8,9,10,11,12,13,14],u16] (by kernel_rfl) fun K' hK=>?_
 simp only[go_sem,hO,ae,h0,h1,h2,Gh]
 repeat (refine⟨an,?_⟩)
 first | refine⟨by rfl,?_⟩ | skip
 refine hK _ ?_
 clear K' hK
 simp only[go_sem]
 exact⟨h0,h1,rfl⟩
end
def bx(l:Led)(k:Int):List Rec:=l.rs.filter fun r=>bJ r.kn r.un k
def aN(l:Led)(k:Int):List Sig:=l.ss.filter fun s=>bJ s.kn s.un k
def gl(pa:Int)(lv:List Int)(r:Rec):Bool:=r.pa==pa&&r.lv.any fun n=>lv.contains n
def dk(rs:List Rec)(pa:Int)(lv:List Int):List Rec:=rs.filter (gl pa lv)
abbrev Bk:=List ((Int×Int)×Int)
abbrev Ds:=List (Int×(Int×Int))
def bD:Bk->Int×Int->Option Int
 |[],_=>none
 |(k,i)::r,q=>if k=q then some i else bD r q
def pC:Bk->Int×Int->Int->Bk
 |[],q,i=>[(q,i)]
 |(k,e)::r,q,i=>if k=q then(q,i)::r else(k,e)::pC r q i
theorem GV(a b c d:Int):eJ (.agg [vInt a,vInt b]) (.agg [vInt c,vInt d])=decide ((a,b)=(c,d)):=by
 show (a==c&&b==d)=_
 by_cases h1:a=c<;>by_cases h2:b=d<;>simp[h1,h2]
theorem aD(b:Bk)(p f:Int):et (bM b) (.agg [vInt p,vInt f])=(bD b (p,f)).map vInt:=by
 induction b with
 |nil=>rfl
 |cons q r ih=>
  obtain⟨⟨k1,k2⟩,i⟩:=q
  show (if eJ (.agg [vInt k1,vInt k2]) (.agg [vInt p,vInt f])=true then some (vInt i)else et (bM r) (.agg [vInt p,vInt f]))=_
  rw[ih,GV]
  simp only[bD]
  by_cases h:(k1,k2)=(p,f)
  ·rw[if_pos h,if_pos (by simpa using h)];rfl
  ·rw[if_neg h,if_neg (by simpa using h)]
theorem P6(b:Bk)(p f i:Int):dA (bM b) (.agg [vInt p,vInt f]) (vInt i)=bM (pC b (p,f) i):=by
 induction b with
 |nil=>rfl
 |cons q r ih=>
  obtain⟨⟨k1,k2⟩,e⟩:=q
  show (if eJ (.agg [vInt k1,vInt k2]) (.agg [vInt p,vInt f])=true then(V.agg [vInt p,vInt f],vInt i)::bM r else(.agg [vInt k1,vInt k2],vInt e)::dA (bM r) (.agg [vInt p,vInt f]) (vInt i))=_
  rw[ih,GV]
  simp only[pC]
  by_cases h:(k1,k2)=(p,f)
  ·rw[if_pos h,if_pos (by simpa using h)];rfl
  ·rw[if_neg h,if_neg (by simpa using h)];rfl
def nE(d:Ds)(i:Int)(r:Rg):Ds:=ma d i (cB (bh d i).1 r.lo,fE (bh d i).2 r.hi)
def aG(l:Led)(i:Nat):Ret:=l.ts.getD i default
def gD(k:Int)(rs:List Rec)(bk:Bk)(x:Ret):Option Rec:=match cV rs x.re with
 |none=>none
 |some r=>if bJ x.kn x.un k&&!(decide (cB x.lo (r.da+1)>x.hi)||x.lv.any fun f=>(bD bk (r.so,f)).isSome||!r.lv.contains f)then some r else none
def oq(b:Bk)(so:Int)(i:Int)(lv:List Int):Bk:=lv.foldl (fun b f=>pC b (so,f) i) b
def oR(l:Led)(k:Int)(v:Vw)(i:Nat):Vw:=match gD k v.rs v.bk (aG l i)with
 |none=>v
 |some r=>{ v with bk:=oq v.bk r.so i (aG l i).lv,ts:=v.ts++[(i:Int)],ds:=ma v.ds i (cB (aG l i).lo (r.da+1),(aG l i).hi) }
def ax(l:Led)(k:Int):Nat->Vw
 | 0=>⟨l,bx l k,[],[],[]⟩
 |s+1=>oR l k (ax l k s) s
def kI(rs:List Rec)(s:Int):Rec:=(cV rs s).getD zeroR
def jU(d:Ds)(i da:Int)(os:List Rec):Ds:=os.foldl (fun d o=>if o.da>da then nE d i ⟨0,o.da⟩else d) d
def gH(l:Led)(rs:List Rec)(ts:List Int)(d:Ds):Nat->Ds
 | 0=>d
 |j+1=>jU (gH l rs ts d j) (ts.getD j 0) (kI rs (aG l (ts.getD j 0).toNat).re).da (dk rs (kI rs (aG l (ts.getD j 0).toNat).re).pa (aG l (ts.getD j 0).toNat).lv)
def aW(l:Led)(k:Int):Vw:={ ax l k l.ts.length with ds:=gH l (bx l k) (ax l k l.ts.length).ts (ax l k l.ts.length).ds (ax l k l.ts.length).ts.length }
theorem Qs(l:Led)(k:Int)(v:Vw)(i:Nat):(oR l k v i).l=v.l/\(oR l k v i).rs=v.rs:=by
 unfold oR
 split<;>exact⟨rfl,rfl⟩
theorem oQ(l:Led)(k:Int)(i:Nat):(ax l k i).l=l/\(ax l k i).rs=bx l k:=by
 induction i with
 |zero=>exact⟨rfl,rfl⟩
 |succ i ih=>
  have :=Qs l k (ax l k i) i
  exact⟨this.1.trans ih.1,this.2.trans ih.2⟩
def sX(x:Vw)(a b:Rec):Bool:=a.lv.any fun f=>(a.pa==b.pa&&b.lv.contains f)&&(a.da==b.da||match bD x.bk (a.so,f)with
 |none=>true
 |some i=>decide (cB (aG x.l i.toNat).lo (a.da+1)>b.da))
def fZ(x:Vw)(a b:Rec):Bool:=if a.da>b.da then sX x b a else sX x a b
def mA(x:Vw)(i:Nat):Option (Int×Int):=((x.rs.drop (i+1)).find? (fZ x (x.rs.getD i zeroR))).map fun b=>((x.rs.getD i zeroR).so,b.so)
def fe(x:Vw):Option (Int×Int):=(List.range x.rs.length).findSome? (mA x)
def vI(day:Int)(o:Option Rec)(r:Rec):Option Rec:=if decide (r.da<=day)&&(o.isNone||decide (r.da>=(o.getD zeroR).da))then some r else o
def ko(rs:List Rec)(pa le day:Int):Option Rec:=(dk rs pa [le]).foldl (vI day) none
def cw:Rg:=⟨0,100000⟩
def ck:Rg:=⟨1,0⟩
def bt(x:Vw)(s:Sig):Int×Rg:=match ko x.rs s.pa s.le s.da with
 |none=>if s.pe=0 then(-1,cw)else(-1,ck)
 |some r=>match bD x.bk (r.so,s.le)with
  |none=>if s.pe=r.bo then(-1,cw)else(-1,ck)
  |some i=>if s.pe=0 then(i,⟨0,s.da⟩)else if s.pe=r.bo then(i,⟨s.da+1,100000⟩)else(-1,ck)
def oc(x:Vw)(d:Ds)(s:Sig):Ds:=if (bt x s).1>=0 then nE d (bt x s).1 (bt x s).2 else d
def dD(x:Vw)(d:Ds)(l:List Sig):Ds:=l.foldl (oc x) d
def gF(x:Vw)(s:Sig):Bool:=decide ((bt x s).1>=0)||!decide ((bt x s).2.lo>(bt x s).2.hi)
def sN(ts:List Int)(d:Ds):Bool:=ts.all fun i=>decide ((bh d i).1<=(bh d i).2)
def cU(x:Vw)(l:List Sig):Bool:=l.all (gF x)&&sN x.ts (dD x x.ds l)
end Go.Eng
