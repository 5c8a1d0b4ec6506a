import Derived.Test.YtepaolcgegdpoaaGreatK4
import Derived.Test.YtepaolcgegdpoaaGreatProg
import Derived.KernelRfl
/- Texts L0 to LM1. -/
set_option linter.all false
namespace Go.Eng
open Go Go.Proofs
abbrev KS (K:List (Nat×Spec)):Prop:=∀ f s,tbl K f=some s->aM Tryz.prog f s
@[go_sem] theorem ta0:a7 Tryz.prog 0=some (false,1):=by kernel_rfl
@[go_sem] theorem ta1:a7 Tryz.prog 1=some (false,1):=by kernel_rfl
@[go_sem] theorem tz1:be Tryz.prog 1=some .nilFunc:=by kernel_rfl
@[go_sem] theorem ta2:a7 Tryz.prog 2=some (false,1):=by kernel_rfl
@[go_sem] theorem ti2:lY Tryz.prog 2=some .i64:=by kernel_rfl
@[go_sem] theorem tz2:be Tryz.prog 2=some (.int .i64 0):=by kernel_rfl
@[go_sem] theorem wZ:a7 Tryz.prog 3=some (false,1):=by kernel_rfl
@[go_sem] theorem ti3:lY Tryz.prog 3=some .i64:=by kernel_rfl
@[go_sem] theorem tz3:be Tryz.prog 3=some (.int .i64 0):=by kernel_rfl
@[go_sem] theorem ta4:a7 Tryz.prog 4=some (false,1):=by kernel_rfl
@[go_sem] theorem tz4:be Tryz.prog 4=some (.bool false):=by kernel_rfl
@[go_sem] theorem adE:a7 Tryz.prog 18=some (true,1):=by kernel_rfl
@[go_sem] theorem abO:gF Tryz.prog 18=some [(0,1)]:=by kernel_rfl
@[go_sem] theorem abi:be Tryz.prog 18=some (.agg #[(.pointer none)]):=by kernel_rfl
@[go_sem] theorem acL:bK Tryz.prog 18 0=some (0,1,false):=by kernel_rfl
@[go_sem] theorem ady:a7 Tryz.prog 22=some (false,1):=by kernel_rfl
@[go_sem] theorem ac4:b8 Tryz.prog 22=some (100,5,40):=by kernel_rfl
@[go_sem] theorem ab4:de Tryz.prog 22=some 0:=by kernel_rfl
@[go_sem] theorem abd:be Tryz.prog 22=some (.slice none 0 0):=by kernel_rfl
@[go_sem] theorem adx:a7 Tryz.prog 23=some (false,1):=by kernel_rfl
@[go_sem] theorem ac3:b8 Tryz.prog 23=some (131,7,56):=by kernel_rfl
@[go_sem] theorem ab3:de Tryz.prog 23=some 0:=by kernel_rfl
@[go_sem] theorem abb:be Tryz.prog 23=some (.slice none 0 0):=by kernel_rfl
@[go_sem] theorem adw:a7 Tryz.prog 25=some (true,3):=by kernel_rfl
@[go_sem] theorem abN:gF Tryz.prog 25=some [(0,1),(1,1),(2,1)]:=by kernel_rfl
@[go_sem] theorem aba:be Tryz.prog 25=some (.agg #[(.slice none 0 0),(.slice none 0 0),(.slice none 0 0)]):=by kernel_rfl
@[go_sem] theorem acK:bK Tryz.prog 25 0=some (0,1,false):=by kernel_rfl
@[go_sem] theorem acJ:bK Tryz.prog 25 1=some (1,1,false):=by kernel_rfl
@[go_sem] theorem acI:bK Tryz.prog 25 2=some (2,1,false):=by kernel_rfl
@[go_sem] theorem adv:a7 Tryz.prog 26=some (false,1):=by kernel_rfl
@[go_sem] theorem ac2:b8 Tryz.prog 26=some (46,2,16):=by kernel_rfl
@[go_sem] theorem ab2:de Tryz.prog 26=some 0:=by kernel_rfl
@[go_sem] theorem aa':be Tryz.prog 26=some (.slice none 0 0):=by kernel_rfl
@[go_sem] theorem adu:a7 Tryz.prog 27=some (false,1):=by kernel_rfl
@[go_sem] theorem ac1:b8 Tryz.prog 27=some (36,7,72):=by kernel_rfl
@[go_sem] theorem ab1:de Tryz.prog 27=some 0:=by kernel_rfl
@[go_sem] theorem aa9:be Tryz.prog 27=some (.slice none 0 0):=by kernel_rfl
@[go_sem] theorem adt:a7 Tryz.prog 28=some (false,1):=by kernel_rfl
@[go_sem] theorem ac0:b8 Tryz.prog 28=some (40,8,80):=by kernel_rfl
@[go_sem] theorem ab0:de Tryz.prog 28=some 0:=by kernel_rfl
@[go_sem] theorem aa8:be Tryz.prog 28=some (.slice none 0 0):=by kernel_rfl
@[go_sem] theorem ads:a7 Tryz.prog 29=some (false,1):=by kernel_rfl
@[go_sem] theorem Fj:b8 Tryz.prog 29=some (81,7,56):=by kernel_rfl
@[go_sem] theorem abZ:de Tryz.prog 29=some 0:=by kernel_rfl
@[go_sem] theorem aa7:be Tryz.prog 29=some (.slice none 0 0):=by kernel_rfl
@[go_sem] theorem adr:a7 Tryz.prog 31=some (true,4):=by kernel_rfl
@[go_sem] theorem abM:gF Tryz.prog 31=some [(0,1),(1,1),(2,1),(3,1)]:=by kernel_rfl
@[go_sem] theorem aa6:be Tryz.prog 31=some (.agg #[(.slice none 0 0),(.slice none 0 0),(.slice none 0 0),(.slice none 0 0)]):=by kernel_rfl
@[go_sem] theorem acH:bK Tryz.prog 31 0=some (0,1,false):=by kernel_rfl
@[go_sem] theorem acG:bK Tryz.prog 31 1=some (1,1,false):=by kernel_rfl
@[go_sem] theorem acF:bK Tryz.prog 31 2=some (2,1,false):=by kernel_rfl
@[go_sem] theorem acE:bK Tryz.prog 31 3=some (3,1,false):=by kernel_rfl
@[go_sem] theorem adq:a7 Tryz.prog 32=some (false,1):=by kernel_rfl
@[go_sem] theorem acZ:b8 Tryz.prog 32=some (3,1,8):=by kernel_rfl
@[go_sem] theorem abY:de Tryz.prog 32=some 0:=by kernel_rfl
@[go_sem] theorem aa5:be Tryz.prog 32=some (.slice none 0 0):=by kernel_rfl
@[go_sem] theorem adp:a7 Tryz.prog 33=some (false,1):=by kernel_rfl
@[go_sem] theorem ado:a7 Tryz.prog 36=some (true,7):=by kernel_rfl
@[go_sem] theorem abL:gF Tryz.prog 36=some [(0,1),(1,1),(2,1),(3,1),(4,1),(5,1),(6,1)]:=by kernel_rfl
@[go_sem] theorem aa4:be Tryz.prog 36=some (.agg #[(.int .i64 0),(.int .i64 0),(.int .i64 0),(.slice none 0 0),(.int .i64 0),(.int .i64 0),(.int .i64 0)]):=by kernel_rfl
@[go_sem] theorem acD:bK Tryz.prog 36 0=some (0,1,false):=by kernel_rfl
@[go_sem] theorem acC:bK Tryz.prog 36 1=some (1,1,false):=by kernel_rfl
@[go_sem] theorem acB:bK Tryz.prog 36 2=some (2,1,false):=by kernel_rfl
@[go_sem] theorem acA:bK Tryz.prog 36 3=some (3,1,false):=by kernel_rfl
@[go_sem] theorem acz:bK Tryz.prog 36 4=some (4,1,false):=by kernel_rfl
@[go_sem] theorem acy:bK Tryz.prog 36 5=some (5,1,false):=by kernel_rfl
@[go_sem] theorem acx:bK Tryz.prog 36 6=some (6,1,false):=by kernel_rfl
@[go_sem] theorem adn:a7 Tryz.prog 38=some (true,2):=by kernel_rfl
@[go_sem] theorem abK:gF Tryz.prog 38=some [(0,1),(1,1)]:=by kernel_rfl
@[go_sem] theorem aa3:be Tryz.prog 38=some (.agg #[(.int .i64 0),(.int .i64 0)]):=by kernel_rfl
@[go_sem] theorem acw:bK Tryz.prog 38 0=some (0,1,false):=by kernel_rfl
@[go_sem] theorem acv:bK Tryz.prog 38 1=some (1,1,false):=by kernel_rfl
@[go_sem] theorem adm:a7 Tryz.prog 40=some (true,8):=by kernel_rfl
@[go_sem] theorem abJ:gF Tryz.prog 40=some [(0,1),(1,1),(2,1),(3,1),(4,2),(6,1),(7,1)]:=by kernel_rfl
@[go_sem] theorem aa2:be Tryz.prog 40=some (.agg #[(.int .i64 0),(.int .i64 0),(.int .i64 0),(.slice none 0 0),(.int .i64 0),(.int .i64 0),(.int .i64 0),(.int .i64 0)]):=by kernel_rfl
@[go_sem] theorem acu:bK Tryz.prog 40 0=some (0,1,false):=by kernel_rfl
@[go_sem] theorem acs:bK Tryz.prog 40 1=some (1,1,false):=by kernel_rfl
@[go_sem] theorem acr:bK Tryz.prog 40 2=some (2,1,false):=by kernel_rfl
@[go_sem] theorem acq:bK Tryz.prog 40 3=some (3,1,false):=by kernel_rfl
@[go_sem] theorem acp:bK Tryz.prog 40 4=some (4,2,true):=by kernel_rfl
@[go_sem] theorem aco:bK Tryz.prog 40 5=some (6,1,false):=by kernel_rfl
@[go_sem] theorem acn:bK Tryz.prog 40 6=some (7,1,false):=by kernel_rfl
@[go_sem] theorem adl:a7 Tryz.prog 42=some (false,1):=by kernel_rfl
@[go_sem] theorem ab9:lY Tryz.prog 42=some .i64:=by kernel_rfl
@[go_sem] theorem aa1:be Tryz.prog 42=some (.int .i64 0):=by kernel_rfl
@[go_sem] theorem adk:a7 Tryz.prog 43=some (false,1):=by kernel_rfl
@[go_sem] theorem adj:a7 Tryz.prog 46=some (true,2):=by kernel_rfl
@[go_sem] theorem abI:gF Tryz.prog 46=some [(0,1),(1,1)]:=by kernel_rfl
@[go_sem] theorem aa0:be Tryz.prog 46=some (.agg #[(.int .i64 0),(.int .i64 0)]):=by kernel_rfl
@[go_sem] theorem acm:bK Tryz.prog 46 0=some (0,1,false):=by kernel_rfl
@[go_sem] theorem ack:bK Tryz.prog 46 1=some (1,1,false):=by kernel_rfl
@[go_sem] theorem adi:a7 Tryz.prog 51=some (false,1):=by kernel_rfl
@[go_sem] theorem acY:b8 Tryz.prog 51=some (56,2,16):=by kernel_rfl
@[go_sem] theorem abX:de Tryz.prog 51=some 0:=by kernel_rfl
@[go_sem] theorem aaZ:be Tryz.prog 51=some (.slice none 0 0):=by kernel_rfl
@[go_sem] theorem adh:a7 Tryz.prog 52=some (false,1):=by kernel_rfl
@[go_sem] theorem adg:a7 Tryz.prog 56=some (true,2):=by kernel_rfl
@[go_sem] theorem abH:gF Tryz.prog 56=some [(0,1),(1,1)]:=by kernel_rfl
@[go_sem] theorem aaY:be Tryz.prog 56=some (.agg #[(.int .i64 0),(.int .i64 0)]):=by kernel_rfl
@[go_sem] theorem acj:bK Tryz.prog 56 0=some (0,1,false):=by kernel_rfl
@[go_sem] theorem aci:bK Tryz.prog 56 1=some (1,1,false):=by kernel_rfl
@[go_sem] theorem adf:a7 Tryz.prog 57=some (false,1):=by kernel_rfl
@[go_sem] theorem ade:a7 Tryz.prog 65=some (false,1):=by kernel_rfl
@[go_sem] theorem adb:a7 Tryz.prog 78=some (true,4):=by kernel_rfl
@[go_sem] theorem abC:jf Tryz.prog 78=some (4,1,false):=by kernel_rfl
@[go_sem] theorem abG:gF Tryz.prog 78=some [(0,1),(1,1),(2,1),(3,1)]:=by kernel_rfl
@[go_sem] theorem aaX:be Tryz.prog 78=some (.agg #[(.int .i64 0),(.int .i64 0),(.int .i64 0),(.int .i64 0)]):=by kernel_rfl
@[go_sem] theorem ada:a7 Tryz.prog 81=some (true,7):=by kernel_rfl
@[go_sem] theorem abF:gF Tryz.prog 81=some [(0,1),(1,1),(2,1),(3,1),(4,1),(5,1),(6,1)]:=by kernel_rfl
@[go_sem] theorem N6:be Tryz.prog 81=some (.agg #[(.int .i64 0),(.int .i64 0),(.int .i64 0),(.int .i64 0),(.int .i64 0),(.int .i64 0),(.int .i64 0)]):=by kernel_rfl
@[go_sem] theorem ach:bK Tryz.prog 81 0=some (0,1,false):=by kernel_rfl
@[go_sem] theorem acg:bK Tryz.prog 81 1=some (1,1,false):=by kernel_rfl
@[go_sem] theorem acf:bK Tryz.prog 81 2=some (2,1,false):=by kernel_rfl
@[go_sem] theorem ace:bK Tryz.prog 81 3=some (3,1,false):=by kernel_rfl
@[go_sem] theorem acd:bK Tryz.prog 81 4=some (4,1,false):=by kernel_rfl
@[go_sem] theorem acb:bK Tryz.prog 81 5=some (5,1,false):=by kernel_rfl
@[go_sem] theorem aca:bK Tryz.prog 81 6=some (6,1,false):=by kernel_rfl
@[go_sem] theorem ac':a7 Tryz.prog 86=some (false,1):=by kernel_rfl
@[go_sem] theorem ac9:a7 Tryz.prog 95=some (false,1):=by kernel_rfl
@[go_sem] theorem aaW:be Tryz.prog 95=some .nilFunc:=by kernel_rfl
@[go_sem] theorem ac8:a7 Tryz.prog 96=some (false,1):=by kernel_rfl
@[go_sem] theorem aaV:be Tryz.prog 96=some .nilFunc:=by kernel_rfl
@[go_sem] theorem ac7:a7 Tryz.prog 97=some (false,1):=by kernel_rfl
@[go_sem] theorem aaU:be Tryz.prog 97=some .nilFunc:=by kernel_rfl
@[go_sem] theorem ac6:a7 Tryz.prog 98=some (false,1):=by kernel_rfl
@[go_sem] theorem aaT:be Tryz.prog 98=some .nilFunc:=by kernel_rfl
@[go_sem] theorem ad0:a7 Tryz.prog 100=some (true,5):=by kernel_rfl
@[go_sem] theorem abE:jf Tryz.prog 100=some (5,1,false):=by kernel_rfl
@[go_sem] theorem abT:gF Tryz.prog 100=some [(0,1),(1,1),(2,1),(3,1),(4,1)]:=by kernel_rfl
@[go_sem] theorem abB:be Tryz.prog 100=some (.agg #[(.int .i64 0),(.int .i64 0),(.int .i64 0),(.int .i64 0),(.int .i64 0)]):=by kernel_rfl
@[go_sem] theorem adZ:a7 Tryz.prog 103=some (false,1):=by kernel_rfl
@[go_sem] theorem ac5:b8 Tryz.prog 103=some (4,1,1):=by kernel_rfl
@[go_sem] theorem ab8:de Tryz.prog 103=some 0:=by kernel_rfl
@[go_sem] theorem abA:be Tryz.prog 103=some (.slice none 0 0):=by kernel_rfl
@[go_sem] theorem adY:a7 Tryz.prog 108=some (true,7):=by kernel_rfl
@[go_sem] theorem abS:gF Tryz.prog 108=some [(0,4),(4,1),(5,1),(6,1)]:=by kernel_rfl
@[go_sem] theorem abz:be Tryz.prog 108=some (.agg #[(.slice none 0 0),(.slice none 0 0),(.slice none 0 0),(.slice none 0 0),(.int .i64 0),(.slice none 0 0),(.slice none 0 0)]):=by kernel_rfl
@[go_sem] theorem acW:bK Tryz.prog 108 0=some (0,4,true):=by kernel_rfl
@[go_sem] theorem acV:bK Tryz.prog 108 1=some (4,1,false):=by kernel_rfl
@[go_sem] theorem acU:bK Tryz.prog 108 2=some (5,1,false):=by kernel_rfl
@[go_sem] theorem acT:bK Tryz.prog 108 3=some (6,1,false):=by kernel_rfl
@[go_sem] theorem adX:a7 Tryz.prog 112=some (false,1):=by kernel_rfl
@[go_sem] theorem adW:a7 Tryz.prog 113=some (false,1):=by kernel_rfl
@[go_sem] theorem aby:be Tryz.prog 113=some (.pointer none):=by kernel_rfl
@[go_sem] theorem adV:a7 Tryz.prog 115=some (false,1):=by kernel_rfl
@[go_sem] theorem abx:be Tryz.prog 115=some (.pointer none):=by kernel_rfl
@[go_sem] theorem adU:a7 Tryz.prog 117=some (false,1):=by kernel_rfl
@[go_sem] theorem adT:a7 Tryz.prog 119=some (false,1):=by kernel_rfl
@[go_sem] theorem adS:a7 Tryz.prog 120=some (false,1):=by kernel_rfl
@[go_sem] theorem ab7:de Tryz.prog 120=some 2:=by kernel_rfl
@[go_sem] theorem abW:jG Tryz.prog 120=some (2,3):=by kernel_rfl
@[go_sem] theorem abw:be Tryz.prog 120=some (.map none):=by kernel_rfl
@[go_sem] theorem adR:a7 Tryz.prog 121=some (false,1):=by kernel_rfl
@[go_sem] theorem ab6:de Tryz.prog 121=some 2:=by kernel_rfl
@[go_sem] theorem abV:jG Tryz.prog 121=some (0,38):=by kernel_rfl
@[go_sem] theorem abv:be Tryz.prog 121=some (.map none):=by kernel_rfl
@[go_sem] theorem adQ:a7 Tryz.prog 123=some (true,5):=by kernel_rfl
@[go_sem] theorem abR:gF Tryz.prog 123=some [(0,1),(1,1),(2,1),(3,1),(4,1)]:=by kernel_rfl
@[go_sem] theorem abu:be Tryz.prog 123=some (.agg #[(.pointer none),(.slice none 0 0),(.slice none 0 0),(.map none),(.map none)]):=by kernel_rfl
@[go_sem] theorem acS:bK Tryz.prog 123 0=some (0,1,false):=by kernel_rfl
@[go_sem] theorem acR:bK Tryz.prog 123 1=some (1,1,false):=by kernel_rfl
@[go_sem] theorem acQ:bK Tryz.prog 123 2=some (2,1,false):=by kernel_rfl
@[go_sem] theorem acP:bK Tryz.prog 123 3=some (3,1,false):=by kernel_rfl
@[go_sem] theorem acO:bK Tryz.prog 123 4=some (4,1,false):=by kernel_rfl
@[go_sem] theorem adP:a7 Tryz.prog 125=some (true,2):=by kernel_rfl
@[go_sem] theorem abQ:gF Tryz.prog 125=some [(0,1),(1,1)]:=by kernel_rfl
@[go_sem] theorem abt:be Tryz.prog 125=some (.agg #[(.int .i64 0),(.int .i64 0)]):=by kernel_rfl
@[go_sem] theorem acN:bK Tryz.prog 125 0=some (0,1,false):=by kernel_rfl
@[go_sem] theorem acM:bK Tryz.prog 125 1=some (1,1,false):=by kernel_rfl
@[go_sem] theorem adO:a7 Tryz.prog 131=some (true,7):=by kernel_rfl
@[go_sem] theorem abD:jf Tryz.prog 131=some (7,1,false):=by kernel_rfl
@[go_sem] theorem abP:gF Tryz.prog 131=some [(0,1),(1,1),(2,1),(3,1),(4,1),(5,1),(6,1)]:=by kernel_rfl
@[go_sem] theorem abr:be Tryz.prog 131=some (.agg #[(.int .i64 0),(.int .i64 0),(.int .i64 0),(.int .i64 0),(.int .i64 0),(.int .i64 0),(.int .i64 0)]):=by kernel_rfl
@[go_sem] theorem adN:a7 Tryz.prog 135=some (false,1):=by kernel_rfl
@[go_sem] theorem abq:be Tryz.prog 135=some .nilFunc:=by kernel_rfl
@[go_sem] theorem adM:a7 Tryz.prog 139=some (false,1):=by kernel_rfl
@[go_sem] theorem abp:be Tryz.prog 139=some .nilFunc:=by kernel_rfl
@[go_sem] theorem adL:a7 Tryz.prog 153=some (false,1):=by kernel_rfl
@[go_sem] theorem abo:be Tryz.prog 153=some .nilFunc:=by kernel_rfl
@[go_sem] theorem adK:a7 Tryz.prog 155=some (false,1):=by kernel_rfl
@[go_sem] theorem abn:be Tryz.prog 155=some .nilFunc:=by kernel_rfl
@[go_sem] theorem adJ:a7 Tryz.prog 157=some (false,1):=by kernel_rfl
@[go_sem] theorem abm:be Tryz.prog 157=some .nilFunc:=by kernel_rfl
@[go_sem] theorem adI:a7 Tryz.prog 159=some (false,1):=by kernel_rfl
@[go_sem] theorem abl:be Tryz.prog 159=some .nilFunc:=by kernel_rfl
@[go_sem] theorem adH:a7 Tryz.prog 160=some (false,1):=by kernel_rfl
@[go_sem] theorem ab5:de Tryz.prog 160=some 2:=by kernel_rfl
@[go_sem] theorem abU:jG Tryz.prog 160=some (0,4):=by kernel_rfl
@[go_sem] theorem abk:be Tryz.prog 160=some (.map none):=by kernel_rfl
@[go_sem] theorem adG:a7 Tryz.prog 161=some (false,1):=by kernel_rfl
@[go_sem] theorem abj:be Tryz.prog 161=some .nilFunc:=by kernel_rfl
@[go_sem] theorem adF:a7 Tryz.prog 164=some (false,1):=by kernel_rfl
@[go_sem] theorem adD:a7 Tryz.prog 186=some (false,1):=by kernel_rfl
@[go_sem] theorem abh:be Tryz.prog 186=some .nilFunc:=by kernel_rfl
@[go_sem] theorem adC:a7 Tryz.prog 188=some (false,1):=by kernel_rfl
@[go_sem] theorem abg:be Tryz.prog 188=some .nilFunc:=by kernel_rfl
@[go_sem] theorem adB:a7 Tryz.prog 191=some (false,1):=by kernel_rfl
@[go_sem] theorem abf:be Tryz.prog 191=some .nilFunc:=by kernel_rfl
@[go_sem] theorem adA:a7 Tryz.prog 205=some (false,1):=by kernel_rfl
@[go_sem] theorem adz:a7 Tryz.prog 208=some (false,1):=by kernel_rfl
@[go_sem] theorem ab':lY Tryz.prog 208=some .u64:=by kernel_rfl
@[go_sem] theorem abe:be Tryz.prog 208=some (.int .u64 0):=by kernel_rfl
theorem fL:Tryz.prog.follows .mixedOrders=true:=by kernel_rfl
structure Pap where
 (id lv:Int)
 deriving Inhabited,DecidableEq
structure Rec where
 (so bo pa:Int)
 lv:List Int
 (da kn un:Int)
 deriving Inhabited,DecidableEq
structure Ret where
 (so re pe:Int)
 lv:List Int
 (lo hi kn un:Int)
 deriving Inhabited,DecidableEq
structure Sig where
 (so pe pa le da kn un:Int)
 deriving Inhabited,DecidableEq
structure Led where
 ps:List Pap
 rs:List Rec
 ts:List Ret
 ss:List Sig
 deriving Inhabited,DecidableEq
def jz:V->Int
 | .int _ n=>n
 |_=>0
def zm:V->Bool
 | .bool b=>b
 |_=>false
def LP:V->List Int
 | .sl l=>l.map jz
 |_=>[]
def dk(p:Pap):V:=.agg [vInt p.id,vInt p.lv]
def pW:V->Pap
 | .agg [.int _ a,.int _ b]=>⟨a,b⟩
 |_=>default
def encR(r:Rec):V:=.agg [vInt r.so,vInt r.bo,vInt r.pa,.sl (r.lv.map vInt),vInt r.da,vInt r.kn,vInt r.un]
def j6:V->Rec
 | .agg [.int _ a,.int _ b,.int _ c,.sl l,.int _ d,.int _ e,.int _ f]=>⟨a,b,c,l.map jz,d,e,f⟩
 |_=>default
def dB(r:Ret):V:=.agg [vInt r.so,vInt r.re,vInt r.pe,.sl (r.lv.map vInt),vInt r.lo,vInt r.hi,vInt r.kn,vInt r.un]
def lG:V->Ret
 | .agg [.int _ a,.int _ b,.int _ c,.sl l,.int _ d,.int _ g,.int _ e,.int _ f]=>⟨a,b,c,l.map jz,d,g,e,f⟩
 |_=>default
def encS(s:Sig):V:=.agg [vInt s.so,vInt s.pe,vInt s.pa,vInt s.le,vInt s.da,vInt s.kn,vInt s.un]
def iX:V->Sig
 | .agg [.int _ a,.int _ b,.int _ c,.int _ d,.int _ e,.int _ f,.int _ g]=>⟨a,b,c,d,e,f,g⟩
 |_=>default
def fc(l:Led):V:=.agg [.sl (l.ps.map dk),.sl (l.rs.map encR),.sl (l.ts.map dB),.sl (l.ss.map encS)]
def LN:V->Led
 | .agg [.sl a,.sl b,.sl c,.sl d]=>⟨a.map pW,b.map j6,c.map lG,d.map iX⟩
 |_=>default
def iW(l:Led):V:=.ptr [.sl (l.ps.map dk),.sl (l.rs.map encR),.sl (l.ts.map dB),.sl (l.ss.map encS)]
def zk:V->Led
 | .ptr [.sl a,.sl b,.sl c,.sl d]=>⟨a.map pW,b.map j6,c.map lG,d.map iX⟩
 |_=>default
@[go_sem] theorem pX(l:List Int):(l.map vInt).map jz=l:=by rw[List.map_map];exact List.map_id _
@[go_sem] theorem aek(l:List Bool):(l.map V.bool).map zm=l:=by rw[List.map_map];exact List.map_id _
theorem Xp(p:Pap):pW (dk p)=p:=rfl
theorem Xk(r:Rec):j6 (encR r)=r:=by
 cases r;simp only[encR,j6,pX]
theorem Xf(r:Ret):lG (dB r)=r:=by
 cases r;simp only[dB,lG,pX]
theorem Xh(r:Sig):iX (encS r)=r:=rfl
theorem qv{α:Type}{e:α->V}{d:V->α}(h:∀ a,d (e a)=a)(l:List α):(l.map e).map d=l:=by
 rw[List.map_map]
 have :d∘e=id:=funext h
 rw[this,List.map_id]
@[go_sem] theorem LL(l:List Pap):(l.map dk).map pW=l:=qv Xp l
@[go_sem] theorem zi(l:List Rec):(l.map encR).map j6=l:=qv Xk l
@[go_sem] theorem LJ(l:List Ret):(l.map dB).map lG=l:=qv Xf l
@[go_sem] theorem tL(l:List Sig):(l.map encS).map iX=l:=qv Xh l
@[go_sem] theorem aef(p:Pap):(⟨p.id,p.lv⟩:Pap)=p:=rfl
@[go_sem] theorem aee(r:Rec):(⟨r.so,r.bo,r.pa,r.lv,r.da,r.kn,r.un⟩:Rec)=r:=rfl
@[go_sem] theorem ad'(r:Ret):(⟨r.so,r.re,r.pe,r.lv,r.lo,r.hi,r.kn,r.un⟩:Ret)=r:=rfl
@[go_sem] theorem aea(r:Sig):(⟨r.so,r.pe,r.pa,r.le,r.da,r.kn,r.un⟩:Sig)=r:=rfl
@[go_sem] theorem aeh(l:Led):(⟨l.ps,l.rs,l.ts,l.ss⟩:Led)=l:=rfl
def iI:En Int:=⟨vInt,jz⟩
def iB:En Bool:=⟨.bool,zm⟩
def eh:En (List Int):=⟨fun l=>.sl (l.map vInt),LP⟩
def iP:En Pap:=⟨dk,pW⟩
def iR:En Rec:=⟨encR,j6⟩
def iT:En Ret:=⟨dB,lG⟩
def iS:En Sig:=⟨encS,iX⟩
def iL:En Led:=⟨fc,LN⟩
def mi:En Led:=⟨iW,zk⟩
attribute [go_sem] iI iB eh iP iR iT iS iL mi jz zm LP dk pW encR j6 dB lG encS iX fc LN iW zk
def bI(n lo hi:Int):Bool:=decide (lo<=n)&&decide (n<=hi)
def dayB(n:Int):Bool:=bI n 0 100000
noncomputable section
@[go_sem] def P96:PSpec:=p3 iI iI iI (fun _ _ _=>True) (fun n lo hi=>.bool (bI n lo hi)) true
@[go_sem] def rX:Spec:=P96.toSpec
theorem sD:aW Tryz.prog 96 P96:=by
 refine kX (rs:=[.tmp 6]) Tryz.func96 Tryz.ntmps96 fun n lo hi hp hw=>?_
 simp only[iI]at hw |-
 have hΓ:=@fj Tryz.prog
 repeat refine sq ?_
 refine rs hΓ [0,1,2] [] ?_
 repeat refine sq ?_
 refine rs hΓ [6] [] ?_
 refine aA ?_
 simp only[go_sem]
 all_goals exact dJ
@[go_sem] def P189:PSpec:=p1 iI (fun _=>True) (fun _=>.bool false) true
@[go_sem] def Za:Spec:=P189.toSpec
theorem Pz:aW Tryz.prog 189 P189:=by
 refine fV (rs:=[.tmp 2]) Tryz.func189 Tryz.ntmps189 fun n hp hw=>?_
 simp only[iI]at hw |-
 have hΓ:=@fj Tryz.prog
 repeat refine sq ?_
 refine rs hΓ [0] [] ?_
 repeat refine sq ?_
 refine rs hΓ [2] [] ?_
 refine aA ?_
 simp only[go_sem]
 all_goals exact dJ
def K1:List (Nat×Spec):=[(96,rX),(189,Za)]
theorem uf:KS K1:=tc sD.sound<|tc Pz.sound<|tn
attribute [go_sem] K1
@[go_sem] def P144:PSpec:=p1 iI (fun _=>True) (fun n=>.bool (bI n 1 999)) true
@[go_sem] def Np:Spec:=P144.toSpec
theorem FQ:aW Tryz.prog 144 P144:=by
 refine fV (rs:=[.tmp 2]) Tryz.func144 Tryz.ntmps144 fun n hp hw=>?_
 simp only[iI]at hw |-
 have hΓ:=uf
 repeat refine sq ?_
 refine rs hΓ [0] [] ?_
 repeat refine sq ?_
 refine rs hΓ [2] [] ?_
 refine aA ?_
 simp only[go_sem]
 all_goals exact dJ
@[go_sem] def P145:PSpec:=p1 iI (fun _=>True) (fun n=>.bool (bI n 1 30)) true
@[go_sem] def EI:Spec:=P145.toSpec
theorem AR:aW Tryz.prog 145 P145:=by
 refine fV (rs:=[.tmp 2]) Tryz.func145 Tryz.ntmps145 fun n hp hw=>?_
 simp only[iI]at hw |-
 have hΓ:=uf
 repeat refine sq ?_
 refine rs hΓ [0] [] ?_
 repeat refine sq ?_
 refine rs hΓ [2] [] ?_
 refine aA ?_
 simp only[go_sem]
 all_goals exact dJ
@[go_sem] def P147:PSpec:=p1 iI (fun _=>True) (fun n=>.bool (bI n 1 99999)) true
@[go_sem] def No:Spec:=P147.toSpec
theorem FP:aW Tryz.prog 147 P147:=by
 refine fV (rs:=[.tmp 2]) Tryz.func147 Tryz.ntmps147 fun n hp hw=>?_
 simp only[iI]at hw |-
 have hΓ:=uf
 repeat refine sq ?_
 refine rs hΓ [0] [] ?_
 repeat refine sq ?_
 refine rs hΓ [2] [] ?_
 refine aA ?_
 simp only[go_sem]
 all_goals exact dJ
@[go_sem] def P148:PSpec:=p1 iI (fun _=>True) (fun n=>.bool (bI n 1 99)) true
@[go_sem] def Nn:Spec:=P148.toSpec
theorem FO:aW Tryz.prog 148 P148:=by
 refine fV (rs:=[.tmp 2]) Tryz.func148 Tryz.ntmps148 fun n hp hw=>?_
 simp only[iI]at hw |-
 have hΓ:=uf
 repeat refine sq ?_
 refine rs hΓ [0] [] ?_
 repeat refine sq ?_
 refine rs hΓ [2] [] ?_
 refine aA ?_
 simp only[go_sem]
 all_goals exact dJ
@[go_sem] def P150:PSpec:=p1 iI (fun _=>True) (fun n=>.bool (dayB n)) true
@[go_sem] def EH:Spec:=P150.toSpec
theorem AQ:aW Tryz.prog 150 P150:=by
 refine fV (rs:=[.tmp 2]) Tryz.func150 Tryz.ntmps150 fun n hp hw=>?_
 simp only[iI]at hw |-
 have hΓ:=uf
 repeat refine sq ?_
 refine rs hΓ [0] [] ?_
 repeat refine sq ?_
 refine rs hΓ [2] [] ?_
 refine aA ?_
 simp only[go_sem]
 all_goals exact dJ
def lH(a b:Int):Int:=if a<b then -1 else if b<a then 1 else 0
@[go_sem] def P140:PSpec:=p2 iI iI (fun _ _=>True) (fun a b=>vInt (lH a b)) true
@[go_sem] def Zi:Spec:=P140.toSpec
theorem PT:aW Tryz.prog 140 P140:=by
 refine ez (rs:=[.tmp 4]) Tryz.func140 Tryz.ntmps140 fun a b hp hw=>?_
 simp only[iI]at hw |-
 have hΓ:=uf
 repeat refine sq ?_
 refine rs hΓ [0,1] [] ?_
 repeat refine sq ?_
 refine rs hΓ [0,1,5] [] ?_
 repeat refine sq ?_
 refine rs hΓ [0,1,5,6] [] ?_
 repeat refine sq ?_
 refine rs hΓ [0,1,6,11] [] ?_
 repeat refine ei ?_
 refine aB (fun hb=>?_) fun hb=>?_
 ·repeat refine ei ?_
  repeat refine sq ?_
  refine rs hΓ [12] [] ?_
  repeat refine ei ?_
  refine aB (fun hb=>?_) fun hb=>?_
  ·repeat refine ei ?_
   repeat refine sq ?_
   refine rs hΓ [4] [] ?_
   refine aA ?_
   simp only[go_sem]
   all_goals first | rfl | (simp;done) | (grind [lH];done)
  ·repeat refine ei ?_
   refine aE ?_
   repeat refine sq ?_
   refine rs hΓ [4] [] ?_
   refine aA ?_
   simp only[go_sem]
   all_goals first | rfl | (simp;done) | (grind [lH];done)
 ·repeat refine ei ?_
  refine aE ?_
  repeat refine sq ?_
  refine rs hΓ [0,1,13] [] ?_
  repeat refine ei ?_
  refine aB (fun hb=>?_) fun hb=>?_
  ·repeat refine ei ?_
   repeat refine sq ?_
   refine rs hΓ [4] [] ?_
   refine aA ?_
   simp only[go_sem]
   all_goals first | rfl | (simp;done) | (grind [lH];done)
  ·repeat refine ei ?_
   refine aE ?_
   repeat refine sq ?_
   refine rs hΓ [0,1,16] [] ?_
   repeat refine ei ?_
   refine aB (fun hb=>?_) fun hb=>?_
   ·repeat refine ei ?_
    repeat refine sq ?_
    refine rs hΓ [4] [] ?_
    refine aA ?_
    simp only[go_sem]
    all_goals first | rfl | (simp;done) | (grind [lH];done)
   ·repeat refine ei ?_
    refine aE ?_
    repeat refine sq ?_
    refine rs hΓ [19] [] ?_
    repeat refine ei ?_
    refine aB (fun hb=>?_) fun hb=>?_
    ·repeat refine ei ?_
     repeat refine sq ?_
     refine rs hΓ [4] [] ?_
     refine aA ?_
     simp only[go_sem]
     all_goals first | rfl | (simp;done) | (grind [lH];done)
    ·repeat refine ei ?_
     refine aE ?_
     repeat refine sq ?_
     refine rs hΓ [4] [] ?_
     refine aA ?_
     simp only[go_sem]
     all_goals first | rfl | (simp;done) | (grind [lH];done)
def bY(since Fc known:Int):Bool:=decide (since<=known)&&(Fc==0||decide (known<Fc))
@[go_sem] def P157:PSpec:=p3 iI iI iI (fun _ _ _=>True) (fun a b c=>.bool (bY a b c)) true
@[go_sem] def Ab:Spec:=P157.toSpec
theorem AP:aW Tryz.prog 157 P157:=by
 refine kX (rs:=[.tmp 6]) Tryz.func157 Tryz.ntmps157 fun a b c hp hw=>?_
 simp only[iI]at hw |-
 have hΓ:=@fj Tryz.prog
 repeat refine sq ?_
 refine rs hΓ [0,1,2] [] ?_
 repeat refine sq ?_
 refine rs hΓ [6] [] ?_
 refine aA ?_
 simp only[go_sem]
 all_goals first | rfl | (simp;done) | (grind [bY];done)
@[go_sem] def P162:PSpec:=p3 iI iI iI (fun _ _ _=>True) (fun a b c=>.bool (bY a b c)) true
@[go_sem] def S162:Spec:=P162.toSpec
theorem PK:aW Tryz.prog 162 P162:=by
 refine kX (rs:=[.tmp 6]) Tryz.func162 Tryz.ntmps162 fun a b c hp hw=>?_
 simp only[iI]at hw |-
 have hΓ:=@fj Tryz.prog
 repeat refine sq ?_
 refine rs hΓ [0,1,2] [] ?_
 repeat refine sq ?_
 refine rs hΓ [6] [] ?_
 refine aA ?_
 simp only[go_sem]
 all_goals first | rfl | (simp;done) | (grind [bY];done)
theorem Jm:aM Tryz.prog 162 S162:=PK.sound
end
noncomputable section
def kZ(k u:Int):Bool:=dayB k&&(u==0||(decide (k<u)&&decide (u<=100000)))
def K2:List (Nat×Spec):=[(96,rX),(145,EI),(150,EH),(144,Np),(147,No),(148,Nn)]
theorem aaw:KS K2:=tc sD.sound<|tc AR.sound<|tc AQ.sound<|tc FQ.sound<|tc FP.sound<|tc FO.sound<|tn
attribute [go_sem] K2
theorem Oc(k u:Int):(dayB k&&(u==0||bI u (IntKind.i64.wrap (k+1)) 100000))=kZ k u:=by
 unfold kZ
 cases h:dayB k with
 |false=>rfl
 |true=>
  unfold dayB bI at h
  simp only[Bool.and_eq_true,decide_eq_true_eq]at h
  rw[wrap_i64 (by omega) (by omega)]
  unfold bI
  simp only[Bool.true_and]
  congr 2
@[go_sem] def P151:PSpec:=p2 iI iI (fun _ _=>True) (fun a b=>.bool (kZ a b)) true
@[go_sem] def Zg:Spec:=P151.toSpec
theorem PR:aW Tryz.prog 151 P151:=by
 refine ez (rs:=[.tmp 4]) Tryz.func151 Tryz.ntmps151 fun k u hp hw=>?_
 simp only[iI]at hw |-
 have hΓ:=aaw
 repeat refine sq ?_
 refine rs hΓ [0,1] [] ?_
 repeat refine sq ?_
 refine rs hΓ [4] [] ?_
 refine aA ?_
 simp only[go_sem]
 all_goals first | rfl | (simp;done) | (exact congrArg V.bool (Oc _ _);done)
open Classical in
def qm(l:List Int):Bool:=decide (∀ j (h:j<l.length),0<j->l[j-1] <l[j])
theorem xi{l:List Int}:qm l=true↔∀ j (h:j<l.length),0<j->l[j-1] <l[j]:=by unfold qm;exact decide_eq_true_iff
theorem Qk{l:List Int}{j:Nat}(h:j<l.length)(h0:0<j)(hb:l[j-1]>=l[j]):qm l=false:=by
 rw[Bool.eq_false_iff]
 intro k
 have :=xi.1 k j h h0
 omega
theorem EZ{i n:Nat}(h0:0<i)(h:i<=n)(hn:n<=maxLen):IntKind.i64.wrap ((i:Int)-1)=((i-1:Nat):Int):=Ak (by omega) (Nat.le_trans h hn)
@[go_sem] def P130:PSpec:=p1 eh (fun _=>True) (fun l=>.bool (qm l)) true
@[go_sem] def Nq:Spec:=P130.toSpec
set_option maxHeartbeats 4000000 in
theorem PU:aW Tryz.prog 130 P130:=by
 refine fV (rs:=[.tmp 2]) Tryz.func130 Tryz.ntmps130 fun l hp hw=>?_
 have hP:=fL
 simp only[eh]at hw |-
 have hΓ:=@fj Tryz.prog
 have hl:l.length<=maxLen:=by have:=hw.1.1;simpa using this
 repeat refine sq ?_
 refine rs hΓ [0] [] ?_
 repeat refine sq ?_
 refine rs hΓ [0,3] [] ?_
 repeat refine sq ?_
 refine aS ?_
 repeat refine sq ?_
 refine cv (fun i:Nat=>[(3,⟨true,.v (vInt i)⟩)]) (fun i=>[]) (fun i=>0<i/\∀ j (h:j<l.length),j<i->0<j->l[j-1] <l[j]) (fun i=>l.length-i) 1 ?_ ?_ ?_ ?_
 ·exact⟨Nat.one_pos,fun j h h1 h2=>by omega⟩
 ·rfl
 ·rfl
 rintro i ⟨h0,hz⟩
 simp only[go_sem]
 repeat refine sq ?_
 refine rs hΓ [0,3,7] [] ?_
 repeat refine sq ?_
 refine aB (fun hb=>?_) fun hb=>?_
 ·have ab:i<l.length:=by simpa using hb
  have aq:(i:Int)<l.length:=by omega
  have pD:=EZ h0 (Nat.le_of_lt ab) hl
  have Cx:(0:Int)<=((i-1:Nat):Int):=by omega
  have yk:((i-1:Nat):Int)<l.length:=by omega
  have Cw:i-1<l.length:=by omega
  repeat refine sq ?_
  refine aE ?_
  repeat refine sq ?_
  refine aS ?_
  repeat refine sq ?_
  refine dx hΓ hP [[],[],[1],[0,1,2],u4,[],[],[5,6],[5,6,7],u9] [0,3,19] [] (by kernel_rfl) (fun K' hK=>by simp only[go_sem,pD,ah ab,ah Cw,ai,ak,aq,yk];exact fd) ?_
  repeat refine sq ?_
  refine aB (fun hb=>?_) fun hb=>?_
  ·repeat refine sq ?_
   refine rs hΓ [2] [] ?_
   refine aA ?_
   simp only[go_sem]
   rw[Qk ab h0 (by simpa using hb)]
  ·replace hb:l[i-1] <l[i]:=by simpa using hb
   repeat refine sq ?_
   refine aE ?_
   refine cf ?_
   simp only[go_sem]
   refine kp [0,3] [] ?_
   repeat refine sq ?_
   refine aY hΓ fun K' hK=>?_
   simp only[go_sem]
   repeat (refine⟨ob,?_⟩)
   refine hK _ ?_
   clear K' hK
   simp only[go_sem]
   refine⟨i+1,⟨by omega,fun j h h1 h2=>?_⟩,by omega,?_⟩
   ·rcases Nat.lt_succ_iff_lt_or_eq.1 h1 with h3 | rfl
    ·exact hz j h h3 h2
    ·exact hb
   refine bq [0,3] [] ?_ ?_<;>simp only[go_sem,bj ab hl,bn]
 ·have bx:l.length<=i:=by
    have :¬ (i:Int)<l.length:=by simpa using hb
    omega
  repeat refine sq ?_
  refine bV ?_
  simp only[go_sem]
  refine kp [] [] ?_
  repeat refine sq ?_
  refine rs hΓ [2] [] ?_
  refine aA ?_
  simp only[go_sem]
  rw[xi.2 fun j h h0=>hz j h (by omega) h0]
end
noncomputable section
def K3:List (Nat×Spec):=[(130,Nq),(145,EI),(96,rX)]
theorem aah:KS K3:=tc PU.sound<|tc AR.sound<|tc sD.sound<|tn
attribute [go_sem] K3
def kz(l:List Int):Bool:=decide (0<l.length)&&qm l&&bI (l.getD 0 0) 1 30&&bI (l.getD (l.length-1) 0) 1 30
@[go_sem] def P149:PSpec:=p1 eh (fun _=>True) (fun l=>.bool (kz l)) true
@[go_sem] def Zh:Spec:=P149.toSpec
set_option maxHeartbeats 4000000 in
theorem PS:aW Tryz.prog 149 P149:=by
 refine fV (rs:=[.tmp 2]) Tryz.func149 Tryz.ntmps149 fun l hp hw=>?_
 simp only[eh]at hw |-
 have hΓ:=aah
 have hl:l.length<=maxLen:=by have:=hw.1.1;simpa using this
 by_cases h0:l.length=0
 ·have e0:l=[]:=List.length_eq_zero_iff.1 h0
  subst e0
  repeat refine sq ?_
  refine rs hΓ [0] [] ?_
  repeat refine sq ?_
  refine rs hΓ [2] [] ?_
  refine aA ?_
  simp only[go_sem]
  rfl
 ·have hq:0<l.length:=by omega
  have cj:(0:Int)<l.length:=by omega
  have np:=Ak h0 hl
  have ym:((l.length-1:Nat):Int)<l.length:=by omega
  have kF:l.length-1<l.length:=by omega
  have hp3:(0:Int)<=((l.length-1:Nat):Int):=by omega
  have Vy:(l.map vInt).getD 0 default=vInt (l.getD 0 0):=by rw[ah hq,bW hq]
  have eF:(l.map vInt).getD (l.length-1) default=vInt (l.getD (l.length-1) 0):=by rw[ah kF,bW kF]
  have hd:decide ((l.length:Int)>0)=true:=by simpa using hq
  repeat refine sq ?_
  refine rs hΓ [0] [] ?_
  repeat refine sq ?_
  refine rx hΓ [2] [] (fun K' hK=>by simp only[go_sem,np,Vy,eF,ai,Int.toNat_zero,ak,cj,ym,hd,decide_true];exact fn) ?_
  refine aA ?_
  simp only[go_sem]
  have Cw:decide (0<l.length)=true:=by simpa using hq
  simp only[kz,Cw,Bool.true_and,Bool.decide_and,Bool.decide_eq_true]
theorem xp{i n:Nat}(h:i<n)(hn:n<=maxLen):∃ p:Nat,(IntKind.i64.wrap ((i:Int)-1)).toNat=p/\p<n/\(0<i->p=i-1/\0<=IntKind.i64.wrap ((i:Int)-1)/\IntKind.i64.wrap ((i:Int)-1)<n):=by
 unfold maxLen at hn
 rcases Nat.eq_zero_or_pos i with rfl | hp
 ·exact⟨0,by decide,h,fun h=>by omega⟩
 ·have:IntKind.i64.wrap ((i:Int)-1)=((i-1:Nat):Int):=by rw[wrap_i64 (by omega) (by omega)];omega
  exact⟨i-1,by rw[this];rfl,by omega,fun _=>⟨rfl,by omega,by omega⟩⟩
theorem A0{l:List Int}(hr:qm l=true):∀ (k j:Nat) (h:j+k<l.length),l[j]+k<=l[j+k]
 | 0,j,h=>by simp
 |k+1,j,h=>by
  have h1:=A0 hr k j (by omega)
  have h2:=xi.1 hr (j+k+1) (by omega) (by omega)
  have e:j+k+1-1=j+k:=by omega
  simp only[e]at h2
  show l[j]+((k+1:Nat):Int)<=l[j+k+1]
  omega
theorem qx{l:List Int}:kz l=true↔0<l.length/\l.length<=30/\qm l=true/\∀ j (h:j<l.length),bI l[j] 1 30=true:=by
 unfold kz
 simp only[Bool.and_eq_true,decide_eq_true_eq]
 constructor
 ·rintro⟨⟨⟨h1,h2⟩,h3⟩,h4⟩
  have kF:l.length-1<l.length:=by omega
  rw[bW h1]at h3
  rw[bW kF]at h4
  unfold bI at h3 h4 |-
  simp only[Bool.and_eq_true,decide_eq_true_eq]at h3 h4 |-
  have el:∀ j (h:j<l.length),l[0]+j<=l[j]:=fun j h=>by
   have :=A0 h2 j 0 (by omega)
   simpa using this
  have gi:∀ j (h:j<l.length),l[j]<=l[l.length-1]:=fun j h=>by
   have :=A0 h2 (l.length-1-j) j (by omega)
   have e:j+(l.length-1-j)=l.length-1:=by omega
   simp only[e]at this
   omega
  refine⟨h1,?_,h2,fun j h=>?_⟩
  ·have:=el _ kF;omega
  ·have a:=el j h;have b:=gi j h;omega
 ·rintro⟨h1,h2,h3,h4⟩
  have kF:l.length-1<l.length:=by omega
  refine⟨⟨⟨h1,h3⟩,?_⟩,?_⟩
  ·rw[bW h1];exact h4 0 h1
  ·rw[bW kF];exact h4 _ kF
theorem tW{b:Bool}{p:Prop}(h:b=true↔p)(hn:¬ p):b=false:=by
 cases b with
 |false=>rfl
 |true=>exact(hn (h.1 rfl)).elim
end
set_option maxHeartbeats 8000000
noncomputable section
def K4:List (Nat×Spec):=[(96,rX),(144,Np),(145,EI),(147,No),(148,Nn),(149,Zh),(150,EH),(151,Zg)]
theorem Ah:KS K4:=tc sD.sound<|tc FQ.sound<|tc AR.sound<|tc FP.sound<|tc FO.sound<|tc PS.sound<|tc AQ.sound<|tc PR.sound<|tn
attribute [go_sem] K4
def fS(b:Bool)(n:Int):Int:=if b then 0 else n
theorem za(b:Bool)(n:Int)(hn:n≠0):(fS b n != 0)=!b:=by cases b<;>simp[fS,hn]
def m7(p:Pap):Bool:=bI p.id 1 999&&bI p.lv 1 30
def dP(r:Rec):Bool:=bI r.so 1 99999&&bI r.bo 1 99&&bI r.pa 1 999&&kz r.lv&&dayB r.da&&kZ r.kn r.un
def jj(r:Ret):Bool:=bI r.so 1 99999&&bI r.re 1 99999&&bI r.pe 1 99&&kz r.lv&&bI r.lo 0 r.hi&&dayB r.hi&&kZ r.kn r.un
def ld(s:Sig):Bool:=bI s.so 1 99999&&bI s.pe 0 99&&bI s.pa 1 999&&bI s.le 1 30&&dayB s.da&&kZ s.kn s.un
@[go_sem] def P61:PSpec:=p1 iP (fun _=>True) (fun x=>vInt (fS (m7 x) 20)) true
@[go_sem] def Y0:Spec:=P61.toSpec
theorem Pm:aW Tryz.prog 61 P61:=by
 refine fV (rs:=[.tmp 2]) Tryz.func61 Tryz.ntmps61 fun x hp hw=>?_
 simp only[iP,dk]at hw |-
 have hΓ:=Ah
 repeat refine sq ?_
 refine rs hΓ [1] [[1,0]] ?_
 repeat refine sq ?_
 refine rs hΓ [12] [] ?_
 repeat refine ei ?_
 refine aB (fun hb=>?_) fun hb=>?_
 ·repeat refine ei ?_
  repeat refine sq ?_
  refine rs hΓ [2] [] ?_
  refine aA ?_
  simp only[go_sem]
  all_goals first | rfl | (simp;done) | (grind [m7,fS];done)
 ·repeat refine ei ?_
  refine aE ?_
  repeat refine sq ?_
  refine rs hΓ [2] [] ?_
  refine aA ?_
  simp only[go_sem]
  all_goals first | rfl | (simp;done) | (grind [m7,fS];done)
@[go_sem] def P63:PSpec:=p1 iR (fun _=>True) (fun x=>vInt (fS (dP x) 21)) true
@[go_sem] def YZ:Spec:=P63.toSpec
theorem Pl:aW Tryz.prog 63 P63:=by
 refine fV (rs:=[.tmp 2]) Tryz.func63 Tryz.ntmps63 fun x hp hw=>?_
 simp only[iR,encR]at hw |-
 have hΓ:=Ah
 repeat refine sq ?_
 refine rs hΓ [1] [[1,0]] ?_
 repeat refine sq ?_
 refine rs hΓ [38] [] ?_
 repeat refine ei ?_
 refine aB (fun hb=>?_) fun hb=>?_
 ·repeat refine ei ?_
  repeat refine sq ?_
  refine rs hΓ [2] [] ?_
  refine aA ?_
  simp only[go_sem]
  all_goals first | rfl | (simp;done) | (grind [dP,fS];done)
 ·repeat refine ei ?_
  refine aE ?_
  repeat refine sq ?_
  refine rs hΓ [2] [] ?_
  refine aA ?_
  simp only[go_sem]
  all_goals first | rfl | (simp;done) | (grind [dP,fS];done)
@[go_sem] def P65:PSpec:=p1 iT (fun _=>True) (fun x=>vInt (fS (jj x) 22)) true
@[go_sem] def YY:Spec:=P65.toSpec
theorem Pk:aW Tryz.prog 65 P65:=by
 refine fV (rs:=[.tmp 2]) Tryz.func65 Tryz.ntmps65 fun x hp hw=>?_
 simp only[iT,dB]at hw |-
 have hΓ:=Ah
 repeat refine sq ?_
 refine rs hΓ [1] [[1,0]] ?_
 repeat refine sq ?_
 refine rs hΓ [49] [] ?_
 repeat refine ei ?_
 refine aB (fun hb=>?_) fun hb=>?_
 ·repeat refine ei ?_
  repeat refine sq ?_
  refine rs hΓ [2] [] ?_
  refine aA ?_
  simp only[go_sem]
  all_goals first | rfl | (simp;done) | (grind [jj,fS];done)
 ·repeat refine ei ?_
  refine aE ?_
  repeat refine sq ?_
  refine rs hΓ [2] [] ?_
  refine aA ?_
  simp only[go_sem]
  all_goals first | rfl | (simp;done) | (grind [jj,fS];done)
@[go_sem] def P67:PSpec:=p1 iS (fun _=>True) (fun x=>vInt (fS (ld x) 23)) true
@[go_sem] def Nf:Spec:=P67.toSpec
theorem Pj:aW Tryz.prog 67 P67:=by
 refine fV (rs:=[.tmp 2]) Tryz.func67 Tryz.ntmps67 fun x hp hw=>?_
 simp only[iS,encS]at hw |-
 have hΓ:=Ah
 repeat refine sq ?_
 refine rs hΓ [1] [[1,0]] ?_
 repeat refine sq ?_
 refine rs hΓ [38] [] ?_
 repeat refine ei ?_
 refine aB (fun hb=>?_) fun hb=>?_
 ·repeat refine ei ?_
  repeat refine sq ?_
  refine rs hΓ [2] [] ?_
  refine aA ?_
  simp only[go_sem]
  all_goals first | rfl | (simp;done) | (grind [ld,fS];done)
 ·repeat refine ei ?_
  refine aE ?_
  repeat refine sq ?_
  refine rs hΓ [2] [] ?_
  refine aA ?_
  simp only[go_sem]
  all_goals first | rfl | (simp;done) | (grind [ld,fS];done)
@[go_sem] def P110:PSpec:=p1 iP (fun _=>True) (fun x=>vInt x.id) true
@[go_sem] def Zr:Spec:=P110.toSpec
theorem P1:aW Tryz.prog 110 P110:=by
 refine fV (rs:=[.tmp 2]) Tryz.func110 Tryz.ntmps110 fun x hp hw=>?_
 simp only[iP,dk]at hw |-
 have hΓ:=@fj Tryz.prog
 repeat refine sq ?_
 refine rs hΓ [1] [[1,0]] ?_
 repeat refine sq ?_
 refine rs hΓ [2] [] ?_
 refine aA ?_
 simp only[go_sem]
 all_goals exact dJ
@[go_sem] def P112:PSpec:=p1 iR (fun _=>True) (fun x=>vInt x.so) true
@[go_sem] def Zp:Spec:=P112.toSpec
theorem PZ:aW Tryz.prog 112 P112:=by
 refine fV (rs:=[.tmp 2]) Tryz.func112 Tryz.ntmps112 fun x hp hw=>?_
 simp only[iR,encR]at hw |-
 have hΓ:=@fj Tryz.prog
 repeat refine sq ?_
 refine rs hΓ [1] [[1,0]] ?_
 repeat refine sq ?_
 refine rs hΓ [2] [] ?_
 refine aA ?_
 simp only[go_sem]
 all_goals exact dJ
@[go_sem] def P114:PSpec:=p1 iT (fun _=>True) (fun x=>vInt x.so) true
@[go_sem] def Zn:Spec:=P114.toSpec
theorem PX:aW Tryz.prog 114 P114:=by
 refine fV (rs:=[.tmp 2]) Tryz.func114 Tryz.ntmps114 fun x hp hw=>?_
 simp only[iT,dB]at hw |-
 have hΓ:=@fj Tryz.prog
 repeat refine sq ?_
 refine rs hΓ [1] [[1,0]] ?_
 repeat refine sq ?_
 refine rs hΓ [2] [] ?_
 refine aA ?_
 simp only[go_sem]
 all_goals exact dJ
@[go_sem] def P116:PSpec:=p1 iS (fun _=>True) (fun x=>vInt x.so) true
@[go_sem] def Zl:Spec:=P116.toSpec
theorem PV:aW Tryz.prog 116 P116:=by
 refine fV (rs:=[.tmp 2]) Tryz.func116 Tryz.ntmps116 fun x hp hw=>?_
 simp only[iS,encS]at hw |-
 have hΓ:=@fj Tryz.prog
 repeat refine sq ?_
 refine rs hΓ [1] [[1,0]] ?_
 repeat refine sq ?_
 refine rs hΓ [2] [] ?_
 refine aA ?_
 simp only[go_sem]
 all_goals exact dJ
end
set_option maxHeartbeats 8000000
noncomputable section
def K5:List (Nat×Spec):=[(61,Y0),(63,YZ),(65,YY),(67,Nf),(110,Zr),(112,Zp),(114,Zn),(116,Zl)]
theorem Ag:KS K5:=tc Pm.sound<|tc Pl.sound<|tc Pk.sound<|tc Pj.sound<|tc P1.sound<|tc PZ.sound<|tc PX.sound<|tc PV.sound<|tn
attribute [go_sem] K5
def nc{α:Type}(fA:α->Bool)(num:α->Int)(l:List α)(n:Nat):Prop:=∀ j (h:j<l.length),j<n->fA l[j]=true/\(0<j->num l[j-1] <num l[j])
open Classical in
def i4{α:Type}(fA:α->Bool)(num:α->Int)(l:List α):Bool:=decide (nc fA num l l.length)
theorem j'{α:Type}{fA:α->Bool}{num:α->Int}{l:List α}:i4 fA num l=true↔nc fA num l l.length:=by unfold i4;exact @decide_eq_true_iff _ (Classical.propDecidable _)
theorem xv{α:Type}{fA:α->Bool}{num:α->Int}{l:List α}:nc fA num l 0:=fun j _ h=>by omega
theorem xw{α:Type}{fA:α->Bool}{num:α->Int}{l:List α}{i:Nat}(h:nc fA num l i)(hi:i<l.length)(hc:fA l[i]=true/\(0<i->num l[i-1] <num l[i])):nc fA num l (i+1):=by
 intro j hj eC
 rcases Nat.lt_succ_iff_lt_or_eq.1 eC with h1 | rfl
 ·exact h j hj h1
 ·exact hc
@[go_sem] def P109:PSpec:=p4 (fE iP) iI (iF 61) (iF 110) (fun _ _ _ _=>True) (fun l m _ _=>.bool (i4 m7 Pap.id l&&decide ((l.length:Int)<=m))) true
@[go_sem] def Zs:Spec:=P109.toSpec
theorem P2:aW Tryz.prog 109 P109:=by
 refine qi (rs:=[.tmp 8]) Tryz.func109 Tryz.ntmps109 fun l m _ _ hp hw=>?_
 have hP:=fL
 simp only[iF,iI,iP,fE,iC,dk]at hw |-
 have hΓ:=Ag
 have hl:l.length<=maxLen:=by have:=hw.1.1;simpa using this
 repeat refine sq ?_
 refine rs hΓ [0,1,2,3] [] ?_
 repeat refine sq ?_
 refine rs hΓ [0,1,2,3,11,12,13] [] ?_
 repeat refine sq ?_
 refine aS ?_
 repeat refine sq ?_
 refine cv (fun s:Nat=>[(13,⟨true,.v (vInt s)⟩)]) (fun s=>[]) (fun s=>s<=l.length/\nc m7 Pap.id l s) (fun s=>l.length-s) 0 ?_ ?_ ?_ ?_
 ·exact⟨Nat.zero_le _,xv⟩
 ·rfl
 ·rfl
 rintro i ⟨hi,hR⟩
 simp only[go_sem]
 repeat refine sq ?_
 refine rs hΓ [0,1,2,3,11,12,13,14] [] ?_
 repeat refine sq ?_
 refine aB (fun hb=>?_) fun hb=>?_
 ·have ab:i<l.length:=by simpa using hb
  have aq:(i:Int)<l.length:=by omega
  clear hb
  obtain⟨p,hp,pI,cB⟩:=xp ab hl
  repeat refine sq ?_
  refine aE ?_
  repeat refine sq ?_
  refine aS ?_
  repeat refine sq ?_
  refine rx hΓ [0,1,2,3,9,10,11,12,13] [[10,0]] (fun K' hK=>by simp only[go_sem,ah ab,ai,ak,aq];exact fn) ?_
  repeat refine sq ?_
  refine dx hΓ hP [[],[],[0,1],[0,1,2],u4,u5,u6,u7,u8,u8,u8,[0,1,2,3,4,5,6,7,10],[0,1,2,3,4,5,6,7,9,10,11],[0,1,2,3,4,5,6,7,9,10,11,12],kf,u8,u8,kY,jF,lW,nX] [0,1,2,3,11,12,13,38] [] (by kernel_rfl) (fun K' hK=>by simp only[go_sem,ah ab,ai,ak,aq,hp,ah pI,fun b=>za b 20 (by decide)];(repeat (refine⟨by first | exact ob | (intro h;have:=cB (by simp_all);simp_all;done),?_⟩));exact gL) ?_
  repeat refine sq ?_
  refine aB (fun hb=>?_) fun hb=>?_
  ·repeat refine sq ?_
   have jw:i4 m7 Pap.id l=false:=by
    rw[tW j']
    intro h
    obtain⟨h1,h2⟩:=h i ab ab
    simp only[h1,Bool.not_true,Bool.false_or,Bool.and_eq_true,decide_eq_true_eq]at hb
    obtain⟨e,_⟩:=cB (by omega)
    subst e
    have :=h2 (by omega)
    have :=hb.2
    omega
   repeat refine sq ?_
   refine rx hΓ [8] [] (fun K' hK=>by simp only[go_sem,ah ab,ai,ak,aq];exact fn) ?_
   refine aA ?_
   simp only[go_sem]
   rw[jw];rfl
  ·repeat refine sq ?_
   have hn:m7 l[i]=true/\(0<i->Pap.id l[i-1] <Pap.id l[i]):=by
    simp only[Bool.or_eq_false_iff,Bool.not_eq_false',Bool.and_eq_false_iff,decide_eq_false_iff_not]at hb
    refine⟨hb.1,fun h=>?_⟩
    obtain⟨e,_⟩:=cB h
    subst e
    omega
   refine aE ?_
   refine cf ?_
   simp only[go_sem]
   refine kp [0,1,2,3,11,12,13] [] ?_
   repeat refine sq ?_
   refine aY hΓ fun K' hK=>?_
   simp only[go_sem,ah ab,ai,ak,aq]
   repeat (refine⟨ob,?_⟩)
   refine hK _ ?_
   clear K' hK
   simp only[go_sem]
   refine⟨i+1,⟨ab,?_⟩,by(show l.length-(i+1)<l.length-i;omega),?_⟩
   ·exact xw hR ab hn
   refine bq [0,1,2,3,11,12,13] [] ?_ ?_<;>simp only[go_sem,bj ab hl,bn]
 ·have bx:i=l.length:=by
   have :¬ (i:Int)<l.length:=by simpa using hb
   omega
  clear hb
  subst bx
  repeat refine sq ?_
  refine bV ?_
  simp only[go_sem]
  refine kp [0,1] [] ?_
  repeat refine sq ?_
  refine rs hΓ [8] [] ?_
  refine aA ?_
  simp only[go_sem]
  rw[j'.2 hR];rfl
@[go_sem] def P111:PSpec:=p4 (fE iR) iI (iF 63) (iF 112) (fun _ _ _ _=>True) (fun l m _ _=>.bool (i4 dP Rec.so l&&decide ((l.length:Int)<=m))) true
@[go_sem] def Zq:Spec:=P111.toSpec
theorem P0:aW Tryz.prog 111 P111:=by
 refine qi (rs:=[.tmp 8]) Tryz.func111 Tryz.ntmps111 fun l m _ _ hp hw=>?_
 have hP:=fL
 simp only[iF,iI,iR,fE,iC,encR]at hw |-
 have hΓ:=Ag
 have hl:l.length<=maxLen:=by have:=hw.1.1;simpa using this
 repeat refine sq ?_
 refine rs hΓ [0,1,2,3] [] ?_
 repeat refine sq ?_
 refine rs hΓ [0,1,2,3,11,12,13] [] ?_
 repeat refine sq ?_
 refine aS ?_
 repeat refine sq ?_
 refine cv (fun s:Nat=>[(13,⟨true,.v (vInt s)⟩)]) (fun s=>[]) (fun s=>s<=l.length/\nc dP Rec.so l s) (fun s=>l.length-s) 0 ?_ ?_ ?_ ?_
 ·exact⟨Nat.zero_le _,xv⟩
 ·rfl
 ·rfl
 rintro i ⟨hi,hR⟩
 simp only[go_sem]
 repeat refine sq ?_
 refine rs hΓ [0,1,2,3,11,12,13,14] [] ?_
 repeat refine sq ?_
 refine aB (fun hb=>?_) fun hb=>?_
 ·have ab:i<l.length:=by simpa using hb
  have aq:(i:Int)<l.length:=by omega
  clear hb
  obtain⟨p,hp,pI,cB⟩:=xp ab hl
  repeat refine sq ?_
  refine aE ?_
  repeat refine sq ?_
  refine aS ?_
  repeat refine sq ?_
  refine rx hΓ [0,1,2,3,9,10,11,12,13] [[10,0]] (fun K' hK=>by simp only[go_sem,ah ab,ai,ak,aq];exact fn) ?_
  repeat refine sq ?_
  refine dx hΓ hP [[],[],[0,1],[0,1,2],u4,u5,u6,u7,u8,u8,u8,[0,1,2,3,4,5,6,7,10],[0,1,2,3,4,5,6,7,9,10,11],[0,1,2,3,4,5,6,7,9,10,11,12],kf,u8,u8,kY,jF,lW,nX] [0,1,2,3,11,12,13,38] [] (by kernel_rfl) (fun K' hK=>by simp only[go_sem,ah ab,ai,ak,aq,hp,ah pI,fun b=>za b 21 (by decide)];(repeat (refine⟨by first | exact ob | (intro h;have:=cB (by simp_all);simp_all;done),?_⟩));exact gL) ?_
  repeat refine sq ?_
  refine aB (fun hb=>?_) fun hb=>?_
  ·repeat refine sq ?_
   have jw:i4 dP Rec.so l=false:=by
    rw[tW j']
    intro h
    obtain⟨h1,h2⟩:=h i ab ab
    simp only[h1,Bool.not_true,Bool.false_or,Bool.and_eq_true,decide_eq_true_eq]at hb
    obtain⟨e,_⟩:=cB (by omega)
    subst e
    have :=h2 (by omega)
    have :=hb.2
    omega
   repeat refine sq ?_
   refine rx hΓ [8] [] (fun K' hK=>by simp only[go_sem,ah ab,ai,ak,aq];exact fn) ?_
   refine aA ?_
   simp only[go_sem]
   rw[jw];rfl
  ·repeat refine sq ?_
   have hn:dP l[i]=true/\(0<i->Rec.so l[i-1] <Rec.so l[i]):=by
    simp only[Bool.or_eq_false_iff,Bool.not_eq_false',Bool.and_eq_false_iff,decide_eq_false_iff_not]at hb
    refine⟨hb.1,fun h=>?_⟩
    obtain⟨e,_⟩:=cB h
    subst e
    omega
   refine aE ?_
   refine cf ?_
   simp only[go_sem]
   refine kp [0,1,2,3,11,12,13] [] ?_
   repeat refine sq ?_
   refine aY hΓ fun K' hK=>?_
   simp only[go_sem,ah ab,ai,ak,aq]
   repeat (refine⟨ob,?_⟩)
   refine hK _ ?_
   clear K' hK
   simp only[go_sem]
   refine⟨i+1,⟨ab,?_⟩,by(show l.length-(i+1)<l.length-i;omega),?_⟩
   ·exact xw hR ab hn
   refine bq [0,1,2,3,11,12,13] [] ?_ ?_<;>simp only[go_sem,bj ab hl,bn]
 ·have bx:i=l.length:=by
   have :¬ (i:Int)<l.length:=by simpa using hb
   omega
  clear hb
  subst bx
  repeat refine sq ?_
  refine bV ?_
  simp only[go_sem]
  refine kp [0,1] [] ?_
  repeat refine sq ?_
  refine rs hΓ [8] [] ?_
  refine aA ?_
  simp only[go_sem]
  rw[j'.2 hR];rfl
@[go_sem] def P113:PSpec:=p4 (fE iT) iI (iF 65) (iF 114) (fun _ _ _ _=>True) (fun l m _ _=>.bool (i4 jj Ret.so l&&decide ((l.length:Int)<=m))) true
@[go_sem] def Zo:Spec:=P113.toSpec
theorem PY:aW Tryz.prog 113 P113:=by
 refine qi (rs:=[.tmp 8]) Tryz.func113 Tryz.ntmps113 fun l m _ _ hp hw=>?_
 have hP:=fL
 simp only[iF,iI,fE,iT,iC,dB]at hw |-
 have hΓ:=Ag
 have hl:l.length<=maxLen:=by have:=hw.1.1;simpa using this
 repeat refine sq ?_
 refine rs hΓ [0,1,2,3] [] ?_
 repeat refine sq ?_
 refine rs hΓ [0,1,2,3,11,12,13] [] ?_
 repeat refine sq ?_
 refine aS ?_
 repeat refine sq ?_
 refine cv (fun s:Nat=>[(13,⟨true,.v (vInt s)⟩)]) (fun s=>[]) (fun s=>s<=l.length/\nc jj Ret.so l s) (fun s=>l.length-s) 0 ?_ ?_ ?_ ?_
 ·exact⟨Nat.zero_le _,xv⟩
 ·rfl
 ·rfl
 rintro i ⟨hi,hR⟩
 simp only[go_sem]
 repeat refine sq ?_
 refine rs hΓ [0,1,2,3,11,12,13,14] [] ?_
 repeat refine sq ?_
 refine aB (fun hb=>?_) fun hb=>?_
 ·have ab:i<l.length:=by simpa using hb
  have aq:(i:Int)<l.length:=by omega
  clear hb
  obtain⟨p,hp,pI,cB⟩:=xp ab hl
  repeat refine sq ?_
  refine aE ?_
  repeat refine sq ?_
  refine aS ?_
  repeat refine sq ?_
  refine rx hΓ [0,1,2,3,9,10,11,12,13] [[10,0]] (fun K' hK=>by simp only[go_sem,ah ab,ai,ak,aq];exact fn) ?_
  repeat refine sq ?_
  refine dx hΓ hP [[],[],[0,1],[0,1,2],u4,u5,u6,u7,u8,u8,u8,[0,1,2,3,4,5,6,7,10],[0,1,2,3,4,5,6,7,9,10,11],[0,1,2,3,4,5,6,7,9,10,11,12],kf,u8,u8,kY,jF,lW,nX] [0,1,2,3,11,12,13,38] [] (by kernel_rfl) (fun K' hK=>by simp only[go_sem,ah ab,ai,ak,aq,hp,ah pI,fun b=>za b 22 (by decide)];(repeat (refine⟨by first | exact ob | (intro h;have:=cB (by simp_all);simp_all;done),?_⟩));exact gL) ?_
  repeat refine sq ?_
  refine aB (fun hb=>?_) fun hb=>?_
  ·repeat refine sq ?_
   have jw:i4 jj Ret.so l=false:=by
    rw[tW j']
    intro h
    obtain⟨h1,h2⟩:=h i ab ab
    simp only[h1,Bool.not_true,Bool.false_or,Bool.and_eq_true,decide_eq_true_eq]at hb
    obtain⟨e,_⟩:=cB (by omega)
    subst e
    have :=h2 (by omega)
    have :=hb.2
    omega
   repeat refine sq ?_
   refine rx hΓ [8] [] (fun K' hK=>by simp only[go_sem,ah ab,ai,ak,aq];exact fn) ?_
   refine aA ?_
   simp only[go_sem]
   rw[jw];rfl
  ·repeat refine sq ?_
   have hn:jj l[i]=true/\(0<i->Ret.so l[i-1] <Ret.so l[i]):=by
    simp only[Bool.or_eq_false_iff,Bool.not_eq_false',Bool.and_eq_false_iff,decide_eq_false_iff_not]at hb
    refine⟨hb.1,fun h=>?_⟩
    obtain⟨e,_⟩:=cB h
    subst e
    omega
   refine aE ?_
   refine cf ?_
   simp only[go_sem]
   refine kp [0,1,2,3,11,12,13] [] ?_
   repeat refine sq ?_
   refine aY hΓ fun K' hK=>?_
   simp only[go_sem,ah ab,ai,ak,aq]
   repeat (refine⟨ob,?_⟩)
   refine hK _ ?_
   clear K' hK
   simp only[go_sem]
   refine⟨i+1,⟨ab,?_⟩,by(show l.length-(i+1)<l.length-i;omega),?_⟩
   ·exact xw hR ab hn
   refine bq [0,1,2,3,11,12,13] [] ?_ ?_<;>simp only[go_sem,bj ab hl,bn]
 ·have bx:i=l.length:=by
   have :¬ (i:Int)<l.length:=by simpa using hb
   omega
  clear hb
  subst bx
  repeat refine sq ?_
  refine bV ?_
  simp only[go_sem]
  refine kp [0,1] [] ?_
  repeat refine sq ?_
  refine rs hΓ [8] [] ?_
  refine aA ?_
  simp only[go_sem]
  rw[j'.2 hR];rfl
@[go_sem] def P115:PSpec:=p4 (fE iS) iI (iF 67) (iF 116) (fun _ _ _ _=>True) (fun l m _ _=>.bool (i4 ld Sig.so l&&decide ((l.length:Int)<=m))) true
@[go_sem] def Zm:Spec:=P115.toSpec
theorem PW:aW Tryz.prog 115 P115:=by
 refine qi (rs:=[.tmp 8]) Tryz.func115 Tryz.ntmps115 fun l m _ _ hp hw=>?_
 have hP:=fL
 simp only[iF,iI,iS,fE,iC,encS]at hw |-
 have hΓ:=Ag
 have hl:l.length<=maxLen:=by have:=hw.1.1;simpa using this
 repeat refine sq ?_
 refine rs hΓ [0,1,2,3] [] ?_
 repeat refine sq ?_
 refine rs hΓ [0,1,2,3,11,12,13] [] ?_
 repeat refine sq ?_
 refine aS ?_
 repeat refine sq ?_
 refine cv (fun s:Nat=>[(13,⟨true,.v (vInt s)⟩)]) (fun s=>[]) (fun s=>s<=l.length/\nc ld Sig.so l s) (fun s=>l.length-s) 0 ?_ ?_ ?_ ?_
 ·exact⟨Nat.zero_le _,xv⟩
 ·rfl
 ·rfl
 rintro i ⟨hi,hR⟩
 simp only[go_sem]
 repeat refine sq ?_
 refine rs hΓ [0,1,2,3,11,12,13,14] [] ?_
 repeat refine sq ?_
 refine aB (fun hb=>?_) fun hb=>?_
 ·have ab:i<l.length:=by simpa using hb
  have aq:(i:Int)<l.length:=by omega
  clear hb
  obtain⟨p,hp,pI,cB⟩:=xp ab hl
  repeat refine sq ?_
  refine aE ?_
  repeat refine sq ?_
  refine aS ?_
  repeat refine sq ?_
  refine rx hΓ [0,1,2,3,9,10,11,12,13] [[10,0]] (fun K' hK=>by simp only[go_sem,ah ab,ai,ak,aq];exact fn) ?_
  repeat refine sq ?_
  refine dx hΓ hP [[],[],[0,1],[0,1,2],u4,u5,u6,u7,u8,u8,u8,[0,1,2,3,4,5,6,7,10],[0,1,2,3,4,5,6,7,9,10,11],[0,1,2,3,4,5,6,7,9,10,11,12],kf,u8,u8,kY,jF,lW,nX] [0,1,2,3,11,12,13,38] [] (by kernel_rfl) (fun K' hK=>by simp only[go_sem,ah ab,ai,ak,aq,hp,ah pI,fun b=>za b 23 (by decide)];(repeat (refine⟨by first | exact ob | (intro h;have:=cB (by simp_all);simp_all;done),?_⟩));exact gL) ?_
  repeat refine sq ?_
  refine aB (fun hb=>?_) fun hb=>?_
  ·repeat refine sq ?_
   have jw:i4 ld Sig.so l=false:=by
    rw[tW j']
    intro h
    obtain⟨h1,h2⟩:=h i ab ab
    simp only[h1,Bool.not_true,Bool.false_or,Bool.and_eq_true,decide_eq_true_eq]at hb
    obtain⟨e,_⟩:=cB (by omega)
    subst e
    have :=h2 (by omega)
    have :=hb.2
    omega
   repeat refine sq ?_
   refine rx hΓ [8] [] (fun K' hK=>by simp only[go_sem,ah ab,ai,ak,aq];exact fn) ?_
   refine aA ?_
   simp only[go_sem]
   rw[jw];rfl
  ·repeat refine sq ?_
   have hn:ld l[i]=true/\(0<i->Sig.so l[i-1] <Sig.so l[i]):=by
    simp only[Bool.or_eq_false_iff,Bool.not_eq_false',Bool.and_eq_false_iff,decide_eq_false_iff_not]at hb
    refine⟨hb.1,fun h=>?_⟩
    obtain⟨e,_⟩:=cB h
    subst e
    omega
   refine aE ?_
   refine cf ?_
   simp only[go_sem]
   refine kp [0,1,2,3,11,12,13] [] ?_
   repeat refine sq ?_
   refine aY hΓ fun K' hK=>?_
   simp only[go_sem,ah ab,ai,ak,aq]
   repeat (refine⟨ob,?_⟩)
   refine hK _ ?_
   clear K' hK
   simp only[go_sem]
   refine⟨i+1,⟨ab,?_⟩,by(show l.length-(i+1)<l.length-i;omega),?_⟩
   ·exact xw hR ab hn
   refine bq [0,1,2,3,11,12,13] [] ?_ ?_<;>simp only[go_sem,bj ab hl,bn]
 ·have bx:i=l.length:=by
   have :¬ (i:Int)<l.length:=by simpa using hb
   omega
  clear hb
  subst bx
  repeat refine sq ?_
  refine bV ?_
  simp only[go_sem]
  refine kp [0,1] [] ?_
  repeat refine sq ?_
  refine rs hΓ [8] [] ?_
  refine aA ?_
  simp only[go_sem]
  rw[j'.2 hR];rfl
end
set_option maxHeartbeats 8000000
noncomputable section
theorem RG{i j:Nat}(hi:i<=maxLen)(hj:j<=maxLen):IntKind.i64.wrap ((IntKind.u64.wrap (IntKind.i64.wrap ((i:Int)+(j:Int)))).fdiv (2 ^ min (Int.toNat 1) 64))=(((i+j) / 2:Nat):Int):=by
 unfold maxLen at hi hj
 have h1:min (Int.toNat 1) 64=1:=by decide
 have h2:IntKind.u64.wrap (IntKind.i64.wrap ((i:Int)+(j:Int)))=((i+j:Nat):Int):=by
  rw[IntKind.wrap_u64,IntKind.wrap_i64]
  omega
 rw[h1,h2]
 have h3:(((i+j:Nat):Int)).fdiv (2 ^ 1)=(((i+j) / 2:Nat):Int):=by
  rw[Int.fdiv_eq_ediv_of_nonneg _ (by decide)]
  omega
 rw[h3,wrap_i64 (by omega) (by omega)]
theorem Ma{a b:Int}:lH a b<0↔a<b:=by
 unfold lH
 split
 ·simp[*]
 ·split<;>simp<;>omega
theorem XE{a b:Int}:(lH a b==0)=(a==b):=by
 unfold lH
 split
 ·have:a≠b:=by omega
  simp[this]
 ·split
  ·have:a≠b:=by omega
   simp[this]
  ·have:a=b:=by omega
   simp[this]
def srt{α:Type}(num:α->Int)(l:List α):Prop:=∀ i j (hi:i<l.length) (hj:j<l.length),i<j->num l[i] <num l[j]
theorem Ol{α:Type}{num:α->Int}{l:List α}(h:∀ j (h:j<l.length),0<j->num l[j-1] <num l[j]):srt num l:=by
 intro i j hi hj cb
 induction j with
 |zero=>omega
 |succ j ih=>
  have h1:=h (j+1) hj (by omega)
  simp only[Nat.add_sub_cancel]at h1
  rcases Nat.lt_succ_iff_lt_or_eq.1 cb with h2 | rfl
  ·have:=ih (by omega) h2;omega
  ·exact h1
theorem uU{α:Type}{fA:α->Bool}{num:α->Int}{l:List α}(h:nc fA num l l.length):srt num l:=Ol fun j hj h0=>(h j hj hj).2 h0
def qw{α:Type}(num:α->Int)(l:List α)(x:Int):Nat:=(l.takeWhile fun y=>decide (num y<x)).length
def oJ{α:Type}(num:α->Int)(l:List α)(x:Int):Bool:=l.any fun y=>num y==x
theorem BF{α:Type}{num:α->Int}{l:List α}{x:Int}{i:Nat}(hi:i<=l.length)(h1:∀ k (h:k<l.length),k<i->num l[k] <x)(h2:∀ k (h:k<l.length),i<=k->x<=num l[k]):qw num l x=i:=by
 unfold qw
 induction l generalizing i with
 |nil=>simp at hi |-;omega
 |cons a r ih=>
  cases i with
  |zero=>
   have :=h2 0 (by simp) (Nat.le_refl _)
   simp only[List.getElem_cons_zero]at this
   have hd:decide (num a<x)=false:=by simp;omega
   simp[hd]
  |succ i=>
   have :=h1 0 (by simp) (by omega)
   simp only[List.getElem_cons_zero]at this
   have hd:decide (num a<x)=true:=by simp;omega
   simp only[List.takeWhile_cons,hd,if_true,List.length_cons]
   rw[ih (by simpa using hi) (fun k hk eo=>by have:=h1 (k+1) (by simpa using hk) (by omega);simpa using this) (fun k hk eo=>by have:=h2 (k+1) (by simpa using hk) (by omega);simpa using this)]
theorem yN{α:Type}{num:α->Int}{l:List α}{x:Int}:oJ num l x=true↔∃ k,∃ (h:k<l.length),num l[k]=x:=by
 unfold oJ
 rw[List.any_eq_true]
 constructor
 ·rintro⟨y,hy,h⟩
  obtain⟨k,hk,rfl⟩:=List.getElem_of_mem hy
  exact⟨k,hk,by simpa using h⟩
 ·rintro⟨k,hk,h⟩
  exact⟨_,List.getElem_mem hk,by simpa using h⟩
theorem Wa{α:Type}{num:α->Int}{l:List α}{x:Int}{i:Nat}(hs:srt num l)(hi:i<l.length)(h1:∀ k (h:k<l.length),k<i->num l[k] <x)(h2:∀ k (h:k<l.length),i<=k->x<=num l[k]):oJ num l x=(num l[i]==x):=by
 rw[Bool.eq_iff_iff,yN]
 simp only[beq_iff_eq]
 constructor
 ·rintro⟨k,hk,e⟩
  rcases Nat.lt_trichotomy k i with h3 | h3 | h3
  ·have:=h1 k hk h3;omega
  ·subst h3;exact e
  ·have:=hs i k hi hk h3
   have :=h2 i hi (Nat.le_refl _)
   omega
 ·intro e
  exact⟨i,hi,e⟩
theorem V'{α:Type}{num:α->Int}{l:List α}{x:Int}(h1:∀ k (h:k<l.length),num l[k] <x):oJ num l x=false:=by
 rw[Bool.eq_false_iff]
 intro h
 obtain⟨k,hk,e⟩:=yN.1 h
 have :=h1 k hk
 omega
def K6a:List (Nat×Spec):=[(140,Zi)]
theorem ZV:KS K6a:=tc PT.sound<|tn
attribute [go_sem] K6a
@[go_sem] def P169:PSpec:=p2 iP iI (fun _ _=>True) (fun p x=>vInt (lH p.id x)) true
@[go_sem] def Ze:Spec:=P169.toSpec
theorem PG:aW Tryz.prog 169 P169:=by
 refine ez (rs:=[.tmp 4]) Tryz.func169 Tryz.ntmps169 fun p x hp hw=>?_
 simp only[iI,iP,dk]at hw |-
 have hΓ:=ZV
 repeat refine sq ?_
 refine rs hΓ [1,2] [[2,0]] ?_
 repeat refine sq ?_
 refine rs hΓ [4] [] ?_
 refine aA ?_
 simp only[go_sem]
 all_goals exact dJ
def K6b:List (Nat×Spec):=[(169,Ze)]
theorem ZU:KS K6b:=tc PG.sound<|tn
attribute [go_sem] K6b
@[go_sem] def P168:PSpec:=p3 (fE iP) iI (iF 169) (fun l _ _=>srt Pap.id l) (fun l x _=>.tup [vInt (qw Pap.id l x),.bool (oJ Pap.id l x)]) true
@[go_sem] def Zf:Spec:=P168.toSpec
set_option maxRecDepth 10000 in
theorem PH:aW Tryz.prog 168 P168:=by
 refine kX (rs:=[.tmp 6,.tmp 7]) Tryz.func168 Tryz.ntmps168 fun l x _ hp hw=>?_
 simp only[iF,iI,iP,fE,iC,dk]at hw |-
 have hΓ:=ZU
 have hs:=hp
 have hl:l.length<=maxLen:=by have:=hw.1.1;simpa using this
 repeat refine sq ?_
 refine rs hΓ [0,1,2] [] ?_
 repeat refine sq ?_
 refine rs hΓ [0,1,2,8] [] ?_
 repeat refine sq ?_
 refine rs hΓ [0,1,2,8,9,10] [] ?_
 repeat refine sq ?_
 refine aS ?_
 repeat refine sq ?_
 refine cv (fun ij:Nat×Nat=>[(9,⟨true,.v (vInt ij.1)⟩),(10,⟨true,.v (vInt ij.2)⟩)]) (fun i=>[]) (fun ij=>ij.1<=ij.2/\ij.2<=l.length/\(∀ k (h:k<l.length),k<ij.1->Pap.id l[k] <x)/\(∀ k (h:k<l.length),ij.2<=k->x<=Pap.id l[k])) (fun ij=>ij.2-ij.1) (0,l.length) ?_ ?_ ?_ ?_
 ·exact⟨Nat.zero_le _,Nat.le_refl _,fun k h hk=>by omega,fun k h hk=>by omega⟩
 ·rfl
 ·rfl
 rintro⟨i,j⟩ ⟨cb,fy,el,gi⟩
 simp only[go_sem]
 repeat refine sq ?_
 refine rs hΓ [0,1,2,8,9,10,17] [] ?_
 repeat refine sq ?_
 refine aB (fun hb=>?_) fun hb=>?_
 ·have ab:i<j:=by simpa using hb
  repeat refine sq ?_
  refine aE ?_
  repeat refine sq ?_
  refine aS ?_
  repeat refine sq ?_
  refine rx hΓ [0,1,2,8,9,10,11] [] (fun K' hK=>by simp only[go_sem,RG (show i<=maxLen by omega) (show j<=maxLen by omega)];exact fn) ?_
  obtain⟨h,hh⟩:∃ h,h=(i+j) / 2:=⟨_,rfl⟩
  rw[<-hh]
  have h1:i<=h:=by omega
  have h2:h<j:=by omega
  have h3:h<l.length:=by omega
  have WK:(h:Int)<l.length:=by omega
  repeat refine sq ?_
  refine rx hΓ [0,1,2,8,9,10,11,31] [] (fun K' hK=>by simp only[go_sem,ah h3,ai,ak,WK];exact fn) ?_
  repeat refine sq ?_
  refine aB (fun hb=>?_) fun hb=>?_
  ·have hx:Pap.id l[h] <x:=by simpa[Ma]using hb
   repeat refine sq ?_
   refine aY hΓ fun K' hK=>?_
   simp only[go_sem]
   repeat (refine⟨ob,?_⟩)
   refine hK _ ?_
   clear K' hK
   simp only[go_sem]
   refine⟨(h+1,j),⟨by omega,fy,fun k hk CT=>?_,gi⟩,by omega,?_⟩
   ·rcases Nat.lt_succ_iff_lt_or_eq.1 CT with h5 | h5
    ·have:=hs k h hk h3 h5;omega
    ·subst h5;exact hx
   ·refine bq [0,1,2,8,9,10] [] ?_ ?_<;>simp only[go_sem,bj h3 hl,bn]
  ·have hx:x<=Pap.id l[h]:=by
     have :¬ Pap.id l[h] <x:=by simpa[Ma]using hb
     omega
   repeat refine sq ?_
   refine aY hΓ fun K' hK=>?_
   simp only[go_sem]
   repeat (refine⟨ob,?_⟩)
   refine hK _ ?_
   clear K' hK
   simp only[go_sem]
   refine⟨(i,h),⟨by omega,by omega,el,fun k hk CT=>?_⟩,by omega,?_⟩
   ·rcases Nat.lt_or_eq_of_le CT with h5 | h5
    ·have:=hs h k h3 hk h5;omega
    ·subst h5;exact hx
   ·refine bq [0,1,2,8,9,10] [] ?_ ?_<;>simp only[go_sem]
 ·have he:i=j:=by
    have :¬ (i:Int)<j:=by simpa using hb
    omega
  subst he
  repeat refine sq ?_
  refine bV ?_
  simp only[go_sem]
  refine kp [0,1,2,8,9] [] ?_
  by_cases iN:i<l.length
  ·have C0:(i:Int)<l.length:=by omega
   repeat refine sq ?_
   refine rx hΓ [6,7] [] (fun K' hK=>by simp only[go_sem,ah iN,ai,ak,C0];exact fn) ?_
   refine aA ?_
   simp only[go_sem]
   rw[BF fy el gi,Wa hs iN el gi]
   simp[XE]
  ·have oF:i=l.length:=by omega
   have C0:¬ (i:Int)<l.length:=by omega
   obtain⟨k0,n0,VT⟩:∃ k0 n0,(l.map dk).getD i default=.int k0 n0:=by
    refine⟨default,default,?_⟩
    rw[List.getD_eq_getElem?_getD,List.getElem?_eq_none (by simp;omega)]
    rfl
   repeat refine sq ?_
   refine rx hΓ [6,7] [] (fun K' hK=>by simp only[go_sem,VT,ai,ak,C0];exact fn) ?_
   refine aA ?_
   simp only[go_sem]
   rw[BF fy el gi,V' fun k hk=>el k hk (by omega)]
   simp
def cL(l:List Pap)(id:Int):Int:=match l.find? fun p=>p.id==id with
 |some p=>p.lv
 |none=>0
theorem Hn{l:List Pap}{x:Int}{i:Nat}(hi:i<l.length)(h:l[i].id=x)(h1:∀ k (h:k<l.length),k<i->l[k].id≠x):cL l x=l[i].lv:=by
 unfold cL
 have :(l.find? fun p=>p.id==x)=some l[i]:=by
  rw[List.find?_eq_some_iff_getElem]
  exact⟨by simpa using h,i,hi,rfl,fun j hj=>by simpa using h1 j (by omega) hj⟩
 rw[this]
theorem Hm{l:List Pap}{x:Int}(h1:∀ k (h:k<l.length),l[k].id≠x):cL l x=0:=by
 unfold cL
 have :(l.find? fun p=>p.id==x)=none:=by
  rw[List.find?_eq_none]
  intro p hp
  obtain⟨k,hk,rfl⟩:=List.getElem_of_mem hp
  simpa using h1 k hk
 rw[this]
theorem RO{l:List Pap}{x:Int}(hs:srt Pap.id l)(h:oJ Pap.id l x=true):∃ (h:qw Pap.id l x<l.length),l[qw Pap.id l x].lv=cL l x:=by
 obtain⟨k,hk,e⟩:=yN.1 h
 have e2:qw Pap.id l x=k:=BF (Nat.le_of_lt hk) (fun j hj mw=>by have:=hs j k hj hk mw;omega) (fun j hj mw=>by
  rcases Nat.lt_or_eq_of_le mw with h | rfl
  ·have:=hs k j hk hj h;omega
  ·omega)
 refine⟨e2▸hk,?_⟩
 rw[Hn hk e fun j hj mw=>by have:=hs j k hj hk mw;omega]
 congr
theorem RN{l:List Pap}{x:Int}(h:oJ Pap.id l x=false):cL l x=0:=Hm fun k hk e=>by
 rw[yN.2 ⟨k,hk,e⟩]at h;cases h
def K6:List (Nat×Spec):=[(168,Zf)]
theorem ZW:KS K6:=tc PH.sound<|tn
attribute [go_sem] K6
@[go_sem] def P79:PSpec:=p2 mi iI (fun l _=>srt Pap.id l.ps) (fun l x=>vInt (cL l.ps x)) true
@[go_sem] def wC:Spec:=P79.toSpec
theorem AO:aW Tryz.prog 79 P79:=by
 refine ez (rs:=[.tmp 4]) Tryz.func79 Tryz.ntmps79 fun l x hp hw=>?_
 simp only[iI,mi,iW]at hw |-
 have hΓ:=ZW
 repeat refine sq ?_
 refine rs hΓ [0,1] [] ?_
 repeat refine sq ?_
 refine rx hΓ [0,5,6] [] (fun K' hK=>by simp only[go_sem,hp];exact fn) ?_
 repeat refine sq ?_
 refine rs hΓ [0,5,17] [] ?_
 repeat refine sq ?_
 refine aB (fun hb=>?_) fun hb=>?_
 ·repeat refine sq ?_
  have hf:oJ Pap.id l.ps x=false:=by simpa using hb
  repeat refine sq ?_
  refine rs hΓ [4] [] ?_
  refine aA ?_
  simp only[go_sem]
  rw[RN hf]
 ·repeat refine sq ?_
  have hf:oJ Pap.id l.ps x=true:=by simpa using hb
  obtain⟨U9,nu⟩:=RO hp hf
  have U8:(qw Pap.id l.ps x:Int)<l.ps.length:=by omega
  refine aE ?_
  repeat refine sq ?_
  refine rx hΓ [4] [] (fun K' hK=>by simp only[go_sem,ah U9,ai,ak,U8];exact fn) ?_
  refine aA ?_
  simp only[go_sem]
  rw[nu]
@[go_sem] def P84:PSpec:=p2 iL iI (fun _ _=>True) (fun l x=>vInt (cL l.ps x)) true
@[go_sem] def z8:Spec:=P84.toSpec
theorem O':aW Tryz.prog 84 P84:=by
 refine ez (rs:=[.tmp 4]) Tryz.func84 Tryz.ntmps84 fun l x hp hw=>?_
 simp only[iI,iL,fc]at hw |-
 have hΓ:=@fj Tryz.prog
 have hl:l.ps.length<=maxLen:=by have:=hw.1;simp[V.wfL,V.wf]at this;omega
 repeat refine sq ?_
 refine rs hΓ [1,2] [[2,0]] ?_
 repeat refine sq ?_
 refine rs hΓ [1,2,5] [[2,0]] ?_
 repeat refine sq ?_
 refine aS ?_
 repeat refine sq ?_
 refine cv (fun s:Nat=>[(5,⟨true,.v (vInt s)⟩)]) (fun s=>[]) (fun s=>s<=l.ps.length/\∀ k (h:k<l.ps.length),k<s->l.ps[k].id≠x) (fun s=>l.ps.length-s) 0 ?_ ?_ ?_ ?_
 ·exact⟨Nat.zero_le _,by simp⟩
 ·rfl
 ·rfl
 rintro i ⟨hi,hR⟩
 simp only[go_sem]
 repeat refine sq ?_
 refine rs hΓ [1,2,5,10] [[2,0]] ?_
 repeat refine sq ?_
 refine aB (fun hb=>?_) fun hb=>?_
 ·have ab:i<l.ps.length:=by simpa using hb
  have aq:(i:Int)<l.ps.length:=by omega
  clear hb
  repeat refine sq ?_
  refine aE ?_
  repeat refine sq ?_
  refine aS ?_
  repeat refine sq ?_
  refine rx hΓ [1,2,5,20] [[2,0]] (fun K' hK=>by simp only[go_sem,ah ab,ai,ak,aq];exact fn) ?_
  repeat refine sq ?_
  refine aB (fun hb=>?_) fun hb=>?_
  ·repeat refine sq ?_
   refine rx hΓ [4] [] (fun K' hK=>by simp only[go_sem,ah ab,ai,ak,aq];exact fn) ?_
   refine aA ?_
   simp only[go_sem]
   rw[Hn ab (by simpa using hb) hR]
  ·repeat refine sq ?_
   refine aE ?_
   refine cf ?_
   simp only[go_sem]
   refine kp [1,2,5] [[2,0]] ?_
   repeat refine sq ?_
   refine aY hΓ fun K' hK=>?_
   simp only[go_sem,ah ab,ai,ak,aq]
   repeat (refine⟨ob,?_⟩)
   refine hK _ ?_
   clear K' hK
   simp only[go_sem]
   refine⟨i+1,⟨ab,?_⟩,by(show l.ps.length-(i+1)<l.ps.length-i;omega),?_⟩
   ·intro k hk eo
    rcases Nat.lt_succ_iff_lt_or_eq.1 eo with h5 | rfl
    ·exact hR k hk h5
    ·simpa using hb
   refine bq [1,2,5] [[2,0]] ?_ ?_<;>simp only[go_sem,bj ab hl,bn]
 ·have bx:i=l.ps.length:=by
   have :¬ (i:Int)<l.ps.length:=by simpa using hb
   omega
  clear hb
  subst bx
  repeat refine sq ?_
  refine bV ?_
  simp only[go_sem]
  refine kp [] [] ?_
  repeat refine sq ?_
  refine rs hΓ [4] [] ?_
  refine aA ?_
  simp only[go_sem]
  rw[Hm fun k hk=>hR k hk hk]
end
end Go.Eng
set_option linter.unusedVariables false
namespace Go.Eng
open Go Go.Proofs Go.RowKit Go.Lib Go.Shelf
end Go.Eng
set_option linter.unusedVariables false
namespace Go.Eng
open Go Go.Proofs Go.RowKit Go.Lib Go.Shelf
set_option maxHeartbeats 2000000 in
set_option maxRecDepth 100000 in
theorem X0(n c:Nat)(w:World):Calls Tryz.prog 132 #[.slice none n c] w fun e w'=>e=.returned (.slice none 0 0)/\w'=w:=by
 have mixed:Tryz.prog.follows Departure.mixedOrders=true:=by kernel_rfl
 have qT:∀ (w:World) (a:Option Addr) (n c n' c':Nat),(binOp .eql 29 (.slice a n c) (.slice none n' c')).run Tryz.prog w=.ok (.bool a.isNone) w:=fun w a n c n' c'=>Lib.run_eql_slice_nil w _ _ a n c n' c' Tryz.underlying29
 go_enter Tryz.func132,Tryz.ntmps132
 go_wp2
 go_ret
 exact⟨rfl,rfl⟩
set_option maxHeartbeats 2000000 in
set_option maxRecDepth 100000 in
theorem XZ(a:Addr)(n c:Nat)(w:World)(v':Value)(w':World)
 (cH:∀ ty,(Builtin.append_ #[29,29] ty #[.slice (some ⟨w.heap.size,0,none⟩) 0 0,.slice (some a) n c]).run Tryz.prog (w.alloc (.cells #[] 81))=.ok v' w'):
 Calls Tryz.prog 132 #[.slice (some a) n c] w fun e w1=>e=.returned v'/\w1=w':=by
 have mixed:Tryz.prog.follows Departure.mixedOrders=true:=by kernel_rfl
 have qT:∀ (w:World) (a:Option Addr) (n c n' c':Nat),(binOp .eql 29 (.slice a n c) (.slice none n' c')).run Tryz.prog w=.ok (.bool a.isNone) w:=fun w a n c n' c'=>Lib.run_eql_slice_nil w _ _ a n c n' c' Tryz.underlying29
 go_enter Tryz.func132,Tryz.ntmps132
 go_wp2_with (at_builtin;refine Lib.wpList_append_run _ rfl _ _ _ _ rfl _ _ rfl rfl _ _ (cH _) ?_)
 go_ret
 exact⟨rfl,rfl⟩
set_option maxHeartbeats 2000000 in
set_option maxRecDepth 100000 in
theorem XW(n c:Nat)(w:World):Calls Tryz.prog 176 #[.slice none n c] w fun e w'=>e=.returned (.slice none 0 0)/\w'=w:=by
 have mixed:Tryz.prog.follows Departure.mixedOrders=true:=by kernel_rfl
 have qT:∀ (w:World) (a:Option Addr) (n c n' c':Nat),(binOp .eql 26 (.slice a n c) (.slice none n' c')).run Tryz.prog w=.ok (.bool a.isNone) w:=fun w a n c n' c'=>Lib.run_eql_slice_nil w _ _ a n c n' c' Tryz.underlying26
 go_enter Tryz.func176,Tryz.ntmps176
 go_wp2
 go_ret
 exact⟨rfl,rfl⟩
set_option maxHeartbeats 2000000 in
set_option maxRecDepth 100000 in
theorem XV(a:Addr)(n c:Nat)(w:World)(v':Value)(w':World)
 (cH:∀ ty,(Builtin.append_ #[26,26] ty #[.slice (some ⟨w.heap.size,0,none⟩) 0 0,.slice (some a) n c]).run Tryz.prog (w.alloc (.cells #[] 46))=.ok v' w'):
 Calls Tryz.prog 176 #[.slice (some a) n c] w fun e w1=>e=.returned v'/\w1=w':=by
 have mixed:Tryz.prog.follows Departure.mixedOrders=true:=by kernel_rfl
 have qT:∀ (w:World) (a:Option Addr) (n c n' c':Nat),(binOp .eql 26 (.slice a n c) (.slice none n' c')).run Tryz.prog w=.ok (.bool a.isNone) w:=fun w a n c n' c'=>Lib.run_eql_slice_nil w _ _ a n c n' c' Tryz.underlying26
 go_enter Tryz.func176,Tryz.ntmps176
 go_wp2_with (at_builtin;refine Lib.wpList_append_run _ rfl _ _ _ _ rfl _ _ rfl rfl _ _ (cH _) ?_)
 go_ret
 exact⟨rfl,rfl⟩
set_option maxHeartbeats 2000000 in
set_option maxRecDepth 100000 in
theorem XT(n c:Nat)(w:World):Calls Tryz.prog 177 #[.slice none n c] w fun e w'=>e=.returned (.slice none 0 0)/\w'=w:=by
 have mixed:Tryz.prog.follows Departure.mixedOrders=true:=by kernel_rfl
 have qT:∀ (w:World) (a:Option Addr) (n c n' c':Nat),(binOp .eql 27 (.slice a n c) (.slice none n' c')).run Tryz.prog w=.ok (.bool a.isNone) w:=fun w a n c n' c'=>Lib.run_eql_slice_nil w _ _ a n c n' c' Tryz.underlying27
 go_enter Tryz.func177,Tryz.ntmps177
 go_wp2
 go_ret
 exact⟨rfl,rfl⟩
set_option maxHeartbeats 2000000 in
set_option maxRecDepth 100000 in
theorem XS(a:Addr)(n c:Nat)(w:World)(v':Value)(w':World)
 (cH:∀ ty,(Builtin.append_ #[27,27] ty #[.slice (some ⟨w.heap.size,0,none⟩) 0 0,.slice (some a) n c]).run Tryz.prog (w.alloc (.cells #[] 36))=.ok v' w'):
 Calls Tryz.prog 177 #[.slice (some a) n c] w fun e w1=>e=.returned v'/\w1=w':=by
 have mixed:Tryz.prog.follows Departure.mixedOrders=true:=by kernel_rfl
 have qT:∀ (w:World) (a:Option Addr) (n c n' c':Nat),(binOp .eql 27 (.slice a n c) (.slice none n' c')).run Tryz.prog w=.ok (.bool a.isNone) w:=fun w a n c n' c'=>Lib.run_eql_slice_nil w _ _ a n c n' c' Tryz.underlying27
 go_enter Tryz.func177,Tryz.ntmps177
 go_wp2_with (at_builtin;refine Lib.wpList_append_run _ rfl _ _ _ _ rfl _ _ rfl rfl _ _ (cH _) ?_)
 go_ret
 exact⟨rfl,rfl⟩
set_option maxHeartbeats 2000000 in
set_option maxRecDepth 100000 in
theorem XQ(n c:Nat)(w:World):Calls Tryz.prog 178 #[.slice none n c] w fun e w'=>e=.returned (.slice none 0 0)/\w'=w:=by
 have mixed:Tryz.prog.follows Departure.mixedOrders=true:=by kernel_rfl
 have qT:∀ (w:World) (a:Option Addr) (n c n' c':Nat),(binOp .eql 28 (.slice a n c) (.slice none n' c')).run Tryz.prog w=.ok (.bool a.isNone) w:=fun w a n c n' c'=>Lib.run_eql_slice_nil w _ _ a n c n' c' Tryz.underlying28
 go_enter Tryz.func178,Tryz.ntmps178
 go_wp2
 go_ret
 exact⟨rfl,rfl⟩
set_option maxHeartbeats 2000000 in
set_option maxRecDepth 100000 in
theorem XP(a:Addr)(n c:Nat)(w:World)(v':Value)(w':World)
 (cH:∀ ty,(Builtin.append_ #[28,28] ty #[.slice (some ⟨w.heap.size,0,none⟩) 0 0,.slice (some a) n c]).run Tryz.prog (w.alloc (.cells #[] 40))=.ok v' w'):
 Calls Tryz.prog 178 #[.slice (some a) n c] w fun e w1=>e=.returned v'/\w1=w':=by
 have mixed:Tryz.prog.follows Departure.mixedOrders=true:=by kernel_rfl
 have qT:∀ (w:World) (a:Option Addr) (n c n' c':Nat),(binOp .eql 28 (.slice a n c) (.slice none n' c')).run Tryz.prog w=.ok (.bool a.isNone) w:=fun w a n c n' c'=>Lib.run_eql_slice_nil w _ _ a n c n' c' Tryz.underlying28
 go_enter Tryz.func178,Tryz.ntmps178
 go_wp2_with (at_builtin;refine Lib.wpList_append_run _ rfl _ _ _ _ rfl _ _ rfl rfl _ _ (cH _) ?_)
 go_ret
 exact⟨rfl,rfl⟩
set_option maxHeartbeats 2000000 in
set_option maxRecDepth 100000 in
theorem XN(n c:Nat)(w:World):Calls Tryz.prog 179 #[.slice none n c] w fun e w'=>e=.returned (.slice none 0 0)/\w'=w:=by
 have mixed:Tryz.prog.follows Departure.mixedOrders=true:=by kernel_rfl
 have qT:∀ (w:World) (a:Option Addr) (n c n' c':Nat),(binOp .eql 32 (.slice a n c) (.slice none n' c')).run Tryz.prog w=.ok (.bool a.isNone) w:=fun w a n c n' c'=>Lib.run_eql_slice_nil w _ _ a n c n' c' Tryz.underlying32
 go_enter Tryz.func179,Tryz.ntmps179
 go_wp2
 go_ret
 exact⟨rfl,rfl⟩
set_option maxHeartbeats 2000000 in
set_option maxRecDepth 100000 in
theorem XM(a:Addr)(n c:Nat)(w:World)(v':Value)(w':World)
 (cH:∀ ty,(Builtin.append_ #[32,32] ty #[.slice (some ⟨w.heap.size,0,none⟩) 0 0,.slice (some a) n c]).run Tryz.prog (w.alloc (.cells #[] 3))=.ok v' w'):
 Calls Tryz.prog 179 #[.slice (some a) n c] w fun e w1=>e=.returned v'/\w1=w':=by
 have mixed:Tryz.prog.follows Departure.mixedOrders=true:=by kernel_rfl
 have qT:∀ (w:World) (a:Option Addr) (n c n' c':Nat),(binOp .eql 32 (.slice a n c) (.slice none n' c')).run Tryz.prog w=.ok (.bool a.isNone) w:=fun w a n c n' c'=>Lib.run_eql_slice_nil w _ _ a n c n' c' Tryz.underlying32
 go_enter Tryz.func179,Tryz.ntmps179
 go_wp2_with (at_builtin;refine Lib.wpList_append_run _ rfl _ _ _ _ rfl _ _ rfl rfl _ _ (cH _) ?_)
 go_ret
 exact⟨rfl,rfl⟩
def Z81:Value:=.agg #[.int .i64 0,.int .i64 0,.int .i64 0,.int .i64 0,.int .i64 0,.int .i64 0,.int .i64 0]
def Z46:Value:=.agg #[.int .i64 0,.int .i64 0]
def Z36:Value:=.agg #[.int .i64 0,.int .i64 0,.int .i64 0,.slice none 0 0,.int .i64 0,.int .i64 0,.int .i64 0]
def Z40:Value:=.agg #[.int .i64 0,.int .i64 0,.int .i64 0,.slice none 0 0,.int .i64 0,.int .i64 0,.int .i64 0,.int .i64 0]
theorem me(n:Nat)(h:n<1000000000):n≠yid:=by unfold yid;omega
theorem Mb:qf Tryz.prog 132 29 81 7 56 Z81:=
 ⟨by kernel_rfl,by kernel_rfl,me _ (by decide),ib Tryz.func132 (by rfl) (by kernel_rfl),X0,XZ⟩
theorem XY:qf Tryz.prog 176 26 46 2 16 Z46:=
 ⟨by kernel_rfl,by kernel_rfl,me _ (by decide),ib Tryz.func176 (by rfl) (by kernel_rfl),XW,XV⟩
theorem XU:qf Tryz.prog 177 27 36 7 72 Z36:=
 ⟨by kernel_rfl,by kernel_rfl,me _ (by decide),ib Tryz.func177 (by rfl) (by kernel_rfl),XT,XS⟩
theorem XR:qf Tryz.prog 178 28 40 8 80 Z40:=
 ⟨by kernel_rfl,by kernel_rfl,me _ (by decide),ib Tryz.func178 (by rfl) (by kernel_rfl),XQ,XP⟩
theorem XO:qf Tryz.prog 179 32 3 1 8 (.int .i64 0):=
 ⟨by kernel_rfl,by kernel_rfl,me _ (by decide),ib Tryz.func179 (by rfl) (by kernel_rfl),XN,XM⟩
open Go Go.Proofs
def eP(l:List Int):List (V×V):=l.map fun s=>(vInt s,.bool true)
def nE(es:List (V×V)):List Int:=es.map fun q=>jz q.1
@[go_sem] theorem Xg(l:List Int):nE (eP l)=l:=by
  unfold nE eP
  rw[List.map_map]
  exact List.map_id _
def qa(l:List Int)(s:Int):List Int:=if l.contains s then l else l++[s]
theorem RH(l:List Int)(s:Int):eA (eP l) (vInt s)=if l.contains s then some (.bool true)else none:=by
 induction l with
 |nil=>rfl
 |cons a r ih=>
  show (if eY (vInt a) (vInt s)=true then some (V.bool true)else eA (eP r) (vInt s))=_
  rw[ih]
  by_cases h:a=s
  ·subst h;simp[eY]
  ·have h':(a==s)=false:=by simpa using h
   have gj:(s==a)=false:=by simpa using fun e=>h e.symm
   have h3:¬ s=a:=fun e=>h e.symm
   simp[eY,h',h3]
theorem BC(l:List Int)(s:Int):(eA (eP l) (vInt s)).getD (.bool false)=.bool (l.contains s):=by
 rw[RH]
 cases l.contains s<;>rfl
theorem Bz(l:List Int)(s:Int):dL (eP l) (vInt s) (.bool true)=eP (qa l s):=by
 induction l with
 |nil=>rfl
 |cons a r ih=>
  show (if eY (vInt a) (vInt s)=true then(vInt s,V.bool true)::eP r else(vInt a,V.bool true)::dL (eP r) (vInt s) (.bool true))=_
  rw[ih]
  unfold qa
  by_cases h:a=s
  ·subst h;simp[eY,eP]
  ·have h':(a==s)=false:=by simpa using h
   have gj:(s==a)=false:=by simpa using fun e=>h e.symm
   simp only[eY,h',Bool.false_eq_true,if_false,List.contains_cons,gj,Bool.false_or]
   split<;>rfl
def Be(obj:Name->Option O)(_:Name):List D->List Name
 |[_,.ref nm _]=>nm::(match obj nm with | some (.box [.map mm])=>[mm] | _=>[])
 |_=>[]
def pk(obj:Name->Option O)(_:Name):List D->R
 |[.v (.int .i64 s),.ref nm 0]=>match obj nm with
  |some (.box [.map mm])=>match obj mm with
   |some (.map 0 es)=>⟨(mm==nm)=false/\eP (nE es)=es,.v (.bool (!(nE es).contains s)),upd obj mm (some (.map 0 (eP (qa (nE es) s))))⟩
   |_=>.bad obj
  |_=>.bad obj
 |_=>.bad obj
def onceS:Spec:=⟨pk,Be,Be⟩
theorem QX:onceS.Near:=by
 refine uZ fun obj obj2 t ds ha=>?_
 unfold Be at ha |-
 split
 ·rename_i d nm off
  simp only at ha
  have h1:obj2 nm=obj nm:=ha nm (by simp)
  refine⟨by rw[h1],?_⟩
  have gf:∀ wr,bG wr obj obj2->bO (R.bad obj) (R.bad obj2) obj obj2 wr:=fun wr h=>.none wr h
  unfold pk
  split
  ·rename_i s jJ e
   simp only[List.cons.injEq,D.ref.injEq,and_true]at e
   obtain⟨_,rfl,rfl⟩:=e
   simp only[h1]
   split at ha
   ·rename_i mm hm
    have h2:obj2 mm=obj mm:=ha mm (by simp)
    simp only[h2,hm]
    split
    ·exact .one (by simp) ha
    ·exact gf _ ha
   ·exact gf _ ha
  ·exact gf _ ha
 ·refine⟨rfl,?_⟩
  rename_i nz
  unfold pk
  split
  ·exact(nz _ _ _ rfl).elim
  ·exact .none _ (fun _ h=>by cases h)
attribute [go_sem] onceS pk
def uT:CSpec where
 pre:=fun os ds=>∃ (ss:List Int) (s:Int),os=[.box [.map [1,1]],.map 0 (eP ss)]/\ds=[.v (vInt s),.ref [0,1] 0]
 out:=fun os ds=>match os,ds with
  |[_,.map _ es],[.v (.int _ s),_]=>⟨[(1,.map 0 (eP (qa (nE es) s)))],[],.v (.bool (!(nE es).contains s))⟩
  |_,_=>⟨[],[],.any⟩
theorem QW{f:FuncId}(h:aM Tryz.prog f uT.toSpec)(aG:f≠yid):aM Tryz.prog f onceS:=by
 refine uB h QX aG fun obj t ds aa=>?_
 change (pk obj t ds).ok at aa
 refine⟨ds,rfl,fun _ _ _ _ h=>h,?_⟩
 show _/\_=(pk obj t ds).d/\_=(pk obj t ds).obj
 unfold pk at aa |-
 split at aa
 ·rename_i s nm
  split at aa
  ·rename_i mm hb
   split at aa
   ·rename_i es hm
    obtain⟨ly,jv⟩:=aa
    have CJ:mm≠nm:=by simpa using ly
    have V8:(nm==mm)=false:=by simpa using fun e=>CJ e.symm
    have hr:reach obj [.v (.int .i64 s),.ref nm 0]=[nm,mm]:=by
     unfold reach
     show dn obj (2997+1+1+1) [nm] []=[nm,mm]
     simp only[dn,cM,List.any_nil,Bool.false_eq_true,if_false,hb,ln,cS,lq,List.nil_append,List.append_nil,List.any_cons,V8,Bool.or_false,hm,List.cons_append]
    have i0:idx [nm,mm] nm=0:=by simp[idx]
    have i1:idx [nm,mm] mm=1:=by simp[idx,Ne.symm CJ]
    have e1:cp obj [.v (.int .i64 s),.ref nm 0]=[.box [.map [1,1]],.map 0 es]:=by
     unfold cp
     rw[hr]
     simp only[List.map_cons,List.map_nil,cw,hb,hm,O.ren,D.renL,D.ren,cin,i1]
    have e2:cQ obj [.v (.int .i64 s),.ref nm 0]=[.v (.int .i64 s),.ref [0,1] 0]:=by
     unfold cQ
     rw[hr]
     simp only[D.renL,D.ren,cin,i0]
    have iK:uT.out [.box [.map [1,1]],.map 0 es] [.v (.int .i64 s),.ref [0,1] 0]=⟨[(1,.map 0 (eP (qa (nE es) s)))],[],.v (.bool (!(nE es).contains s))⟩:=rfl
    have dI:uT.pre [.box [.map [1,1]],.map 0 es] [.v (.int .i64 s),.ref [0,1] 0]:=⟨nE es,s,by rw[jv],rfl⟩
    have e3:(shut obj [nm,mm]&&D.closL (cM [nm,mm]) [.v (.int .i64 s),.ref nm 0]&&fresh obj t [])=true:=by
     simp[shut,hb,hm,O.clos,D.closL,D.clos,cM,fresh]
    simp only[CSpec.toSpec,e1,e2,hr,iK,e3,dI,hb,hm,and_self,di,cr,D.ren,D.renL,O.ren,cout,List.getD_cons_zero,List.getD_cons_succ]
   ·exact aa.elim
  ·exact aa.elim
 ·exact aa.elim
set_option maxHeartbeats 8000000
noncomputable section
def S117:Spec:=onceS
attribute [go_sem] S117
theorem T3:aM Tryz.prog 117 S117:=by
 refine QW ?_ (me _ (by decide))
 refine nI (nt:=12) (rs:=[.tmp 3]) Tryz.func117 rfl (by rfl) (by kernel_rfl) (ib Tryz.func117 rfl (by kernel_rfl)) (me _ (by decide)) ?_
 rintro os ds ⟨ss,s,rfl,rfl⟩
 refine⟨Nat.le_of_ble_eq_true rfl,?_⟩
 have iK:uT.out [.box [.map [1,1]],.map 0 (eP ss)] [.v (vInt s),.ref [0,1] 0]=⟨[(1,.map 0 (eP (qa ss s)))],[],.v (.bool (!ss.contains s))⟩:=by
  simp only[uT,Xg]
 rw[iK]
 refine iY ?_
 have hΓ:=@fj Tryz.prog
 have dA:∀ hs,b7 [0] (bU [0] hs) (aV [.box [.map [1,1]],.map 0 (eP ss)])=True:=fun hs=>eq_true (od (by
  intro o ho dom hd
  simp only[List.mem_cons,List.not_mem_nil,or_false]at ho
  rcases ho with rfl | rfl
  ·simp[O.clos,D.closL,D.clos,hd]
  ·rfl) hs)
 have h0:aV [.box [.map [1,1]],.map 0 (eP ss)] [0,1]=some (.box [.map [1,1]]):=rfl
 have h1:aV [.box [.map [1,1]],.map 0 (eP ss)] [1,1]=some (.map 0 (eP ss)):=rfl
 generalize hH:aV [.box [.map [1,1]],.map 0 (eP ss)]=H at *
 have ae:∀ hs es,b7 [0] (bU [0] hs) (upd H [1,1] (some (.map 0 es)))=True:=fun hs es=>eq_true (r9 rfl (by rw[dA];trivial))
 have bd:∀ hs es,b7 [0] (bU [0] hs) (fun nm=>if nm=[1,1]then some (.map 0 es)else H nm)=True:=ae
 repeat refine sq ?_
 refine rx hΓ [0,1] [] (fun K' hK=>by simp only[go_sem,dA];(repeat (refine⟨ob,?_⟩));exact hK _ (by simp only[go_sem,dA]) (by simp only[go_sem,dA]<;>rfl)) ?_
 repeat refine sq ?_
 refine rx hΓ [0,1,4] [] (fun K' hK=>by simp only[go_sem,dA,h0,h1,BC];(repeat (refine⟨ob,?_⟩));exact hK _ (by simp only[go_sem,dA,h0,h1,BC]) (by simp only[go_sem,dA,h0,h1,BC]<;>rfl)) ?_
 repeat refine sq ?_
 refine rx hΓ [4] [] (fun K' hK=>by simp only[go_sem,dA,ae,bd,h0,h1,Bz];(repeat (refine⟨ob,?_⟩));exact hK _ (by simp only[go_sem,dA,ae,bd,h0,h1,Bz]) (by simp only[go_sem,dA,ae,bd,h0,h1,Bz]<;>rfl)) ?_
 repeat refine sq ?_
 refine rx hΓ [3] [] (fun K' hK=>by simp only[go_sem,dA,ae,bd];(repeat (refine⟨ob,?_⟩));exact hK _ (by simp only[go_sem,dA,ae,bd]) (by simp only[go_sem,dA,ae,bd]<;>rfl)) ?_
 refine aA ?_
 simp only[go_sem]
 exact⟨h0,rfl⟩
def K7:List (Nat×Spec):=[(109,Zs),(111,Zq),(113,Zo),(115,Zm),(117,S117),(79,wC)]
theorem ZL:KS K7:=tc P2.sound<|tc P0.sound<|tc PY.sound<|tc PW.sound<|tc T3<|tc AO.sound<|tn
attribute [go_sem] K7
def sn{α:Type}(pre:List Int)(f:α->Int)(l:List α)(i:Nat):List Int:=(l.take i).foldl (fun a x=>a++[f x]) pre
theorem nZ{α:Type}(pre:List Int)(f:α->Int)(l:List α)(i:Nat):sn pre f l i=pre++(l.take i).map f:=by
 unfold sn
 generalize l.take i=k
 induction k generalizing pre with
 |nil=>simp
 |cons a r ih=>simp[ih]
theorem AI{α:Type}{pre:List Int}{f:α->Int}{l:List α}{i:Nat}(h:i<l.length)(hc:(sn pre f l i).contains (f l[i])=false):qa (sn pre f l i) (f l[i])=sn pre f l (i+1):=by
 unfold qa
 rw[hc,nZ,nZ,List.take_add_one,List.getElem?_eq_getElem h]
 simp only[Bool.false_eq_true,if_false,Option.toList_some,List.map_append,List.map_cons,List.map_nil,List.append_assoc]
def oy(l:List Int):Int:=l.getD (l.length-1) 0
def w7(l:Led):List Int:=l.rs.map Rec.so++l.ts.map Ret.so++l.ss.map Sig.so
structure bF (l:Led):Prop where
 ps:i4 m7 Pap.id l.ps=true
 psn:l.ps.length<=12
 rs:i4 dP Rec.so l.rs=true
 rsn:l.rs.length<=60
 ts:i4 jj Ret.so l.ts=true
 tsn:l.ts.length<=60
 ss:i4 ld Sig.so l.ss=true
 ssn:l.ss.length<=60
 rl:∀ j (h:j<l.rs.length),oy l.rs[j].lv<=cL l.ps l.rs[j].pa
 sl:∀ j (h:j<l.ss.length),l.ss[j].le<=cL l.ps l.ss[j].pa
 nd:(w7 l).Nodup
open Classical in
def uV(l:Led):Bool:=decide (bF l)
theorem Bg{l:Led}:uV l=true↔bF l:=by unfold uV;exact @decide_eq_true_iff _ (Classical.propDecidable _)
def nK(l:Led):Int:=fS (uV l) 24
theorem wj{l:Led}(h:¬ bF l):nK l=24:=by unfold nK;rw[tW Bg h];rfl
theorem X5{l:Led}(h:bF l):nK l=0:=by unfold nK;rw[Bg.2 h];rfl
def ll{α:Type}(pre:List Int)(f:α->Int)(l:List α)(i:Nat):Prop:=∀ j (h:j<l.length),j<i->(sn pre f l j).contains (f l[j])=false
theorem Bu{α:Type}{pre:List Int}{f:α->Int}{l:List α}{i:Nat}(h:ll pre f l i)(hi:i<l.length)(hc:(sn pre f l i).contains (f l[i])=false):ll pre f l (i+1):=by
 intro j hj eC
 rcases Nat.lt_succ_iff_lt_or_eq.1 eC with h1 | rfl
 ·exact h j hj h1
 ·exact hc
theorem sR{α:Type}{pre:List Int}{f:α->Int}{l:List α}(hp:pre.Nodup):ll pre f l l.length↔(pre++l.map f).Nodup:=by
 constructor
 ·intro h
  rw[List.nodup_append]
  refine⟨hp,?_,?_⟩
  ·rw[List.nodup_iff_pairwise_ne,List.pairwise_map,List.pairwise_iff_getElem]
   intro i j hi hj cb e
   have :=h j hj hj
   rw[nZ]at this
   simp only[List.contains_append,Bool.or_eq_false_iff]at this
   have h2:=this.2
   have :(List.map f (List.take j l)).contains (f l[j])=true:=by
    rw[List.contains_iff_mem,List.mem_map]
    exact⟨l[i],by rw[List.mem_take_iff_getElem];exact⟨i,by omega,rfl⟩,e⟩
   rw[h2]at this;cases this
  ·intro a ha b hb e
   subst e
   obtain⟨x,hx,rfl⟩:=List.mem_map.1 hb
   obtain⟨j,hj,rfl⟩:=List.getElem_of_mem hx
   have :=h j hj hj
   rw[nZ]at this
   simp only[List.contains_append,Bool.or_eq_false_iff]at this
   have h2:=this.1
   rw[List.contains_iff_mem.2 ha]at h2;cases h2
 ·intro h j hj _
  rw[List.nodup_append]at h
  obtain⟨_,h1,h2⟩:=h
  rw[nZ,Bool.eq_false_iff]
  intro hc
  rw[List.contains_iff_mem,List.mem_append]at hc
  rcases hc with hc | hc
  ·exact h2 _ hc _ (List.mem_map_of_mem (List.getElem_mem hj)) rfl
  ·obtain⟨x,hx,e⟩:=List.mem_map.1 hc
   obtain⟨i,hi,rfl⟩:=List.mem_take_iff_getElem.1 hx
   rw[List.nodup_iff_pairwise_ne,List.pairwise_map,List.pairwise_iff_getElem]at h1
   exact h1 i j (by omega) hj (by omega) e
theorem G9{α:Type}{pre:List Int}{f:α->Int}{l:List α}(h:(pre++l.map f).Nodup):pre.Nodup:=(List.nodup_append.1 h).1
def Qu(l:Led)(i:Nat):Prop:=∀ j (h:j<l.rs.length),j<i->oy l.rs[j].lv<=cL l.ps l.rs[j].pa
def Ov(l:Led)(i:Nat):Prop:=∀ j (h:j<l.ss.length),j<i->l.ss[j].le<=cL l.ps l.ss[j].pa
theorem EM{l:Led}(h:bF l):ll [] Rec.so l.rs l.rs.length/\ll (sn [] Rec.so l.rs l.rs.length) Ret.so l.ts l.ts.length/\ll (sn (sn [] Rec.so l.rs l.rs.length) Ret.so l.ts l.ts.length) Sig.so l.ss l.ss.length:=by
 have hn:=h.nd
 unfold w7 at hn
 have e1:sn [] Rec.so l.rs l.rs.length=l.rs.map Rec.so:=by rw[nZ,List.take_length];rfl
 have e2:sn (sn [] Rec.so l.rs l.rs.length) Ret.so l.ts l.ts.length=l.rs.map Rec.so++l.ts.map Ret.so:=by rw[nZ,e1,List.take_length]
 have n2:=G9 hn
 have n1:=G9 n2
 refine⟨(sR (by simp)).2 (by simpa using n1),?_,?_⟩
 ·rw[e1];exact(sR n1).2 n2
 ·rw[e2];exact(sR n2).2 hn
theorem ZB{l:Led}(h1:ll [] Rec.so l.rs l.rs.length)(h2:ll (sn [] Rec.so l.rs l.rs.length) Ret.so l.ts l.ts.length)(h3:ll (sn (sn [] Rec.so l.rs l.rs.length) Ret.so l.ts l.ts.length) Sig.so l.ss l.ss.length):(w7 l).Nodup:=by
 have e1:sn [] Rec.so l.rs l.rs.length=l.rs.map Rec.so:=by rw[nZ,List.take_length];rfl
 have e2:sn (sn [] Rec.so l.rs l.rs.length) Ret.so l.ts l.ts.length=l.rs.map Rec.so++l.ts.map Ret.so:=by rw[nZ,e1,List.take_length]
 have n1:(l.rs.map Rec.so).Nodup:=by simpa using(sR (pre:=[]) (by simp)).1 h1
 have n2:=(sR n1).1 (by rw[e1]at h2;exact h2)
 exact(sR n2).1 (by rw[e2]at h3;exact h3)
theorem Yb{a b c d:Bool}{p q r s:Prop}[Decidable p][Decidable q][Decidable r][Decidable s](h:(!(a&&decide p)||!(b&&decide q)||!(c&&decide r)||!(d&&decide s))=false):a=true/\p/\b=true/\q/\c=true/\r/\d=true/\s:=by
 simp only[Bool.or_eq_false_iff,Bool.not_eq_false',Bool.and_eq_true,decide_eq_true_eq]at h
 obtain⟨⟨⟨⟨h1,h2⟩,h3,h4⟩,h5,h6⟩,h7,h8⟩:=h
 exact⟨h1,h2,h3,h4,h5,h6,h7,h8⟩
theorem oV{α:Type}{fA:α->Bool}{num:α->Int}{l:List α}(h:i4 fA num l=true){j:Nat}(hj:j<l.length):fA l[j]=true:=(j'.1 h j hj hj).1
theorem Qv{r:Rec}(h:dP r=true):0<r.lv.length:=by
 unfold dP at h
 simp only[Bool.and_eq_true]at h
 exact(qx.1 h.1.1.2).1
@[go_sem] def P37:PSpec:=p1 iL (fun _=>True) (fun l=>vInt (nK l)) true
@[go_sem] def ED:Spec:=P37.toSpec
theorem Pt:aW Tryz.prog 37 P37:=by
 refine fV (rs:=[.tmp 2]) Tryz.func37 Tryz.ntmps37 fun l hp hw=>?_
 have hP:=fL
 simp only[iL,fc]at hw |-
 have hΓ:=ZL
 repeat refine sq ?_
 refine rs hΓ [1] [[1,0]] ?_
 repeat refine sq ?_
 refine rs hΓ [1,32] [[1,0]] ?_
 repeat refine sq ?_
 refine aB (fun hb=>?_) fun hb=>?_
 ·repeat refine sq ?_
  have jw:¬ bF l:=by
   intro h
   rw[h.ps,h.rs,h.ts,h.ss]at hb
   have h1:=h.psn
   have h2:=h.rsn
   have h3:=h.tsn
   have h4:=h.ssn
   simp only[Bool.true_and,Bool.or_eq_true,Bool.not_eq_true',decide_eq_false_iff_not]at hb
   omega
  repeat refine sq ?_
  refine rs hΓ [2] [] ?_
  refine aA ?_
  simp only[go_sem]
  rw[wj jw]
 ·repeat refine sq ?_
  obtain⟨fF,JX,bQ,mq,oD,qF,qH,Cl⟩:=Yb hb
  have ta:srt Pap.id l.ps:=uU (j'.1 fF)
  have yz:l.rs.length<=maxLen:=by unfold maxLen;omega
  have lz:l.ts.length<=maxLen:=by unfold maxLen;omega
  have U7:l.ss.length<=maxLen:=by unfold maxLen;omega
  refine aE ?_
  repeat refine sq ?_
  refine rs hΓ [1,3] [[1,0],[3,0],[33,0]] ?_
  repeat refine sq ?_
  refine rs hΓ [1,4] [[1,0],[3,0],[33,0]] ?_
  repeat refine sq ?_
  refine rs hΓ [1,4,36,37,38] [[1,0],[3,0],[33,0]] ?_
  repeat refine sq ?_
  refine aS ?_
  repeat refine sq ?_
  refine cv (fun s:Nat=>[(38,⟨true,.v (vInt s)⟩)]) (fun s=>[([33,0],.map 0 (eP (sn [] Rec.so l.rs s)))]) (fun s=>s<=l.rs.length/\ll [] Rec.so l.rs s/\Qu l s) (fun s=>l.rs.length-s) 0 ?_ ?_ ?_ ?_
  ·exact⟨Nat.zero_le _,fun j _ h=>by omega,fun j _ h=>by omega⟩
  ·rfl
  ·rfl
  rintro i ⟨hi,hR,KJ⟩
  simp only[go_sem]
  repeat refine sq ?_
  refine rs hΓ [1,4,36,37,38,39] [[1,0],[3,0],[33,0]] ?_
  repeat refine sq ?_
  refine aB (fun hb=>?_) fun hb=>?_
  ·have ab:i<l.rs.length:=by simpa using hb
   have aq:(i:Int)<l.rs.length:=by omega
   clear hb
   have hv:=Qv (oV bQ ab)
   have JF:l.rs[i].lv.length<=maxLen:=by have h0:=(qx.1 (by have h:=oV bQ ab;unfold dP at h;simp only[Bool.and_eq_true]at h;exact h.1.1.2:kz l.rs[i].lv=true)).2.1;unfold maxLen;omega
   have vx:=Ak (by omega:¬ l.rs[i].lv.length=0) JF
   have Cx:((l.rs[i].lv.length-1:Nat):Int)<l.rs[i].lv.length:=by omega
   have yk:l.rs[i].lv.length-1<l.rs[i].lv.length:=by omega
   have Vt:(l.rs[i].lv.map vInt).getD (l.rs[i].lv.length-1) default=vInt (oy l.rs[i].lv):=by unfold oy;rw[ah yk,bW yk]
   repeat refine sq ?_
   refine aE ?_
   repeat refine sq ?_
   refine aS ?_
   repeat refine sq ?_
   refine rx hΓ [1,4,6,36,37,38] [[1,0],[3,0],[6,0],[33,0]] (fun K' hK=>by simp only[go_sem,ah ab,ai,ak,aq];exact fn) ?_
   repeat refine sq ?_
   refine dx hΓ hP [[],[],[1],[0,1,2],u4,u5,u6,u7,u6,[0,1,2,3,4,5,8],[0,1,2,3,4,5,8,9],[0,1,2,3,4,5,8,9,10],fG,kg,u6,[0,1,2,3,4,5,14],[0,1,2,3,4,5,14,15],kY,jF] [1,4,36,37,38,60] [[1,0],[3,0],[33,0]] (by kernel_rfl) (fun K' hK=>by simp only[go_sem,ah ab,ai,ak,aq,ta,vx,Vt,Cx];exact fd) ?_
   repeat refine sq ?_
   refine aB (fun hb=>?_) fun hb=>?_
   ·repeat refine sq ?_
    have jw:¬ bF l:=by
     intro h
     have h1:=(EM h).1 i ab ab
     have h2:=h.rl i ab
     rw[h1]at hb
     simp only[Bool.not_false,Bool.not_true,Bool.false_or,decide_eq_true_eq]at hb
     omega
    repeat refine sq ?_
    refine rx hΓ [2] [] (fun K' hK=>by simp only[go_sem,ah ab,ai,ak,aq];exact fn) ?_
    refine aA ?_
    simp only[go_sem]
    rw[wj jw]
   ·repeat refine sq ?_
    have pM:(sn [] Rec.so l.rs i).contains l.rs[i].so=false:=by
     simp only[Bool.or_eq_false_iff,Bool.not_not]at hb
     exact hb.1
    have yv:oy l.rs[i].lv<=cL l.ps l.rs[i].pa:=by
     simp only[Bool.or_eq_false_iff,decide_eq_false_iff_not]at hb
     omega
    rw[AI ab pM]
    refine aE ?_
    refine cf ?_
    simp only[go_sem]
    refine kp [1,4,36,37,38] [[1,0],[3,0],[33,0]] ?_
    repeat refine sq ?_
    refine aY hΓ fun K' hK=>?_
    simp only[go_sem,ah ab,ai,ak,aq]
    repeat (refine⟨ob,?_⟩)
    refine hK _ ?_
    clear K' hK
    simp only[go_sem]
    refine⟨i+1,⟨ab,?_⟩,by(show l.rs.length-(i+1)<l.rs.length-i;omega),?_⟩
    ·exact⟨Bu hR ab pM,fun j hj eC=>by
      rcases Nat.lt_succ_iff_lt_or_eq.1 eC with h1 | rfl
      ·exact KJ j hj h1
      ·exact yv⟩
    refine bq [1,4,36,37,38] [[1,0],[3,0],[33,0]] ?_ ?_<;>simp only[go_sem,bj ab yz,bn]
  ·have bx:i=l.rs.length:=by
    have :¬ (i:Int)<l.rs.length:=by simpa using hb
    omega
   clear hb
   subst bx
   repeat refine sq ?_
   refine bV ?_
   simp only[go_sem]
   refine kp [1,4] [[1,0],[3,0],[33,0]] ?_
   repeat refine sq ?_
   refine rs hΓ [1,4,63,64,65] [[1,0],[3,0],[33,0]] ?_
   repeat refine sq ?_
   refine aS ?_
   repeat refine sq ?_
   refine cv (fun s:Nat=>[(65,⟨true,.v (vInt s)⟩)]) (fun s=>[([33,0],.map 0 (eP (sn (sn [] Rec.so l.rs l.rs.length) Ret.so l.ts s)))]) (fun s=>s<=l.ts.length/\ll (sn [] Rec.so l.rs l.rs.length) Ret.so l.ts s) (fun s=>l.ts.length-s) 0 ?_ ?_ ?_ ?_
   ·exact⟨Nat.zero_le _,fun j _ h=>by omega⟩
   ·rfl
   ·rfl
   rintro i ⟨hi1,KI⟩
   simp only[go_sem]
   repeat refine sq ?_
   refine rs hΓ [1,4,63,64,65,66] [[1,0],[3,0],[33,0]] ?_
   repeat refine sq ?_
   refine aB (fun hb=>?_) fun hb=>?_
   ·have aU:i<l.ts.length:=by simpa using hb
    have bJ:(i:Int)<l.ts.length:=by omega
    clear hb
    repeat refine sq ?_
    refine aE ?_
    repeat refine sq ?_
    refine aS ?_
    repeat refine sq ?_
    refine rx hΓ [1,4,8,63,64,65] [[1,0],[3,0],[8,0],[33,0]] (fun K' hK=>by simp only[go_sem,ah aU,ai,ak,bJ];exact fn) ?_
    repeat refine sq ?_
    refine rx hΓ [1,4,63,64,65,73] [[1,0],[3,0],[33,0]] (fun K' hK=>by simp only[go_sem,ah aU,ai,ak,bJ];exact fn) ?_
    repeat refine sq ?_
    refine aB (fun hb=>?_) fun hb=>?_
    ·repeat refine sq ?_
     have jw:¬ bF l:=by
      intro h
      have h1:=(EM h).2.1 i aU aU
      rw[h1]at hb
      cases hb
     repeat refine sq ?_
     refine rx hΓ [2] [] (fun K' hK=>by simp only[go_sem,ah aU,ai,ak,bJ];exact fn) ?_
     refine aA ?_
     simp only[go_sem]
     rw[wj jw]
    ·repeat refine sq ?_
     have pM:(sn (sn [] Rec.so l.rs l.rs.length) Ret.so l.ts i).contains l.ts[i].so=false:=by
      simpa only[Bool.not_not]using hb
     rw[AI aU pM]
     refine aE ?_
     refine cf ?_
     simp only[go_sem]
     refine kp [1,4,63,64,65] [[1,0],[3,0],[33,0]] ?_
     repeat refine sq ?_
     refine aY hΓ fun K' hK=>?_
     simp only[go_sem,ah aU,ai,ak,bJ]
     repeat (refine⟨ob,?_⟩)
     refine hK _ ?_
     clear K' hK
     simp only[go_sem]
     refine⟨i+1,⟨aU,?_⟩,by(show l.ts.length-(i+1)<l.ts.length-i;omega),?_⟩
     ·exact Bu KI aU pM
     refine bq [1,4,63,64,65] [[1,0],[3,0],[33,0]] ?_ ?_<;>simp only[go_sem,bj aU lz,bn]
   ·have kI:i=l.ts.length:=by
     have :¬ (i:Int)<l.ts.length:=by simpa using hb
     omega
    clear hb
    subst kI
    repeat refine sq ?_
    refine bV ?_
    simp only[go_sem]
    refine kp [1,4] [[1,0],[3,0],[33,0]] ?_
    repeat refine sq ?_
    refine rs hΓ [1,4,76,77,78] [[1,0],[3,0],[33,0]] ?_
    repeat refine sq ?_
    refine aS ?_
    repeat refine sq ?_
    refine cv (fun s:Nat=>[(78,⟨true,.v (vInt s)⟩)]) (fun s=>[([33,0],.map 0 (eP (sn (sn (sn [] Rec.so l.rs l.rs.length) Ret.so l.ts l.ts.length) Sig.so l.ss s)))]) (fun s=>s<=l.ss.length/\ll (sn (sn [] Rec.so l.rs l.rs.length) Ret.so l.ts l.ts.length) Sig.so l.ss s/\Ov l s) (fun s=>l.ss.length-s) 0 ?_ ?_ ?_ ?_
    ·exact⟨Nat.zero_le _,fun j _ h=>by omega,fun j _ h=>by omega⟩
    ·rfl
    ·rfl
    rintro i ⟨kH,KH,KG⟩
    simp only[go_sem]
    repeat refine sq ?_
    refine rs hΓ [1,4,76,77,78,79] [[1,0],[3,0],[33,0]] ?_
    repeat refine sq ?_
    refine aB (fun hb=>?_) fun hb=>?_
    ·have dz:i<l.ss.length:=by simpa using hb
     have mv:(i:Int)<l.ss.length:=by omega
     clear hb
     repeat refine sq ?_
     refine aE ?_
     repeat refine sq ?_
     refine aS ?_
     repeat refine sq ?_
     refine rx hΓ [1,4,10,76,77,78] [[1,0],[3,0],[10,0],[33,0]] (fun K' hK=>by simp only[go_sem,ah dz,ai,ak,mv];exact fn) ?_
     repeat refine sq ?_
     refine dx hΓ hP [[],[],[1],[0,1,2],u4,u5,u6,u7,u6,[0,1,2,3,4,5,8],[0,1,2,3,4,5,8,9],eG,fG] [1,4,76,77,78,94] [[1,0],[3,0],[33,0]] (by kernel_rfl) (fun K' hK=>by simp only[go_sem,ah dz,ai,ak,mv,ta];exact fd) ?_
     repeat refine sq ?_
     refine aB (fun hb=>?_) fun hb=>?_
     ·repeat refine sq ?_
      have jw:¬ bF l:=by
       intro h
       have h1:=(EM h).2.2 i dz dz
       have h2:=h.sl i dz
       rw[h1]at hb
       simp only[Bool.not_false,Bool.not_true,Bool.false_or,decide_eq_true_eq]at hb
       omega
      repeat refine sq ?_
      refine rx hΓ [2] [] (fun K' hK=>by simp only[go_sem,ah dz,ai,ak,mv];exact fn) ?_
      refine aA ?_
      simp only[go_sem]
      rw[wj jw]
     ·repeat refine sq ?_
      have pM:(sn (sn (sn [] Rec.so l.rs l.rs.length) Ret.so l.ts l.ts.length) Sig.so l.ss i).contains l.ss[i].so=false:=by
       simp only[Bool.or_eq_false_iff,Bool.not_not]at hb
       exact hb.1
      have yv:l.ss[i].le<=cL l.ps l.ss[i].pa:=by
       simp only[Bool.or_eq_false_iff,decide_eq_false_iff_not]at hb
       omega
      rw[AI dz pM]
      refine aE ?_
      refine cf ?_
      simp only[go_sem]
      refine kp [1,4,76,77,78] [[1,0],[3,0],[33,0]] ?_
      repeat refine sq ?_
      refine aY hΓ fun K' hK=>?_
      simp only[go_sem,ah dz,ai,ak,mv]
      repeat (refine⟨ob,?_⟩)
      refine hK _ ?_
      clear K' hK
      simp only[go_sem]
      refine⟨i+1,⟨dz,?_⟩,by(show l.ss.length-(i+1)<l.ss.length-i;omega),?_⟩
      ·exact⟨Bu KH dz pM,fun j hj eC=>by
        rcases Nat.lt_succ_iff_lt_or_eq.1 eC with h1 | rfl
        ·exact KG j hj h1
        ·exact yv⟩
      refine bq [1,4,76,77,78] [[1,0],[3,0],[33,0]] ?_ ?_<;>simp only[go_sem,bj dz U7,bn]
    ·have rh:i=l.ss.length:=by
      have :¬ (i:Int)<l.ss.length:=by simpa using hb
      omega
     clear hb
     subst rh
     repeat refine sq ?_
     refine bV ?_
     simp only[go_sem]
     refine kp [] [] ?_
     repeat refine sq ?_
     refine rs hΓ [2] [] ?_
     refine aA ?_
     simp only[go_sem]
     rw[X5 ⟨fF,by omega,bQ,by omega,oD,by omega,qH,by omega,fun j h=>KJ j h h,fun j h=>KG j h h,ZB hR KI KH⟩]
end
noncomputable section
def ZK:List (Nat×Spec):=[(84,z8)]
attribute [go_sem] ZK
structure Fol where
 (pa le:Int)
 deriving Inhabited,DecidableEq
def oQ(f:Fol):V:=.agg [vInt f.pa,vInt f.le]
def LQ:V->Fol
 | .agg [.int _ a,.int _ b]=>⟨a,b⟩
 |_=>default
def kD:En Fol:=⟨oQ,LQ⟩
attribute [go_sem] oQ LQ kD
@[go_sem] theorem lC(p:Fol):(⟨p.pa,p.le⟩:Fol)=p:=rfl
end
noncomputable section
def K9:List (Nat×Spec):=[]
attribute [go_sem] K9
end
noncomputable section
theorem zb(d:Nat)(a b:Int):hU Tryz.prog (d+1) 3 (vInt a) (vInt b)=some (a==b):=by
 simp only[hU,Tryz.underlying3,if_true]
theorem VJ:Tryz.prog.stoodInHeld 46=false:=by kernel_rfl
theorem WO:Tryz.prog.eqGuardType Tryz.prog.depth 46=false:=by kernel_rfl
theorem W2(d:Nat)(a b a' b':Int):hU Tryz.prog (d+2) 46 (.agg [vInt a,vInt b]) (.agg [vInt a',vInt b'])=some (a==a'&&b==b'):=by
 unfold hU
 simp only[Tryz.underlying46,VJ,Bool.false_eq_true,if_false,nD,pj,wZ,List.getElem?_cons_zero,List.getElem?_cons_succ,zb]
 cases a==a'<;>cases b==b'<;>rfl
@[go_sem] theorem aen(obj:Name->Option O)(op:BinOp)(a b a' b':Int):i7 Tryz.prog obj op 46 (.agg [vInt a,vInt b]) (.agg [vInt a',vInt b'])=
    ⟨op=.eql\/op=.neq,.v (.bool (if op=.eql then(a==a'&&b==b')else !(a==a'&&b==b'))),obj⟩:=by
  unfold i7
  rw[show Op.maxDepth=9998+2 from rfl,W2]
  simp only[WO,true_and]
theorem VI:Tryz.prog.stoodInHeld 56=false:=by kernel_rfl
theorem WN:Tryz.prog.eqGuardType Tryz.prog.depth 56=false:=by kernel_rfl
theorem W1(d:Nat)(a b a' b':Int):hU Tryz.prog (d+2) 56 (.agg [vInt a,vInt b]) (.agg [vInt a',vInt b'])=some (a==a'&&b==b'):=by
 unfold hU
 simp only[Tryz.underlying56,VI,Bool.false_eq_true,if_false,nD,pj,wZ,List.getElem?_cons_zero,List.getElem?_cons_succ,zb]
 cases a==a'<;>cases b==b'<;>rfl
@[go_sem] theorem aem(obj:Name->Option O)(op:BinOp)(a b a' b':Int):i7 Tryz.prog obj op 56 (.agg [vInt a,vInt b]) (.agg [vInt a',vInt b'])=
    ⟨op=.eql\/op=.neq,.v (.bool (if op=.eql then(a==a'&&b==b')else !(a==a'&&b==b'))),obj⟩:=by
  unfold i7
  rw[show Op.maxDepth=9998+2 from rfl,W1]
  simp only[WN,true_and]
theorem VK:Tryz.prog.stoodInHeld 38=false:=by kernel_rfl
theorem WQ:Tryz.prog.eqGuardType Tryz.prog.depth 38=false:=by kernel_rfl
theorem W3(d:Nat)(a b a' b':Int):hU Tryz.prog (d+2) 38 (.agg [vInt a,vInt b]) (.agg [vInt a',vInt b'])=some (a==a'&&b==b'):=by
 unfold hU
 simp only[Tryz.underlying38,VK,Bool.false_eq_true,if_false,nD,pj,wZ,List.getElem?_cons_zero,List.getElem?_cons_succ,zb]
 cases a==a'<;>cases b==b'<;>rfl
@[go_sem] theorem aeo(obj:Name->Option O)(op:BinOp)(a b a' b':Int):i7 Tryz.prog obj op 38 (.agg [vInt a,vInt b]) (.agg [vInt a',vInt b'])=
    ⟨op=.eql\/op=.neq,.v (.bool (if op=.eql then(a==a'&&b==b')else !(a==a'&&b==b'))),obj⟩:=by
  unfold i7
  rw[show Op.maxDepth=9998+2 from rfl,W3]
  simp only[WQ,true_and]
theorem VH:Tryz.prog.stoodInHeld 81=false:=by kernel_rfl
theorem WM:Tryz.prog.eqGuardType Tryz.prog.depth 81=false:=by kernel_rfl
theorem W0(k:Nat)(a b c d e f g a' b' c' d' e' f' g':Int):hU Tryz.prog (k+2) 81 (.agg [vInt a,vInt b,vInt c,vInt d,vInt e,vInt f,vInt g]) (.agg [vInt a',vInt b',vInt c',vInt d',vInt e',vInt f',vInt g'])=
 some (a==a'&&(b==b'&&(c==c'&&(d==d'&&(e==e'&&(f==f'&&g==g')))))):=by
 unfold hU
 simp only[Tryz.underlying81,VH,Bool.false_eq_true,if_false,nD,pj,wZ,List.getElem?_cons_zero,List.getElem?_cons_succ,zb]
 cases a==a'<;>cases b==b'<;>cases c==c'<;>cases d==d'<;>cases e==e'<;>cases f==f'<;>cases g==g'<;>rfl
@[go_sem] theorem ael(obj:Name->Option O)(op:BinOp)(a b c d e f g a' b' c' d' e' f' g':Int):i7 Tryz.prog obj op 81 (.agg [vInt a,vInt b,vInt c,vInt d,vInt e,vInt f,vInt g]) (.agg [vInt a',vInt b',vInt c',vInt d',vInt e',vInt f',vInt g'])=
    ⟨op=.eql\/op=.neq,.v (.bool (if op=.eql then(a==a'&&(b==b'&&(c==c'&&(d==d'&&(e==e'&&(f==f'&&g==g'))))))else !(a==a'&&(b==b'&&(c==c'&&(d==d'&&(e==e'&&(f==f'&&g==g')))))))),obj⟩:=by
  unfold i7
  rw[show Op.maxDepth=9998+2 from rfl,W0]
  simp only[WM,true_and]
theorem KA{l:List Int}{n:Int}:l.contains n=true↔∃ k,∃ (h:k<l.length),l[k]=n:=by
 rw[List.contains_iff_mem]
 constructor
 ·intro h
  obtain⟨k,hk,e⟩:=List.getElem_of_mem h
  exact⟨k,hk,e⟩
 ·rintro⟨k,hk,rfl⟩
  exact List.getElem_mem hk
@[go_sem] def P15:PSpec:=p2 eh iI (fun _ _=>True) (fun l n=>.bool (l.contains n)) true
@[go_sem] def rY:Spec:=P15.toSpec
set_option maxHeartbeats 4000000 in
theorem xd:aW Tryz.prog 15 P15:=by
 refine ez (rs:=[.tmp 4]) Tryz.func15 Tryz.ntmps15 fun l n hp hw=>?_
 simp only[iI,eh]at hw |-
 have hΓ:=@fj Tryz.prog
 have hl:l.length<=maxLen:=by have:=hw.1.1;simpa using this
 repeat refine sq ?_
 refine rs hΓ [0,1] [] ?_
 repeat refine sq ?_
 refine rs hΓ [0,1,5] [] ?_
 repeat refine sq ?_
 refine aS ?_
 repeat refine sq ?_
 refine cv (fun s:Nat=>[(5,⟨true,.v (vInt s)⟩)]) (fun s=>[]) (fun s=>s<=l.length/\∀ k (h:k<l.length),k<s->l[k]≠n) (fun s=>l.length-s) 0 ?_ ?_ ?_ ?_
 ·exact⟨Nat.zero_le _,by simp⟩
 ·rfl
 ·rfl
 rintro i ⟨hi,hR⟩
 simp only[go_sem]
 repeat refine sq ?_
 refine rs hΓ [0,1,5,9] [] ?_
 repeat refine sq ?_
 refine aB (fun hb=>?_) fun hb=>?_
 ·have ab:i<l.length:=by simpa using hb
  have aq:(i:Int)<l.length:=by omega
  clear hb
  repeat refine sq ?_
  refine aE ?_
  repeat refine sq ?_
  refine aS ?_
  repeat refine sq ?_
  refine rx hΓ [0,1,5,17] [] (fun K' hK=>by simp only[go_sem,ah ab,ai,ak,aq];exact fn) ?_
  repeat refine sq ?_
  refine aB (fun hb=>?_) fun hb=>?_
  ·repeat refine sq ?_
   refine rx hΓ [4] [] (fun K' hK=>by simp only[go_sem,ah ab,ai,ak,aq];exact fn) ?_
   refine aA ?_
   simp only[go_sem]
   rw[KA.2 ⟨i,ab,by simpa using hb⟩]
  ·repeat refine sq ?_
   refine aE ?_
   refine cf ?_
   simp only[go_sem]
   refine kp [0,1,5] [] ?_
   repeat refine sq ?_
   refine aY hΓ fun K' hK=>?_
   simp only[go_sem,ah ab,ai,ak,aq]
   repeat (refine⟨ob,?_⟩)
   refine hK _ ?_
   clear K' hK
   simp only[go_sem]
   refine⟨i+1,⟨ab,?_⟩,by(show l.length-(i+1)<l.length-i;omega),?_⟩
   ·intro k hk eo
    rcases Nat.lt_succ_iff_lt_or_eq.1 eo with h5 | rfl
    ·exact hR k hk h5
    ·simpa using hb
   refine bq [0,1,5] [] ?_ ?_<;>simp only[go_sem,bj ab hl,bn]
 ·have bx:i=l.length:=by
   have :¬ (i:Int)<l.length:=by simpa using hb
   omega
  clear hb
  subst bx
  repeat refine sq ?_
  refine bV ?_
  simp only[go_sem]
  refine kp [] [] ?_
  repeat refine sq ?_
  refine rs hΓ [4] [] ?_
  refine aA ?_
  simp only[go_sem]
  rw[tW KA (fun ⟨k,hk,e⟩=>hR k hk hk e)]
def aaR:List (Nat×Spec):=[]
attribute [go_sem] aaR
def K10:List (Nat×Spec):=[]
attribute [go_sem] K10
end
noncomputable section
theorem aW.conv{P:Program}{f:FuncId}{s s':PSpec}(h:aW P f s)(hf:s'.flat=s.flat)(hp:∀ xs,s'.pre xs->s.pre xs/\s'.fn xs=s.fn xs):aW P f s':=by
 refine⟨h.ne,h.enter,fun dX xs hx=>?_,fun m w xs args hm hx dI=>?_⟩
 ·rw[(hp xs hx).2];exact h.flat (hf▸dX) xs (hp xs hx).1
 ·rw[(hp xs dI).2];exact h.calls m w xs args hm hx (hp xs dI).1
def S132:Spec:=tT Tryz.prog 29
theorem TZ:aM Tryz.prog 132 S132:=XJ Mb
attribute [go_sem] S132
def K11:List (Nat×Spec):=[(132,S132)]
attribute [go_sem] K11
def XA(l:Led):List (Name×O):=[([8,0],.arr 2 (l.ps.map dk)),([11,0],.arr 7 (l.rs.map encR)),([14,0],.arr 8 (l.ts.map dB)),([17,0],.arr 7 (l.ss.map encS))]
def XB(l:Led):D:=.agg [.msl [8,0] l.ps.length,.msl [11,0] l.rs.length,.msl [14,0] l.ts.length,.msl [17,0] l.ss.length]
attribute [go_sem] XA XB
theorem GW(l:List Pap):∀ y∈l.map dk,y.cells.length=2/\y.okc=true:=by
 intro y hy;obtain⟨x,_,rfl⟩:=List.mem_map.1 hy;exact⟨rfl,rfl⟩
theorem Bf(l:List Rec):∀ y∈l.map encR,y.cells.length=7/\y.okc=true:=by
 intro y hy;obtain⟨x,_,rfl⟩:=List.mem_map.1 hy;exact⟨rfl,rfl⟩
theorem GU(l:List Ret):∀ y∈l.map dB,y.cells.length=8/\y.okc=true:=by
 intro y hy;obtain⟨x,_,rfl⟩:=List.mem_map.1 hy;exact⟨rfl,rfl⟩
theorem GV(l:List Sig):∀ y∈l.map encS,y.cells.length=7/\y.okc=true:=by
 intro y hy;obtain⟨x,_,rfl⟩:=List.mem_map.1 hy;exact⟨rfl,rfl⟩
theorem GY(l:List Int):∀ y∈l.map vInt,y.cells.length=1/\y.okc=true:=by
 intro y hy;obtain⟨x,_,rfl⟩:=List.mem_map.1 hy;exact⟨rfl,rfl⟩
theorem ao{p:Prop}(h:p:=by first | exact GW _ | exact Bf _ | exact GU _ | exact GV _ | exact GY _ | ((repeat' apply And.intro)<;>first | rfl | omega | (unfold maxLen;omega) | trivial | decide | exact GW _ | exact Bf _ | exact GU _ | exact GV _ | exact GY _) | exact ob):p:=h
theorem an{p:Prop}(h:p:=by(repeat (refine⟨ao,?_⟩));exact hK _ (by simp only[go_sem]) (by simp only[go_sem]<;>rfl)):p:=h
theorem kM{p:Prop}(h:p:=by(repeat (refine⟨ao,?_⟩));(first | refine⟨by rfl,?_⟩ | skip);exact hK _ (by simp only[go_sem]) (by simp only[go_sem]<;>rfl)):p:=h
end
noncomputable section
theorem Oe{α β:Type}{f:α->β}{l:List α}{i:Nat}(h:i<l.length):(l.take (i+1)).map f=(l.take i).map f++[f l[i]]:=by
 rw[List.take_add_one,List.getElem?_eq_getElem h]
 simp only[List.map_append,Option.toList_some,List.map_cons,List.map_nil]
def pB:En (Nat×Int):=⟨fun g=>.clo (.func g.1) [] [.ptr [vInt g.2]],fun v=>match v with | .clo (.func g) _ [.ptr [.int _ s]]=>(g,s) | _=>default⟩
def oB:En Int:=⟨fun s=>.ptr [vInt s],fun v=>match v with | .ptr [.int _ s]=>s | _=>0⟩
attribute [go_sem] pB oB
@[go_sem] def P171:PSpec:=p2 iR oB (fun _ _=>True) (fun x s=>.bool (x.so==s)) true
@[go_sem] def S171:Spec:=P171.toSpec
theorem PF:aW Tryz.prog 171 P171:=by
 refine ez (rs:=[.tmp 3]) Tryz.func171 Tryz.ntmps171 fun x s hp hw=>?_
 simp only[oB,iR,encR]at hw |-
 have hΓ:=@fj Tryz.prog
 repeat refine sq ?_
 refine rx hΓ [1,2] [[2,0]] (fun K' hK=>by simp only[go_sem];exact an) ?_
 repeat refine sq ?_
 refine rx hΓ [3] [] (fun K' hK=>by simp only[go_sem];exact an) ?_
 refine aA ?_
 simp only[go_sem]
 all_goals exact dJ
@[go_sem] def P167:PSpec:=p2 iR oB (fun _ _=>True) (fun x s=>.bool (x.so==s)) true
@[go_sem] def Nk:Spec:=P167.toSpec
theorem PI:aW Tryz.prog 167 P167:=by
 refine ez (rs:=[.tmp 3]) Tryz.func167 Tryz.ntmps167 fun x s hp hw=>?_
 simp only[oB,iR,encR]at hw |-
 have hΓ:=@fj Tryz.prog
 repeat refine sq ?_
 refine rx hΓ [1,2] [[2,0]] (fun K' hK=>by simp only[go_sem];exact an) ?_
 repeat refine sq ?_
 refine rx hΓ [3] [] (fun K' hK=>by simp only[go_sem];exact an) ?_
 refine aA ?_
 simp only[go_sem]
 all_goals exact dJ
@[go_sem] def P92:PSpec:=p2 iS oB (fun _ _=>True) (fun x s=>.bool (x.so==s)) true
@[go_sem] def YW:Spec:=P92.toSpec
theorem O9:aW Tryz.prog 92 P92:=by
 refine ez (rs:=[.tmp 3]) Tryz.func92 Tryz.ntmps92 fun x s hp hw=>?_
 simp only[oB,iS,encS]at hw |-
 have hΓ:=@fj Tryz.prog
 repeat refine sq ?_
 refine rx hΓ [1,2] [[2,0]] (fun K' hK=>by simp only[go_sem];exact an) ?_
 repeat refine sq ?_
 refine rx hΓ [3] [] (fun K' hK=>by simp only[go_sem];exact an) ?_
 refine aA ?_
 simp only[go_sem]
 all_goals exact dJ
def dp{α:Type}(p:α->Bool)(l:List α):Int:=if l.any p then(l.findIdx p:Int)else -1
theorem nj{α:Type}{p:α->Bool}{l:List α}{i:Nat}(h:i<l.length)(hp:p l[i]=true)(hn:∀ k (hk:k<l.length),k<i->p l[k]=false):dp p l=i:=by
 unfold dp
 rw[if_pos (List.any_eq_true.2 ⟨_,List.getElem_mem h,hp⟩)]
 congr 1
 rw[List.findIdx_eq h]
 exact⟨hp,fun j hj=>hn j (by omega) hj⟩
theorem s6{α:Type}{p:α->Bool}{l:List α}(hn:∀ k (hk:k<l.length),p l[k]=false):dp p l= -1:=by
 unfold dp
 rw[if_neg]
 intro h
 obtain⟨x,hx,hp⟩:=List.any_eq_true.1 h
 obtain⟨k,hk,rfl⟩:=List.getElem_of_mem hx
 rw[hn k hk]at hp;cases hp
theorem vp{α:Type}(p:α->Bool)(l:List α):decide (dp p l>=0)=l.any p:=by
 unfold dp
 cases l.any p with
 |true=>simp
 |false=>simp
def K12a:List (Nat×Spec):=[(171,S171),(167,Nk)]
theorem aaQ:KS K12a:=tc PF.sound<|tc PI.sound<|tn
attribute [go_sem] K12a
def NA:FuncId->Option Spec:=tbl K12a
theorem aaO:∀ f s,NA f=some s->aM Tryz.prog f s:=aaQ
@[go_sem] theorem aep:Nk=S171:=rfl
@[go_sem] def P166:PSpec:=p2 (fE iR) pB (fun _ g=>g.1=171\/g.1=167) (fun l g=>vInt (dp (fun x=>Rec.so x==g.2) l)) true
@[go_sem] def Nl:Spec:=P166.toSpec
set_option maxHeartbeats 4000000 in
theorem PJ:aW Tryz.prog 166 P166:=by
 refine ez (rs:=[.tmp 4]) Tryz.func166 Tryz.ntmps166 fun l g hp hw=>?_
 simp only[pB,iR,fE,encR]at hw |-
 have hΓ:=aaO
 have hl:l.length<=maxLen:=by have:=hw.1.1;simpa using this
 obtain⟨g,s_⟩:=g
 try simp only[pB]at hw hp |-
 have hg:NA g=some S171:=by rcases hp with rfl | rfl<;>rfl
 have Vr:¬ g=1000000000:=by omega
 repeat refine sq ?_
 refine rx hΓ [0,1] [] (fun K' hK=>by simp only[go_sem];exact an) ?_
 repeat refine sq ?_
 refine rx hΓ [0,1,7,8] [] (fun K' hK=>by simp only[go_sem];exact an) ?_
 repeat refine sq ?_
 refine aS ?_
 repeat refine sq ?_
 refine cv (fun s:Nat=>[(8,⟨true,.v (vInt s)⟩)]) (fun s=>[]) (fun s=>s<=l.length/\∀ k (h:k<l.length),k<s->(fun x:Rec=>Rec.so x==s_) l[k]=false) (fun s=>l.length-s) 0 ?_ ?_ ?_ ?_
 ·exact⟨Nat.zero_le _,by simp⟩
 ·rfl
 ·rfl
 rintro i ⟨hi,hR⟩
 simp only[go_sem]
 repeat refine sq ?_
 refine rx hΓ [0,1,7,8,9] [] (fun K' hK=>by simp only[go_sem];exact an) ?_
 repeat refine sq ?_
 refine aB (fun hb=>?_) fun hb=>?_
 ·have ab:i<l.length:=by simpa using hb
  have aq:(i:Int)<l.length:=by omega
  clear hb
  repeat refine sq ?_
  refine aE ?_
  repeat refine sq ?_
  refine aS ?_
  repeat refine sq ?_
  refine rx hΓ [0,1,5,7,8] [] (fun K' hK=>by simp only[go_sem,ah ab,ai,ak,aq];exact an) ?_
  repeat refine sq ?_
  refine rx hΓ [0,1,5,7,8,16] [] (fun K' hK=>by simp only[go_sem,ah ab,ai,ak,aq,hg,Vr];exact an) ?_
  repeat refine sq ?_
  refine aB (fun hb=>?_) fun hb=>?_
  ·repeat refine sq ?_
   refine rx hΓ [4] [] (fun K' hK=>by simp only[go_sem,ah ab,ai,ak,aq];exact an) ?_
   refine aA ?_
   simp only[go_sem]
   rw[nj (p:=fun x=>Rec.so x==s_) ab (by simpa using hb) hR]
  ·repeat refine sq ?_
   refine aE ?_
   refine cf ?_
   simp only[go_sem]
   refine kp [0,1,7,8] [] ?_
   repeat refine sq ?_
   refine aY hΓ fun K' hK=>?_
   simp only[go_sem,ah ab,ai,ak,aq]
   repeat (refine⟨ao,?_⟩)
   refine hK _ ?_
   clear K' hK
   simp only[go_sem]
   refine⟨i+1,⟨ab,?_⟩,by(show l.length-(i+1)<l.length-i;omega),?_⟩
   ·intro k hk eo
    rcases Nat.lt_succ_iff_lt_or_eq.1 eo with h5 | rfl
    ·exact hR k hk h5
    ·simpa using hb
   refine bq [0,1,7,8] [] ?_ ?_<;>simp only[go_sem,bj ab hl,bn]
 ·have bx:i=l.length:=by
   have :¬ (i:Int)<l.length:=by simpa using hb
   omega
  clear hb
  subst bx
  repeat refine sq ?_
  refine bV ?_
  simp only[go_sem]
  refine kp [] [] ?_
  repeat refine sq ?_
  refine rx hΓ [4] [] (fun K' hK=>by simp only[go_sem];exact an) ?_
  refine aA ?_
  simp only[go_sem]
  rw[s6 (p:=fun x=>Rec.so x==s_) fun k hk=>hR k hk hk]
@[go_sem] def Zv:PSpec:=p2 (fE iS) pB (fun _ g=>g.1=175) (fun l g=>vInt (dp (fun x=>Sig.so x==g.2) l)) true
@[go_sem] def Zd:Spec:=Zv.toSpec
def aaP:List (Nat×Spec):=[(166,Nl),(181,Zd)]
attribute [go_sem] aaP
def K12:List (Nat×Spec):=[]
attribute [go_sem] K12
end
noncomputable section
attribute [go_sem] Uc
def K13:List (Nat×Spec):=[(37,ED),(67,Nf),(79,wC)]
attribute [go_sem] K13
end
noncomputable section
def K14:List (Nat×Spec):=[(15,rY)]
attribute [go_sem] K14
end
structure Vw where
 l:Led
 rs:List Rec
 ts:List Int
 bk:List ((Int×Int)×Int)
 ds:List (Int×(Int×Int))
 deriving Inhabited
def bR(b:List ((Int×Int)×Int)):List (V×V):=b.map fun q=>(.agg [vInt q.1.1,vInt q.1.2],vInt q.2)
def LO:V->Int×Int
 | .agg [.int _ a,.int _ b]=>(a,b)
 |_=>(0,0)
def zl(es:List (V×V)):List ((Int×Int)×Int):=es.map fun q=>(LO q.1,jz q.2)
def bD(d:List (Int×(Int×Int))):List (V×V):=d.map fun q=>(vInt q.1,.agg [vInt q.2.1,vInt q.2.2])
def DS(es:List (V×V)):List (Int×(Int×Int)):=es.map fun q=>(jz q.1,LO q.2)
@[go_sem] theorem DT(b:List ((Int×Int)×Int)):zl (bR b)=b:=by
  unfold zl bR
  rw[List.map_map]
  exact List.map_id _
@[go_sem] theorem DR(b:List (Int×(Int×Int))):DS (bD b)=b:=by
  unfold DS bD
  rw[List.map_map]
  exact List.map_id _
def bt(x:Vw)(nb nd:Name):O:=.box [.v (iW x.l),.v (.sl (x.rs.map encR)),.v (.sl (x.ts.map vInt)),.map nb,.map nd]
def tK(lp:V)(rs ts:List V)(eb ed:List (V×V)):Vw:=⟨zk lp,rs.map j6,ts.map jz,zl eb,DS ed⟩
theorem Xe(x:Vw):tK (iW x.l) (x.rs.map encR) (x.ts.map vInt) (bR x.bk) (bD x.ds)=x:=by
 obtain⟨⟨p,r,t,s⟩,rs,ts,bk,ds⟩:=x
 simp only[tK,iW,zk,LL,zi,LJ,tL,pX,DT,DR]
def hG(obj:Name->Option O)(nv:Name):Option (Name×Name×Vw):=match obj nv with
 |some (.box [.v lp,.v (.sl rs),.v (.sl ts),.map nb,.map nd])=>match obj nb,obj nd with
  |some (.map 2 eb),some (.map 0 ed)=>some (nb,nd,tK lp rs ts eb ed)
  |_,_=>none
 |_=>none
def na(obj:Name->Option O)(nv nb nd:Name)(x:Vw):Prop:=
 obj nv=some (bt x nb nd)/\obj nb=some (.map 2 (bR x.bk))/\obj nd=some (.map 0 (bD x.ds))/\(nv==nb)=false/\(nv==nd)=false/\(nb==nd)=false
structure VSpec where
 pre:Vw->List V->Prop
 val:Vw->List V->D
 wr:Option (Vw->List V->List (Int×(Int×Int)))
def VSpec.app(s:VSpec)(obj:Name->Option O)(t:Name)(ds:List D):R:=match ds with
 | .ref nv 0::r=>match hG obj nv,kS r with
   |some (nb,nd,x),some xs=>⟨na obj nv nb nd x/\s.pre x xs,(s.val x xs).ren (cout [nv,nb,nd] t),match s.wr with | none=>obj | some f=>upd obj nd (some (.map 0 (bD (f x xs))))⟩
   |_,_=>.bad obj
 |_=>.bad obj
def VSpec.foot(_:VSpec)(obj:Name->Option O)(_:Name)(ds:List D):List Name:=match ds with
 | .ref nv _::_=>nv::(match obj nv with | some (.box [_,_,_,.map nb,.map nd])=>[nb,nd] | _=>[])
 |_=>[]
def VSpec.toSpec(s:VSpec):Spec:=⟨s.app,s.foot,s.foot⟩
theorem VSpec.near(s:VSpec):s.toSpec.Near:=by
 refine uZ fun obj obj2 t ds ha=>?_
 match ds with
 | .ref nv off::r=>
   have h1:obj2 nv=obj nv:=ha nv (by simp[VSpec.foot])
   refine⟨by simp only[VSpec.foot,h1],?_⟩
   cases off with
   |succ k=>exact .none _ ha
   |zero=>
    have gf:bO (R.bad obj) (R.bad obj2) obj obj2 (s.foot obj t (.ref nv 0::r)):=.none _ ha
    by_cases hg:∃ a b c nb nd,obj nv=some (.box [a,b,c,.map nb,.map nd])
    ·obtain⟨a,b,c,nb,nd,hb⟩:=hg
     have jx:obj2 nb=obj nb:=ha nb (by simp[VSpec.foot,hb])
     have jV:obj2 nd=obj nd:=ha nd (by simp[VSpec.foot,hb])
     have Vs:hG obj2 nv=hG obj nv:=by
      unfold hG
      rw[h1,hb]
      split<;>first | rfl | (rename_i e;cases e;rw[jx,jV])
     have bN:∀ sT sS x,hG obj nv=some (sT,sS,x)->sT=nb/\sS=nd:=by
      intro sT sS x h
      unfold hG at h
      rw[hb]at h
      split at h
      ·rename_i e
       cases e
       split at h
       ·cases h;exact⟨rfl,rfl⟩
       ·cases h
      ·cases h
     show bO (s.app obj t (.ref nv 0::r)) (s.app obj2 t (.ref nv 0::r)) obj obj2 _
     unfold VSpec.app
     simp only[Vs]
     split
     ·rename_i sT sS x xs hx yc
      obtain⟨rfl,rfl⟩:=bN _ _ _ hx
      have aa:na obj2 nv sT sS x=na obj nv sT sS x:=by unfold na;rw[h1,jx,jV]
      rw[aa]
      cases s.wr with
      |none=>exact .none _ ha
      |some f=>exact .one (by simp[VSpec.foot,hb]) ha
     ·exact gf
    ·have e1:hG obj nv=none:=by
       unfold hG
       split
       ·rename_i h;exact(hg ⟨_,_,_,_,_,h⟩).elim
       ·rfl
     have e2:hG obj2 nv=none:=by
      unfold hG
      rw[h1]
      split
      ·rename_i h;exact(hg ⟨_,_,_,_,_,h⟩).elim
      ·rfl
     show bO (s.app obj t (.ref nv 0::r)) (s.app obj2 t (.ref nv 0::r)) obj obj2 _
     unfold VSpec.app
     simp only[e1,e2]
     exact gf
 |[]=>exact⟨rfl,.none _ ha⟩
 | .v _::_=>exact⟨rfl,.none _ ha⟩
 | .nilsl::_=>exact⟨rfl,.none _ ha⟩
 | .nilmap::_=>exact⟨rfl,.none _ ha⟩
 | .msl _ _::_=>exact⟨rfl,.none _ ha⟩
 | .aref _ _ _ _::_=>exact⟨rfl,.none _ ha⟩
 | .map _::_=>exact⟨rfl,.none _ ha⟩
 | .yld _::_=>exact⟨rfl,.none _ ha⟩
 | .clo _ _ _::_=>exact⟨rfl,.none _ ha⟩
 | .agg _::_=>exact⟨rfl,.none _ ha⟩
 | .tup _::_=>exact⟨rfl,.none _ ha⟩
 | .any::_=>exact⟨rfl,.none _ ha⟩
def VSpec.c(s:VSpec):CSpec where
 pre:=fun os ds=>∃ (x:Vw) (xs:List V),os=[bt x [1,1] [2,1],.map 2 (bR x.bk),.map 0 (bD x.ds)]/\ds=.ref [0,1] 0::xs.map .v/\s.pre x xs
 out:=fun os ds=>match os,ds with
  |[.box [.v lp,.v (.sl rs),.v (.sl ts),_,_],.map _ eb,.map _ ed],_::r=>match kS r with
   |some xs=>⟨match s.wr with | none=>[] | some f=>[(2,.map 0 (bD (f (tK lp rs ts eb ed) xs)))],[],s.val (tK lp rs ts eb ed) xs⟩
   |none=>⟨[],[],.any⟩
  |_,_=>⟨[],[],.any⟩
theorem VSpec.c_out(s:VSpec)(x:Vw)(xs:List V):s.c.out [bt x [1,1] [2,1],.map 2 (bR x.bk),.map 0 (bD x.ds)] (.ref [0,1] 0::xs.map .v)=
 ⟨match s.wr with | none=>[] | some f=>[(2,.map 0 (bD (f x xs)))],[],s.val x xs⟩:=by
 simp only[VSpec.c,bt,zX,Xe]
theorem Gj{obj:Name->Option O}{nv nb nd:Name}{x:Vw}(h:na obj nv nb nd x)(xs:List V):reach obj (.ref nv 0::xs.map .v)=[nv,nb,nd]:=by
 obtain⟨h1,h2,h3,h4,h5,h6⟩:=h
 unfold reach
 have e:cS (.ref nv 0::xs.map .v)=[nv]:=by simp only[cS,lq,Bw,List.append_nil]
 rw[e]
 show dn obj (2996+1+1+1+1) [nv] []=[nv,nb,nd]
 simp only[dn,cM,List.any_nil,Bool.false_eq_true,if_false,h1,bt,ln,cS,lq,List.nil_append,List.append_nil,List.any_cons,h4,h5,h6,Bool.or_false,h2,h3,List.cons_append]
theorem VSpec.sound{P:Program}{f:FuncId}{s:VSpec}(h:aM P f s.c.toSpec)(aG:f≠yid):aM P f s.toSpec:=by
 refine uB h s.near aG fun obj t ds aa=>?_
 have eK:(s.app obj t ds).ok:=aa
 show ∃ lF,_/\_/\_/\_=(s.app obj t ds).d/\_=(s.app obj t ds).obj
 unfold VSpec.app at eK |-
 split at eK
 ·rename_i nv r
  split at eK
  ·rename_i nb nd x xs vO yc
   obtain⟨hv,hp⟩:=eK
   have hlen:=Eu yc
   have qE:=hv
   obtain⟨h1,h2,h3,h4,h5,h6⟩:=qE
   have n4:nv≠nb:=by simpa using h4
   have n5:nv≠nd:=by simpa using h5
   have n6:nb≠nd:=by simpa using h6
   have hr:=Gj hv xs
   have i0:idx [nv,nb,nd] nv=0:=by simp[idx]
   have i1:idx [nv,nb,nd] nb=1:=by simp[idx,n4]
   have i2:idx [nv,nb,nd] nd=2:=by simp[idx,n5,n6]
   have e1:cp obj (.ref nv 0::xs.map .v)=[bt x [1,1] [2,1],.map 2 (bR x.bk),.map 0 (bD x.ds)]:=by
    unfold cp
    rw[hr]
    simp only[List.map_cons,List.map_nil,cw,h1,h2,h3,bt,O.ren,D.renL,D.ren,cin,i1,i2]
   have e2:cQ obj (.ref nv 0::xs.map .v)=.ref [0,1] 0::xs.map .v:=by
    unfold cQ
    rw[hr]
    simp only[D.renL,D.ren,cin,i0,A3]
   have e5:(shut obj [nv,nb,nd]&&D.closL (cM [nv,nb,nd]) (.ref nv 0::xs.map .v)&&fresh obj t [])=true:=by
    simp[shut,h1,h2,h3,bt,O.clos,D.closL,D.clos,cM,fresh,D6]
   refine⟨.ref nv 0::xs.map .v,by simpa using hlen,fun φ m us hl pH i a b=>?_,?_⟩
   ·cases i with
    |zero=>exact pH 0 (by simp) b
    |succ i=>
     simp only[List.length_cons,List.length_map]at a
     simp only[List.getElem_cons_succ,List.getElem_map]
     exact .v _ _ (Et yc i (by omega) (by omega) _ (by have:=pH (i+1) (by simp;omega) b;simpa using this))
   ·have e4:s.c.pre [bt x [1,1] [2,1],.map 2 (bR x.bk),.map 0 (bD x.ds)] (.ref [0,1] 0::xs.map .v):=⟨x,xs,rfl,rfl,hp⟩
    simp only[CSpec.toSpec,e1,e2,hr,s.c_out,e4,e5,vO,yc,and_self,di]
    refine⟨trivial,trivial,?_⟩
    cases s.wr with
    |none=>rfl
    |some f=>simp only[cr,O.ren,List.getD_cons_zero,List.getD_cons_succ]
  ·exact eK.elim
 ·exact eK.elim
def uM(P:Program)(rs:List ResultVar)(x:Vw)(d:D)(w:Option (List (Int×(Int×Int)))):Exit->S->Prop
 | .normal,σ=>(bL P σ rs).ok/\(bL P σ rs).d=d/\σ.obj [0,1]=some (bt x [1,1] [2,1])/\σ.obj [1,1]=some (.map 2 (bR x.bk))/\σ.obj [2,1]=some (.map 0 (bD (w.getD x.ds)))
 | .ret,σ=>(bL P σ rs).ok/\(bL P σ rs).d=d/\σ.obj [0,1]=some (bt x [1,1] [2,1])/\σ.obj [1,1]=some (.map 2 (bR x.bk))/\σ.obj [2,1]=some (.map 0 (bD (w.getD x.ds)))
 |_,_=>False
theorem Aq{P:Program}{f:FuncId}{fn:Func}{nt:Nat}{rs:List ResultVar}{s:VSpec}(hf:P.funcs[f]?=some fn)(ca:fn.ntmps=nt)(bQ:fn.results.toList=rs)(hn:(fn.name== "runtime.NumGoroutine")=false)(hy:f<1000000000)(cC:∀ x xs,s.pre x xs->D.clos (fun _=>false) (s.val x xs)=true)
 (hb:∃ c,fn.body=some c/\∀ x xs,s.pre x xs->xs.length+1<=nt/\∀ H:Name->Option O,H [0,1]=some (bt x [1,1] [2,1])->H [1,1]=some (.map 2 (bR x.bk))->H [2,1]=some (.map 0 (bD x.ds))->
   (∀ hs,b7 [0] (bU [0] hs) H=True)->(∀ hs es,b7 [0] (bU [0] hs) (fun nm=>if nm=[2,1]then some (.map 0 es)else H nm)=True)->
   CL P [c] (bc nt [0] H (cW 0 (.ref [0,1] 0::xs.map .v)) []) (uM P rs x (s.val x xs) (s.wr.map fun f=>f x xs))):aM P f s.toSpec:=by
 obtain⟨c,hc,h⟩:=hb
 have aG:f≠yid:=Nat.ne_of_lt (show f<yid from hy)
 refine VSpec.sound (nI hf hc ca bQ (ib hf hc hn) aG ?_) aG
 rintro os ds ⟨x,xs,rfl,rfl,hp⟩
 obtain⟨h1,h2⟩:=h x xs hp
 refine⟨by simpa using h1,?_⟩
 have hO:∀ hs,b7 [0] (bU [0] hs) (aV [bt x [1,1] [2,1],.map 2 (bR x.bk),.map 0 (bD x.ds)]):=fun hs=>od (by
  intro o ho dom hd
  simp only[List.mem_cons,List.not_mem_nil,or_false]at ho
  rcases ho with rfl | rfl | rfl
  ·simp[bt,O.clos,D.closL,D.clos,hd]
  ·rfl
  ·rfl) hs
 have :=h2 (aV [bt x [1,1] [2,1],.map 2 (bR x.bk),.map 0 (bD x.ds)]) rfl rfl rfl (fun hs=>eq_true (hO hs)) (fun hs es=>eq_true (r9 (nm:=[2,1]) (o:=.map 0 es) rfl (hO hs)))
 refine CW.mono (iY this) fun e σ hk=>?_
 rw[s.c_out]
 have key:(bL P σ rs).ok/\(bL P σ rs).d=s.val x xs/\σ.obj [0,1]=some (bt x [1,1] [2,1])/\σ.obj [1,1]=some (.map 2 (bR x.bk))/\σ.obj [2,1]=some (.map 0 (bD ((s.wr.map fun f=>f x xs).getD x.ds)))->
     (bL P σ rs).ok/\(bL P σ rs).d=s.val x xs/\fT [bt x [1,1] [2,1],.map 2 (bR x.bk),.map 0 (bD x.ds)] ⟨match s.wr with | none=>[] | some f=>[(2,.map 0 (bD (f x xs)))],[],s.val x xs⟩ σ:=by
  rintro⟨k1,k2,k3,k4,k5⟩
  refine⟨k1,k2,?_⟩
  have hd:=clos_imp (dom:=fun _=>false) (dom':=cV 3 []) (fun _ h=>by cases h) _ (cC x xs hp)
  cases hw:s.wr with
  |none=>
   rw[hw]at k5
   refine⟨⟨k3,k4,k5,trivial⟩,trivial,?_⟩
   show (D.clos (cV 3 []) (s.val x xs)&&_&&_&&_)=true
   rw[hd];rfl
  |some f=>
   rw[hw]at k5
   refine⟨⟨k3,k4,k5,trivial⟩,trivial,?_⟩
   show (D.clos (cV 3 []) (s.val x xs)&&_&&_&&_)=true
   rw[hd];rfl
 cases e with
 |normal=>exact key hk
 |ret=>exact key hk
 |_=>exact hk.elim
def v0(p:Vw->Prop)(g:Vw->D)(w:Option (Vw->List (Int×(Int×Int)))):VSpec:=
 ⟨fun x xs=>match xs with | []=>p x | _=>False,fun x xs=>match xs with | []=>g x | _=>.any,w.map fun w x xs=>match xs with | []=>w x | _=>[]⟩
theorem E4{p:Vw->Prop}{g:Vw->D}{w:Option (Vw->List (Int×(Int×Int)))}{x:Vw}{xs:List V}(h:(v0 p g w).pre x xs):
 xs=[]/\p x/\(v0 p g w).val x xs=g x/\((v0 p g w).wr.map fun f=>f x xs)=w.map fun w=>w x:=by
 unfold v0 at h
 simp only at h
 split at h
 ·exact⟨rfl,h,rfl,by cases w<;>rfl⟩
 ·exact h.elim
def v1{α:Type}(A:En α)(p:Vw->α->Prop)(g:Vw->α->D)(w:Option (Vw->α->List (Int×(Int×Int)))):VSpec:=
 ⟨fun x xs=>match xs with | [a]=>A.enc (A.dec a)=a/\p x (A.dec a) | _=>False,fun x xs=>match xs with | [a]=>g x (A.dec a) | _=>.any,w.map fun w x xs=>match xs with | [a]=>w x (A.dec a) | _=>[]⟩
theorem E3{α:Type}{A:En α}{p:Vw->α->Prop}{g:Vw->α->D}{w:Option (Vw->α->List (Int×(Int×Int)))}{x:Vw}{xs:List V}(h:(v1 A p g w).pre x xs):
 ∃ a,xs=[A.enc a]/\p x a/\(v1 A p g w).val x xs=g x a/\((v1 A p g w).wr.map fun f=>f x xs)=w.map fun w=>w x a:=by
 unfold v1 at h
 simp only at h
 split at h
 ·exact⟨_,by rw[h.1],h.2,rfl,by cases w<;>rfl⟩
 ·exact h.elim
def v2{α β:Type}(A:En α)(B:En β)(p:Vw->α->β->Prop)(g:Vw->α->β->D)(w:Option (Vw->α->β->List (Int×(Int×Int)))):VSpec:=
 ⟨fun x xs=>match xs with | [a,b]=>A.enc (A.dec a)=a/\B.enc (B.dec b)=b/\p x (A.dec a) (B.dec b) | _=>False,fun x xs=>match xs with | [a,b]=>g x (A.dec a) (B.dec b) | _=>.any,w.map fun w x xs=>match xs with | [a,b]=>w x (A.dec a) (B.dec b) | _=>[]⟩
theorem E2{α β:Type}{A:En α}{B:En β}{p:Vw->α->β->Prop}{g:Vw->α->β->D}{w:Option (Vw->α->β->List (Int×(Int×Int)))}{x:Vw}{xs:List V}(h:(v2 A B p g w).pre x xs):
 ∃ a b,xs=[A.enc a,B.enc b]/\p x a b/\(v2 A B p g w).val x xs=g x a b/\((v2 A B p g w).wr.map fun f=>f x xs)=w.map fun w=>w x a b:=by
 unfold v2 at h
 simp only at h
 split at h
 ·exact⟨_,_,by rw[h.1,h.2.1],h.2.2,rfl,by cases w<;>rfl⟩
 ·exact h.elim
def v3{α β γ:Type}(A:En α)(B:En β)(C:En γ)(p:Vw->α->β->γ->Prop)(g:Vw->α->β->γ->D)(w:Option (Vw->α->β->γ->List (Int×(Int×Int)))):VSpec:=
 ⟨fun x xs=>match xs with | [a,b,c]=>A.enc (A.dec a)=a/\B.enc (B.dec b)=b/\C.enc (C.dec c)=c/\p x (A.dec a) (B.dec b) (C.dec c) | _=>False,fun x xs=>match xs with | [a,b,c]=>g x (A.dec a) (B.dec b) (C.dec c) | _=>.any,w.map fun w x xs=>match xs with | [a,b,c]=>w x (A.dec a) (B.dec b) (C.dec c) | _=>[]⟩
section
variable {P:Program} {f:FuncId} {fn:Func} {nt:Nat} {rs:List ResultVar}
theorem N2{p:Vw->Prop}{g:Vw->D}{w:Option (Vw->List (Int×(Int×Int)))}(hf:P.funcs[f]?=some fn)(ca:fn.ntmps=nt)(bQ:fn.results.toList=rs)(hn:(fn.name== "runtime.NumGoroutine")=false)(hy:f<1000000000)(cC:∀ x,D.clos (fun _=>false) (g x )=true)
 (hb:∃ cc,fn.body=some cc/\1<=nt/\∀ x,p x->∀ H:Name->Option O,H [0,1]=some (bt x [1,1] [2,1])->H [1,1]=some (.map 2 (bR x.bk))->H [2,1]=some (.map 0 (bD x.ds))->
   (∀ hs,b7 [0] (bU [0] hs) H=True)->(∀ hs es,b7 [0] (bU [0] hs) (fun nm=>if nm=[2,1]then some (.map 0 es)else H nm)=True)->
   CL P [cc] (bc nt [0] H (cW 0 (.ref [0,1] 0::[].map .v)) []) (uM P rs x (g x ) (w.map fun w=>w x ))):aM P f (v0 p g w).toSpec:=by
 obtain⟨cc,hc,h1,h⟩:=hb
 refine Aq hf ca bQ hn hy (fun x xs hp=>by
  obtain⟨rfl,_,hg,_⟩:=E4 hp
  rw[hg];exact cC x ) ⟨cc,hc,fun x xs hp=>?_⟩
 obtain⟨rfl,hp,hg,hw⟩:=E4 hp
 rw[hg,hw]
 exact⟨h1,h x hp⟩
theorem wQ{α:Type}{A:En α}{p:Vw->α->Prop}{g:Vw->α->D}{w:Option (Vw->α->List (Int×(Int×Int)))}(hf:P.funcs[f]?=some fn)(ca:fn.ntmps=nt)(bQ:fn.results.toList=rs)(hn:(fn.name== "runtime.NumGoroutine")=false)(hy:f<1000000000)(cC:∀ x a,D.clos (fun _=>false) (g x a)=true)
 (hb:∃ cc,fn.body=some cc/\2<=nt/\∀ x a,p x a->∀ H:Name->Option O,H [0,1]=some (bt x [1,1] [2,1])->H [1,1]=some (.map 2 (bR x.bk))->H [2,1]=some (.map 0 (bD x.ds))->
   (∀ hs,b7 [0] (bU [0] hs) H=True)->(∀ hs es,b7 [0] (bU [0] hs) (fun nm=>if nm=[2,1]then some (.map 0 es)else H nm)=True)->
   CL P [cc] (bc nt [0] H (cW 0 (.ref [0,1] 0::[A.enc a].map .v)) []) (uM P rs x (g x a) (w.map fun w=>w x a))):aM P f (v1 A p g w).toSpec:=by
 obtain⟨cc,hc,h1,h⟩:=hb
 refine Aq hf ca bQ hn hy (fun x xs hp=>by
  obtain⟨a,rfl,_,hg,_⟩:=E3 hp
  rw[hg];exact cC x a) ⟨cc,hc,fun x xs hp=>?_⟩
 obtain⟨a,rfl,hp,hg,hw⟩:=E3 hp
 rw[hg,hw]
 exact⟨h1,h x a hp⟩
theorem wP{α β:Type}{A:En α}{B:En β}{p:Vw->α->β->Prop}{g:Vw->α->β->D}{w:Option (Vw->α->β->List (Int×(Int×Int)))}(hf:P.funcs[f]?=some fn)(ca:fn.ntmps=nt)(bQ:fn.results.toList=rs)(hn:(fn.name== "runtime.NumGoroutine")=false)(hy:f<1000000000)(cC:∀ x a b,D.clos (fun _=>false) (g x a b)=true)
 (hb:∃ cc,fn.body=some cc/\3<=nt/\∀ x a b,p x a b->∀ H:Name->Option O,H [0,1]=some (bt x [1,1] [2,1])->H [1,1]=some (.map 2 (bR x.bk))->H [2,1]=some (.map 0 (bD x.ds))->
   (∀ hs,b7 [0] (bU [0] hs) H=True)->(∀ hs es,b7 [0] (bU [0] hs) (fun nm=>if nm=[2,1]then some (.map 0 es)else H nm)=True)->
   CL P [cc] (bc nt [0] H (cW 0 (.ref [0,1] 0::[A.enc a,B.enc b].map .v)) []) (uM P rs x (g x a b) (w.map fun w=>w x a b))):aM P f (v2 A B p g w).toSpec:=by
 obtain⟨cc,hc,h1,h⟩:=hb
 refine Aq hf ca bQ hn hy (fun x xs hp=>by
  obtain⟨a,b,rfl,_,hg,_⟩:=E2 hp
  rw[hg];exact cC x a b) ⟨cc,hc,fun x xs hp=>?_⟩
 obtain⟨a,b,rfl,hp,hg,hw⟩:=E2 hp
 rw[hg,hw]
 exact⟨h1,h x a b hp⟩
end
attribute [go_sem] v0 v1 v2 v3 uM Option.map_some Option.map_none Option.getD_some Option.getD_none
attribute [go_sem] VSpec.toSpec VSpec.app hG na bt tK
noncomputable section
def K16:List (Nat×Spec):=[(166,Nl)]
theorem Nz:KS K16:=tc PJ.sound<|tn
attribute [go_sem] K16
def zeroR:Rec:=⟨0,0,0,[],0,0,0⟩
def fY(r:Rec):D:=.agg [.v (vInt r.so),.v (vInt r.bo),.v (vInt r.pa),.v (.sl (r.lv.map vInt)),.v (vInt r.da),.v (vInt r.kn),.v (vInt r.un)]
attribute [go_sem] fY
def l6:Option Rec->D
 |some r=>fY r
 |none=>.agg [.v (vInt 0),.v (vInt 0),.v (vInt 0),.nilsl,.v (vInt 0),.v (vInt 0),.v (vInt 0)]
theorem lg(r:Option Rec)(p:Name->Bool):D.clos p (l6 r)=true:=by cases r<;>rfl
def dU(l:List Rec)(s:Int):Option Rec:=l.find? fun r=>r.so==s
theorem Gq{l:List Rec}{s:Int}(h:dp (fun x=>x.so==s) l<0):dU l s=none:=by
 unfold dU
 rw[List.find?_eq_none]
 intro x hx hp
 unfold dp at h
 rw[if_pos (List.any_eq_true.2 ⟨x,hx,hp⟩)]at h
 omega
theorem Gp{l:List Rec}{s:Int}(h:¬ dp (fun x=>x.so==s) l<0):∃ (i:Nat) (hi:i<l.length),dp (fun x=>x.so==s) l=i/\dU l s=some l[i]:=by
 unfold dp at h |-
 split at h
 ·rename_i jy
  have ab:l.findIdx (fun x=>x.so==s)<l.length:=List.findIdx_lt_length_of_exists (by obtain⟨x,hx,hp⟩:=List.any_eq_true.1 jy;exact⟨x,hx,hp⟩)
  rw[if_pos jy]
  refine⟨_,ab,rfl,?_⟩
  unfold dU
  rw[List.find?_eq_some_iff_getElem]
  exact⟨List.findIdx_getElem (w:=ab),_,ab,rfl,fun j hj=>by simpa using List.not_of_lt_findIdx hj⟩
 ·omega
def M5:VSpec:=v1 iI (fun _ _=>True) (fun x s=>.tup [l6 (dU x.rs s),.v (.bool (dU x.rs s).isSome)]) none
def S77:Spec:=M5.toSpec
attribute [go_sem] M5 S77
set_option maxHeartbeats 4000000 in
theorem Jl:aM Tryz.prog 77 S77:=by
 refine wQ (rs:=[.cell 4 36,.tmp 5]) Tryz.func77 Tryz.ntmps77 (by rfl) (by kernel_rfl) (by decide) (fun _ _=>by first | rfl | exact lg _ _ | simp[D.clos,D.closL,lg]) ⟨_,rfl,lb rfl,fun x s hp H h0 h1 h2 hO ae=>?_⟩
 simp only[iI,bt,cW,List.map_cons,List.map_nil,Nat.zero_add,Option.map_some,Option.map_none]at h0 |-
 have hΓ:=Nz
 repeat refine sq ?_
 refine rx hΓ [0,3,4] [[3,0],[4,0]] (fun K' hK=>by simp only[go_sem,hO,ae,h0,h1,h2];(repeat (refine⟨ao,?_⟩));exact hK _ (by simp only[go_sem,hO,ae,h0,h1,h2]) (by simp only[go_sem,hO,ae,h0,h1,h2]<;>rfl)) ?_
 repeat refine sq ?_
 refine rx hΓ [0,4,6] [[4,0]] (fun K' hK=>by simp only[go_sem,hO,ae,h0,h1,h2,true_or,or_true];(repeat (refine⟨ao,?_⟩));exact hK _ (by simp only[go_sem,hO,ae,h0,h1,h2,true_or,or_true]) (by simp only[go_sem,hO,ae,h0,h1,h2,true_or,or_true]<;>rfl)) ?_
 repeat refine sq ?_
 refine rx hΓ [0,4,6,14] [[4,0]] (fun K' hK=>by simp only[go_sem,hO,ae,h0,h1,h2];(repeat (refine⟨ao,?_⟩));exact hK _ (by simp only[go_sem,hO,ae,h0,h1,h2]) (by simp only[go_sem,hO,ae,h0,h1,h2]<;>rfl)) ?_
 repeat refine sq ?_
 refine aB (fun hb=>?_) fun hb=>?_
 ·repeat refine sq ?_
  have e:dU x.rs s=none:=Gq (by simpa using hb)
  repeat refine sq ?_
  refine rx hΓ [4,5] [[4,0]] (fun K' hK=>by simp only[go_sem,hO,ae,h0,h1,h2];(repeat (refine⟨ao,?_⟩));exact hK _ (by simp only[go_sem,hO,ae,h0,h1,h2]) (by simp only[go_sem,hO,ae,h0,h1,h2]<;>rfl)) ?_
  refine aA ?_
  simp only[go_sem,hO,ae,h0,h1,h2]
  rw[e];rfl
 ·repeat refine sq ?_
  obtain⟨i,hi,e1,e⟩:=Gp (by simpa using hb)
  have bC:(i:Int)<x.rs.length:=by omega
  rw[e1]
  refine aE ?_
  repeat refine sq ?_
  refine rx hΓ [4,5] [[4,0]] (fun K' hK=>by simp only[go_sem,hO,ae,h0,h1,h2,ah hi,ai,ak,bC];(repeat (refine⟨ao,?_⟩));exact hK _ (by simp only[go_sem,hO,ae,h0,h1,h2,ah hi,ai,ak,bC]) (by simp only[go_sem,hO,ae,h0,h1,h2,ah hi,ai,ak,bC]<;>rfl)) ?_
  refine aA ?_
  simp only[go_sem,hO,ae,h0,h1,h2]
  rw[e];rfl
end
noncomputable section
structure Rg where
 (lo hi:Int)
 deriving Inhabited,DecidableEq
def rF(r:Rg):V:=.agg [vInt r.lo,vInt r.hi]
def tN:V->Rg
 | .agg [.int _ a,.int _ b]=>⟨a,b⟩
 |_=>default
def B':En Rg:=⟨rF,tN⟩
attribute [go_sem] rF tN B'
@[go_sem] theorem aeb(p:Rg):(⟨p.lo,p.hi⟩:Rg)=p:=rfl
def aP:List (Int×(Int×Int))->Int->Int×Int
 |[],_=>(0,0)
 |(k,d)::r,i=>if k=i then d else aP r i
def mI:List (Int×(Int×Int))->Int->Int×Int->List (Int×(Int×Int))
 |[],i,d=>[(i,d)]
 |(k,e)::r,i,d=>if k=i then(i,d)::r else(k,e)::mI r i d
theorem gr(d:List (Int×(Int×Int)))(i:Int):(eA (bD d) (vInt i)).getD (.agg [vInt 0,vInt 0])=.agg [vInt (aP d i).1,vInt (aP d i).2]:=by
 induction d with
 |nil=>rfl
 |cons q r ih=>
  obtain⟨k,e⟩:=q
  show (if eY (vInt k) (vInt i)=true then some (V.agg [vInt e.1,vInt e.2])else eA (bD r) (vInt i)).getD _=_
  by_cases h:k=i
  ·subst h;simp[eY,aP]
  ·have h':(k==i)=false:=by simpa using h
   simp only[eY,h',Bool.false_eq_true,if_false,aP,h]
   exact ih
theorem Hg(d:List (Int×(Int×Int)))(i a b:Int):dL (bD d) (vInt i) (.agg [vInt a,vInt b])=bD (mI d i (a,b)):=by
 induction d with
 |nil=>rfl
 |cons q r ih=>
  obtain⟨k,e⟩:=q
  show (if eY (vInt k) (vInt i)=true then(vInt i,V.agg [vInt a,vInt b])::bD r else(vInt k,V.agg [vInt e.1,vInt e.2])::dL (bD r) (vInt i) (.agg [vInt a,vInt b]))=_
  by_cases h:k=i
  ·subst h;simp[eY,mI,bD]
  ·have h':(k==i)=false:=by simpa using h
   simp only[eY,h',Bool.false_eq_true,if_false,mI,h,ih]
   rfl
def bP(a b:Int):Int:=if b>a then b else a
def dG(a b:Int):Int:=if b<a then b else a
def Bv(x:Vw)(i:Int)(r:Rg):List (Int×(Int×Int)):=mI x.ds i (bP (aP x.ds i).1 r.lo,dG (aP x.ds i).2 r.hi)
def M7:VSpec:=v2 iI B' (fun _ _ _=>True) (fun _ _ _=>.tup []) (some Bv)
def S165:Spec:=M7.toSpec
attribute [go_sem] M7 S165
set_option maxHeartbeats 4000000 in
theorem B2:aM Tryz.prog 165 S165:=by
 refine wP (rs:=[]) Tryz.func165 Tryz.ntmps165 (by rfl) (by kernel_rfl) (by decide) (fun _ _ _=>by first | rfl | simp[D.clos,D.closL,lg]) ⟨_,rfl,lb rfl,fun x i r hp H h0 h1 h2 hO ae=>?_⟩
 have hP:=fL
 simp only[iI,B',rF,bt,cW,List.map_cons,List.map_nil,Nat.zero_add,Option.map_some,Option.map_none]at h0 |-
 have hΓ:=@fj Tryz.prog
 repeat refine sq ?_
 refine rx hΓ [0,1,5] [[5,0]] (fun K' hK=>by simp only[go_sem,hO,ae,h0,h1,h2];(repeat (refine⟨ao,?_⟩));exact hK _ (by simp only[go_sem,hO,ae,h0,h1,h2]) (by simp only[go_sem,hO,ae,h0,h1,h2]<;>rfl)) ?_
 repeat refine sq ?_
 refine rx hΓ [0,1,5,6] [[5,0],[6,0]] (fun K' hK=>by simp only[go_sem,hO,ae,h0,h1,h2,gr];(repeat (refine⟨ao,?_⟩));exact hK _ (by simp only[go_sem,hO,ae,h0,h1,h2,gr]) (by simp only[go_sem,hO,ae,h0,h1,h2,gr]<;>rfl)) ?_
 repeat refine sq ?_
 refine tU hΓ hP [[],[0],[0,1],[0,1,2],[],[],[5],[],[7],[5,6,7,8],[],[10],[],[12],[10,11,12,13],[5,6,7,8,9,10,11,12,13,14],u16] (by kernel_rfl) fun K' hK=>?_
 simp only[go_sem,hO,ae,h0,h1,h2,Hg]
 repeat (refine⟨ao,?_⟩)
 first | refine⟨by rfl,?_⟩ | skip
 refine hK _ ?_
 clear K' hK
 simp only[go_sem]
 exact⟨h0,h1,rfl⟩
end
def bz(l:Led)(k:Int):List Rec:=l.rs.filter fun r=>bY r.kn r.un k
def fD(l:Led)(k:Int):List Sig:=l.ss.filter fun s=>bY s.kn s.un k
def gx(pa:Int)(lv:List Int)(r:Rec):Bool:=r.pa==pa&&r.lv.any fun n=>lv.contains n
def dm(rs:List Rec)(pa:Int)(lv:List Int):List Rec:=rs.filter (gx pa lv)
abbrev Bk:=List ((Int×Int)×Int)
abbrev Ds:=List (Int×(Int×Int))
def bp:Bk->Int×Int->Option Int
 |[],_=>none
 |(k,i)::r,q=>if k=q then some i else bp r q
def p8:Bk->Int×Int->Int->Bk
 |[],q,i=>[(q,i)]
 |(k,e)::r,q,i=>if k=q then(q,i)::r else(k,e)::p8 r q i
theorem HS(a b c d:Int):eY (.agg [vInt a,vInt b]) (.agg [vInt c,vInt d])=decide ((a,b)=(c,d)):=by
 show (a==c&&b==d)=_
 by_cases h1:a=c<;>by_cases h2:b=d<;>simp[h1,h2]
theorem aw(b:Bk)(p f:Int):eA (bR b) (.agg [vInt p,vInt f])=(bp b (p,f)).map vInt:=by
 induction b with
 |nil=>rfl
 |cons q r ih=>
  obtain⟨⟨k1,k2⟩,i⟩:=q
  show (if eY (.agg [vInt k1,vInt k2]) (.agg [vInt p,vInt f])=true then some (vInt i)else eA (bR r) (.agg [vInt p,vInt f]))=_
  rw[ih,HS]
  simp only[bp]
  by_cases h:(k1,k2)=(p,f)
  ·rw[if_pos h,if_pos (by simpa using h)];rfl
  ·rw[if_neg h,if_neg (by simpa using h)]
theorem Rv(b:Bk)(p f i:Int):dL (bR b) (.agg [vInt p,vInt f]) (vInt i)=bR (p8 b (p,f) i):=by
 induction b with
 |nil=>rfl
 |cons q r ih=>
  obtain⟨⟨k1,k2⟩,e⟩:=q
  show (if eY (.agg [vInt k1,vInt k2]) (.agg [vInt p,vInt f])=true then(V.agg [vInt p,vInt f],vInt i)::bR r else(.agg [vInt k1,vInt k2],vInt e)::dL (bR r) (.agg [vInt p,vInt f]) (vInt i))=_
  rw[ih,HS]
  simp only[p8]
  by_cases h:(k1,k2)=(p,f)
  ·rw[if_pos h,if_pos (by simpa using h)];rfl
  ·rw[if_neg h,if_neg (by simpa using h)];rfl
def jK(d:Ds)(i:Int)(r:Rg):Ds:=mI d i (bP (aP d i).1 r.lo,dG (aP d i).2 r.hi)
def aH(l:Led)(i:Nat):Ret:=l.ts.getD i default
def gS(k:Int)(rs:List Rec)(bk:Bk)(x:Ret):Option Rec:=match dU rs x.re with
 |none=>none
 |some r=>if bY x.kn x.un k&&!(decide (bP x.lo (r.da+1)>x.hi)||x.lv.any fun f=>(bp bk (r.so,f)).isSome||!r.lv.contains f)then some r else none
def oS(b:Bk)(so:Int)(i:Int)(lv:List Int):Bk:=lv.foldl (fun b f=>p8 b (so,f) i) b
def px(l:Led)(k:Int)(v:Vw)(i:Nat):Vw:=match gS k v.rs v.bk (aH l i)with
 |none=>v
 |some r=>{ v with bk:=oS v.bk r.so i (aH l i).lv,ts:=v.ts++[(i:Int)],ds:=mI v.ds i (bP (aH l i).lo (r.da+1),(aH l i).hi) }
def aC(l:Led)(k:Int):Nat->Vw
 | 0=>⟨l,bz l k,[],[],[]⟩
 |s+1=>px l k (aC l k s) s
def lj(rs:List Rec)(s:Int):Rec:=(dU rs s).getD zeroR
def kr(d:Ds)(i da:Int)(os:List Rec):Ds:=os.foldl (fun d o=>if o.da>da then jK d i ⟨0,o.da⟩else d) d
def gU(l:Led)(rs:List Rec)(ts:List Int)(d:Ds):Nat->Ds
 | 0=>d
 |j+1=>kr (gU l rs ts d j) (ts.getD j 0) (lj rs (aH l (ts.getD j 0).toNat).re).da (dm rs (lj rs (aH l (ts.getD j 0).toNat).re).pa (aH l (ts.getD j 0).toNat).lv)
def aj(l:Led)(k:Int):Vw:={ aC l k l.ts.length with ds:=gU l (bz l k) (aC l k l.ts.length).ts (aC l k l.ts.length).ds (aC l k l.ts.length).ts.length }
theorem RU(l:Led)(k:Int)(v:Vw)(i:Nat):(px l k v i).l=v.l/\(px l k v i).rs=v.rs:=by
 unfold px
 split<;>exact⟨rfl,rfl⟩
theorem ow(l:Led)(k:Int)(i:Nat):(aC l k i).l=l/\(aC l k i).rs=bz l k:=by
 induction i with
 |zero=>exact⟨rfl,rfl⟩
 |succ i ih=>
  have :=RU l k (aC l k i) i
  exact⟨this.1.trans ih.1,this.2.trans ih.2⟩
def tO(x:Vw)(a b:Rec):Bool:=a.lv.any fun f=>(a.pa==b.pa&&b.lv.contains f)&&(a.da==b.da||match bp x.bk (a.so,f)with
 |none=>true
 |some i=>decide (bP (aH x.l i.toNat).lo (a.da+1)>b.da))
def kQ(x:Vw)(a b:Rec):Bool:=if a.da>b.da then tO x b a else tO x a b
def l'(x:Vw)(i:Nat):Option (Int×Int):=((x.rs.drop (i+1)).find? (kQ x (x.rs.getD i zeroR))).map fun b=>((x.rs.getD i zeroR).so,b.so)
def fi(x:Vw):Option (Int×Int):=(List.range x.rs.length).findSome? (l' x)
def oT(day:Int)(o:Option Rec)(r:Rec):Option Rec:=if decide (r.da<=day)&&(o.isNone||decide (r.da>=(o.getD zeroR).da))then some r else o
def ey(rs:List Rec)(pa le day:Int):Option Rec:=(dm rs pa [le]).foldl (oT day) none
def cq:Rg:=⟨0,100000⟩
def cg:Rg:=⟨1,0⟩
def bw(x:Vw)(s:Sig):Int×Rg:=match ey x.rs s.pa s.le s.da with
 |none=>if s.pe=0 then(-1,cq)else(-1,cg)
 |some r=>match bp x.bk (r.so,s.le)with
  |none=>if s.pe=r.bo then(-1,cq)else(-1,cg)
  |some i=>if s.pe=0 then(i,⟨0,s.da⟩)else if s.pe=r.bo then(i,⟨s.da+1,100000⟩)else(-1,cg)
def hM(x:Vw)(d:Ds)(s:Sig):Ds:=if (bw x s).1>=0 then jK d (bw x s).1 (bw x s).2 else d
def eO(x:Vw)(d:Ds)(l:List Sig):Ds:=l.foldl (hM x) d
def eI(x:Vw)(s:Sig):Bool:=decide ((bw x s).1>=0)||!decide ((bw x s).2.lo>(bw x s).2.hi)
def y0(ts:List Int)(d:Ds):Bool:=ts.all fun i=>decide ((aP d i).1<=(aP d i).2)
def gK(x:Vw)(l:List Sig):Bool:=l.all (eI x)&&y0 x.ts (eO x x.ds l)
end Go.Eng
