import Derived.Test.YtepaolcgegdpoaaGreatK4
import Derived.Test.YtepaolcgegdpoaaGreatProg
import Derived.KernelRfl
/- Texts L0 to LW14. -/
set_option linter.all false
namespace Go.Eng
open Go Go.Proofs
abbrev KS (K:List (Nat×Spec)):Prop:=∀ f s,tbl K f=some s->aF Tryz.prog f s
@[go_sem] theorem ta0:bb Tryz.prog 0=some (false,1):=by kernel_rfl
@[go_sem] theorem ta1:bb Tryz.prog 1=some (false,1):=by kernel_rfl
@[go_sem] theorem tz1:bg Tryz.prog 1=some .nilFunc:=by kernel_rfl
@[go_sem] theorem ta2:bb Tryz.prog 2=some (false,1):=by kernel_rfl
@[go_sem] theorem ti2:l4 Tryz.prog 2=some .i64:=by kernel_rfl
@[go_sem] theorem tz2:bg Tryz.prog 2=some (.int .i64 0):=by kernel_rfl
@[go_sem] theorem xg:bb Tryz.prog 3=some (false,1):=by kernel_rfl
@[go_sem] theorem ti3:l4 Tryz.prog 3=some .i64:=by kernel_rfl
@[go_sem] theorem tz3:bg Tryz.prog 3=some (.int .i64 0):=by kernel_rfl
@[go_sem] theorem ta4:bb Tryz.prog 4=some (false,1):=by kernel_rfl
@[go_sem] theorem tz4:bg Tryz.prog 4=some (.bool false):=by kernel_rfl
@[go_sem] theorem adZ:bb Tryz.prog 18=some (true,1):=by kernel_rfl
@[go_sem] theorem aca:gI Tryz.prog 18=some [(0,1)]:=by kernel_rfl
@[go_sem] theorem abE:bg Tryz.prog 18=some (.agg #[(.pointer none)]):=by kernel_rfl
@[go_sem] theorem ac8:bQ Tryz.prog 18 0=some (0,1,false):=by kernel_rfl
@[go_sem] theorem adS:bb Tryz.prog 22=some (false,1):=by kernel_rfl
@[go_sem] theorem adq:cg Tryz.prog 22=some (100,5,40):=by kernel_rfl
@[go_sem] theorem acs:dr Tryz.prog 22=some 0:=by kernel_rfl
@[go_sem] theorem aby:bg Tryz.prog 22=some (.slice none 0 0):=by kernel_rfl
@[go_sem] theorem adR:bb Tryz.prog 23=some (false,1):=by kernel_rfl
@[go_sem] theorem adp:cg Tryz.prog 23=some (131,7,56):=by kernel_rfl
@[go_sem] theorem acr:dr Tryz.prog 23=some 0:=by kernel_rfl
@[go_sem] theorem abx:bg Tryz.prog 23=some (.slice none 0 0):=by kernel_rfl
@[go_sem] theorem adQ:bb Tryz.prog 25=some (true,3):=by kernel_rfl
@[go_sem] theorem ab':gI Tryz.prog 25=some [(0,1),(1,1),(2,1)]:=by kernel_rfl
@[go_sem] theorem abw:bg Tryz.prog 25=some (.agg #[(.slice none 0 0),(.slice none 0 0),(.slice none 0 0)]):=by kernel_rfl
@[go_sem] theorem ac7:bQ Tryz.prog 25 0=some (0,1,false):=by kernel_rfl
@[go_sem] theorem ac6:bQ Tryz.prog 25 1=some (1,1,false):=by kernel_rfl
@[go_sem] theorem ac5:bQ Tryz.prog 25 2=some (2,1,false):=by kernel_rfl
@[go_sem] theorem adP:bb Tryz.prog 26=some (false,1):=by kernel_rfl
@[go_sem] theorem ado:cg Tryz.prog 26=some (46,2,16):=by kernel_rfl
@[go_sem] theorem acq:dr Tryz.prog 26=some 0:=by kernel_rfl
@[go_sem] theorem abv:bg Tryz.prog 26=some (.slice none 0 0):=by kernel_rfl
@[go_sem] theorem adO:bb Tryz.prog 27=some (false,1):=by kernel_rfl
@[go_sem] theorem Fv:cg Tryz.prog 27=some (36,7,72):=by kernel_rfl
@[go_sem] theorem acp:dr Tryz.prog 27=some 0:=by kernel_rfl
@[go_sem] theorem abu:bg Tryz.prog 27=some (.slice none 0 0):=by kernel_rfl
@[go_sem] theorem adN:bb Tryz.prog 28=some (false,1):=by kernel_rfl
@[go_sem] theorem Fu:cg Tryz.prog 28=some (40,8,80):=by kernel_rfl
@[go_sem] theorem aco:dr Tryz.prog 28=some 0:=by kernel_rfl
@[go_sem] theorem abt:bg Tryz.prog 28=some (.slice none 0 0):=by kernel_rfl
@[go_sem] theorem adM:bb Tryz.prog 29=some (false,1):=by kernel_rfl
@[go_sem] theorem Ft:cg Tryz.prog 29=some (81,7,56):=by kernel_rfl
@[go_sem] theorem acn:dr Tryz.prog 29=some 0:=by kernel_rfl
@[go_sem] theorem abr:bg Tryz.prog 29=some (.slice none 0 0):=by kernel_rfl
@[go_sem] theorem adL:bb Tryz.prog 31=some (true,4):=by kernel_rfl
@[go_sem] theorem ab9:gI Tryz.prog 31=some [(0,1),(1,1),(2,1),(3,1)]:=by kernel_rfl
@[go_sem] theorem abq:bg Tryz.prog 31=some (.agg #[(.slice none 0 0),(.slice none 0 0),(.slice none 0 0),(.slice none 0 0)]):=by kernel_rfl
@[go_sem] theorem ac4:bQ Tryz.prog 31 0=some (0,1,false):=by kernel_rfl
@[go_sem] theorem ac3:bQ Tryz.prog 31 1=some (1,1,false):=by kernel_rfl
@[go_sem] theorem ac2:bQ Tryz.prog 31 2=some (2,1,false):=by kernel_rfl
@[go_sem] theorem ac1:bQ Tryz.prog 31 3=some (3,1,false):=by kernel_rfl
@[go_sem] theorem adK:bb Tryz.prog 32=some (false,1):=by kernel_rfl
@[go_sem] theorem adn:cg Tryz.prog 32=some (3,1,8):=by kernel_rfl
@[go_sem] theorem acm:dr Tryz.prog 32=some 0:=by kernel_rfl
@[go_sem] theorem abp:bg Tryz.prog 32=some (.slice none 0 0):=by kernel_rfl
@[go_sem] theorem adJ:bb Tryz.prog 33=some (false,1):=by kernel_rfl
@[go_sem] theorem adI:bb Tryz.prog 36=some (true,7):=by kernel_rfl
@[go_sem] theorem ab8:gI Tryz.prog 36=some [(0,1),(1,1),(2,1),(3,1),(4,1),(5,1),(6,1)]:=by kernel_rfl
@[go_sem] theorem N6:bg Tryz.prog 36=some (.agg #[(.int .i64 0),(.int .i64 0),(.int .i64 0),(.slice none 0 0),(.int .i64 0),(.int .i64 0),(.int .i64 0)]):=by kernel_rfl
@[go_sem] theorem ac0:bQ Tryz.prog 36 0=some (0,1,false):=by kernel_rfl
@[go_sem] theorem acZ:bQ Tryz.prog 36 1=some (1,1,false):=by kernel_rfl
@[go_sem] theorem acY:bQ Tryz.prog 36 2=some (2,1,false):=by kernel_rfl
@[go_sem] theorem acX:bQ Tryz.prog 36 3=some (3,1,false):=by kernel_rfl
@[go_sem] theorem acW:bQ Tryz.prog 36 4=some (4,1,false):=by kernel_rfl
@[go_sem] theorem acV:bQ Tryz.prog 36 5=some (5,1,false):=by kernel_rfl
@[go_sem] theorem acU:bQ Tryz.prog 36 6=some (6,1,false):=by kernel_rfl
@[go_sem] theorem adH:bb Tryz.prog 38=some (true,2):=by kernel_rfl
@[go_sem] theorem ab7:gI Tryz.prog 38=some [(0,1),(1,1)]:=by kernel_rfl
@[go_sem] theorem abo:bg Tryz.prog 38=some (.agg #[(.int .i64 0),(.int .i64 0)]):=by kernel_rfl
@[go_sem] theorem acT:bQ Tryz.prog 38 0=some (0,1,false):=by kernel_rfl
@[go_sem] theorem acS:bQ Tryz.prog 38 1=some (1,1,false):=by kernel_rfl
@[go_sem] theorem adG:bb Tryz.prog 40=some (true,8):=by kernel_rfl
@[go_sem] theorem ab6:gI Tryz.prog 40=some [(0,1),(1,1),(2,1),(3,1),(4,2),(6,1),(7,1)]:=by kernel_rfl
@[go_sem] theorem N5:bg Tryz.prog 40=some (.agg #[(.int .i64 0),(.int .i64 0),(.int .i64 0),(.slice none 0 0),(.int .i64 0),(.int .i64 0),(.int .i64 0),(.int .i64 0)]):=by kernel_rfl
@[go_sem] theorem acR:bQ Tryz.prog 40 0=some (0,1,false):=by kernel_rfl
@[go_sem] theorem acQ:bQ Tryz.prog 40 1=some (1,1,false):=by kernel_rfl
@[go_sem] theorem acP:bQ Tryz.prog 40 2=some (2,1,false):=by kernel_rfl
@[go_sem] theorem acO:bQ Tryz.prog 40 3=some (3,1,false):=by kernel_rfl
@[go_sem] theorem acN:bQ Tryz.prog 40 4=some (4,2,true):=by kernel_rfl
@[go_sem] theorem acM:bQ Tryz.prog 40 5=some (6,1,false):=by kernel_rfl
@[go_sem] theorem acL:bQ Tryz.prog 40 6=some (7,1,false):=by kernel_rfl
@[go_sem] theorem adF:bb Tryz.prog 42=some (false,1):=by kernel_rfl
@[go_sem] theorem acy:l4 Tryz.prog 42=some .i64:=by kernel_rfl
@[go_sem] theorem abn:bg Tryz.prog 42=some (.int .i64 0):=by kernel_rfl
@[go_sem] theorem adE:bb Tryz.prog 43=some (false,1):=by kernel_rfl
@[go_sem] theorem adD:bb Tryz.prog 46=some (true,2):=by kernel_rfl
@[go_sem] theorem ab5:gI Tryz.prog 46=some [(0,1),(1,1)]:=by kernel_rfl
@[go_sem] theorem abm:bg Tryz.prog 46=some (.agg #[(.int .i64 0),(.int .i64 0)]):=by kernel_rfl
@[go_sem] theorem acK:bQ Tryz.prog 46 0=some (0,1,false):=by kernel_rfl
@[go_sem] theorem acJ:bQ Tryz.prog 46 1=some (1,1,false):=by kernel_rfl
@[go_sem] theorem adC:bb Tryz.prog 49=some (true,3):=by kernel_rfl
@[go_sem] theorem abZ:jk Tryz.prog 49=some (3,1,false):=by kernel_rfl
@[go_sem] theorem ab4:gI Tryz.prog 49=some [(0,1),(1,1),(2,1)]:=by kernel_rfl
@[go_sem] theorem abl:bg Tryz.prog 49=some (.agg #[(.int .i64 0),(.int .i64 0),(.int .i64 0)]):=by kernel_rfl
@[go_sem] theorem adB:bb Tryz.prog 51=some (false,1):=by kernel_rfl
@[go_sem] theorem adm:cg Tryz.prog 51=some (56,2,16):=by kernel_rfl
@[go_sem] theorem ack:dr Tryz.prog 51=some 0:=by kernel_rfl
@[go_sem] theorem abk:bg Tryz.prog 51=some (.slice none 0 0):=by kernel_rfl
@[go_sem] theorem adA:bb Tryz.prog 52=some (false,1):=by kernel_rfl
@[go_sem] theorem adz:bb Tryz.prog 56=some (true,2):=by kernel_rfl
@[go_sem] theorem ab3:gI Tryz.prog 56=some [(0,1),(1,1)]:=by kernel_rfl
@[go_sem] theorem abj:bg Tryz.prog 56=some (.agg #[(.int .i64 0),(.int .i64 0)]):=by kernel_rfl
@[go_sem] theorem acI:bQ Tryz.prog 56 0=some (0,1,false):=by kernel_rfl
@[go_sem] theorem acH:bQ Tryz.prog 56 1=some (1,1,false):=by kernel_rfl
@[go_sem] theorem ady:bb Tryz.prog 57=some (false,1):=by kernel_rfl
@[go_sem] theorem adx:bb Tryz.prog 65=some (false,1):=by kernel_rfl
@[go_sem] theorem adw:bb Tryz.prog 81=some (true,7):=by kernel_rfl
@[go_sem] theorem ab2:gI Tryz.prog 81=some [(0,1),(1,1),(2,1),(3,1),(4,1),(5,1),(6,1)]:=by kernel_rfl
@[go_sem] theorem N4:bg Tryz.prog 81=some (.agg #[(.int .i64 0),(.int .i64 0),(.int .i64 0),(.int .i64 0),(.int .i64 0),(.int .i64 0),(.int .i64 0)]):=by kernel_rfl
@[go_sem] theorem acG:bQ Tryz.prog 81 0=some (0,1,false):=by kernel_rfl
@[go_sem] theorem acF:bQ Tryz.prog 81 1=some (1,1,false):=by kernel_rfl
@[go_sem] theorem acE:bQ Tryz.prog 81 2=some (2,1,false):=by kernel_rfl
@[go_sem] theorem acD:bQ Tryz.prog 81 3=some (3,1,false):=by kernel_rfl
@[go_sem] theorem acC:bQ Tryz.prog 81 4=some (4,1,false):=by kernel_rfl
@[go_sem] theorem acB:bQ Tryz.prog 81 5=some (5,1,false):=by kernel_rfl
@[go_sem] theorem acA:bQ Tryz.prog 81 6=some (6,1,false):=by kernel_rfl
@[go_sem] theorem adv:bb Tryz.prog 95=some (false,1):=by kernel_rfl
@[go_sem] theorem abi:bg Tryz.prog 95=some .nilFunc:=by kernel_rfl
@[go_sem] theorem adu:bb Tryz.prog 96=some (false,1):=by kernel_rfl
@[go_sem] theorem abh:bg Tryz.prog 96=some .nilFunc:=by kernel_rfl
@[go_sem] theorem adt:bb Tryz.prog 97=some (false,1):=by kernel_rfl
@[go_sem] theorem abg:bg Tryz.prog 97=some .nilFunc:=by kernel_rfl
@[go_sem] theorem ads:bb Tryz.prog 98=some (false,1):=by kernel_rfl
@[go_sem] theorem abf:bg Tryz.prog 98=some .nilFunc:=by kernel_rfl
@[go_sem] theorem aem:bb Tryz.prog 100=some (true,5):=by kernel_rfl
@[go_sem] theorem ab1:jk Tryz.prog 100=some (5,1,false):=by kernel_rfl
@[go_sem] theorem acg:gI Tryz.prog 100=some [(0,1),(1,1),(2,1),(3,1),(4,1)]:=by kernel_rfl
@[go_sem] theorem abY:bg Tryz.prog 100=some (.agg #[(.int .i64 0),(.int .i64 0),(.int .i64 0),(.int .i64 0),(.int .i64 0)]):=by kernel_rfl
@[go_sem] theorem ael:bb Tryz.prog 103=some (false,1):=by kernel_rfl
@[go_sem] theorem adr:cg Tryz.prog 103=some (4,1,1):=by kernel_rfl
@[go_sem] theorem acx:dr Tryz.prog 103=some 0:=by kernel_rfl
@[go_sem] theorem abX:bg Tryz.prog 103=some (.slice none 0 0):=by kernel_rfl
@[go_sem] theorem aek:bb Tryz.prog 108=some (true,7):=by kernel_rfl
@[go_sem] theorem acf:gI Tryz.prog 108=some [(0,4),(4,1),(5,1),(6,1)]:=by kernel_rfl
@[go_sem] theorem abW:bg Tryz.prog 108=some (.agg #[(.slice none 0 0),(.slice none 0 0),(.slice none 0 0),(.slice none 0 0),(.int .i64 0),(.slice none 0 0),(.slice none 0 0)]):=by kernel_rfl
@[go_sem] theorem adk:bQ Tryz.prog 108 0=some (0,4,true):=by kernel_rfl
@[go_sem] theorem adj:bQ Tryz.prog 108 1=some (4,1,false):=by kernel_rfl
@[go_sem] theorem adi:bQ Tryz.prog 108 2=some (5,1,false):=by kernel_rfl
@[go_sem] theorem adh:bQ Tryz.prog 108 3=some (6,1,false):=by kernel_rfl
@[go_sem] theorem aej:bb Tryz.prog 112=some (false,1):=by kernel_rfl
@[go_sem] theorem aei:bb Tryz.prog 113=some (false,1):=by kernel_rfl
@[go_sem] theorem abV:bg Tryz.prog 113=some (.pointer none):=by kernel_rfl
@[go_sem] theorem aeh:bb Tryz.prog 115=some (false,1):=by kernel_rfl
@[go_sem] theorem abU:bg Tryz.prog 115=some (.pointer none):=by kernel_rfl
@[go_sem] theorem aeg:bb Tryz.prog 117=some (false,1):=by kernel_rfl
@[go_sem] theorem aef:bb Tryz.prog 119=some (false,1):=by kernel_rfl
@[go_sem] theorem aee:bb Tryz.prog 120=some (false,1):=by kernel_rfl
@[go_sem] theorem acw:dr Tryz.prog 120=some 2:=by kernel_rfl
@[go_sem] theorem acj:jJ Tryz.prog 120=some (2,3):=by kernel_rfl
@[go_sem] theorem abT:bg Tryz.prog 120=some (.map none):=by kernel_rfl
@[go_sem] theorem aed:bb Tryz.prog 121=some (false,1):=by kernel_rfl
@[go_sem] theorem acv:dr Tryz.prog 121=some 2:=by kernel_rfl
@[go_sem] theorem aci:jJ Tryz.prog 121=some (0,38):=by kernel_rfl
@[go_sem] theorem abS:bg Tryz.prog 121=some (.map none):=by kernel_rfl
@[go_sem] theorem aec:bb Tryz.prog 123=some (true,5):=by kernel_rfl
@[go_sem] theorem ace:gI Tryz.prog 123=some [(0,1),(1,1),(2,1),(3,1),(4,1)]:=by kernel_rfl
@[go_sem] theorem abR:bg Tryz.prog 123=some (.agg #[(.pointer none),(.slice none 0 0),(.slice none 0 0),(.map none),(.map none)]):=by kernel_rfl
@[go_sem] theorem adg:bQ Tryz.prog 123 0=some (0,1,false):=by kernel_rfl
@[go_sem] theorem adf:bQ Tryz.prog 123 1=some (1,1,false):=by kernel_rfl
@[go_sem] theorem ade:bQ Tryz.prog 123 2=some (2,1,false):=by kernel_rfl
@[go_sem] theorem adb:bQ Tryz.prog 123 3=some (3,1,false):=by kernel_rfl
@[go_sem] theorem ada:bQ Tryz.prog 123 4=some (4,1,false):=by kernel_rfl
@[go_sem] theorem aeb:bb Tryz.prog 125=some (true,2):=by kernel_rfl
@[go_sem] theorem acd:gI Tryz.prog 125=some [(0,1),(1,1)]:=by kernel_rfl
@[go_sem] theorem abQ:bg Tryz.prog 125=some (.agg #[(.int .i64 0),(.int .i64 0)]):=by kernel_rfl
@[go_sem] theorem ac':bQ Tryz.prog 125 0=some (0,1,false):=by kernel_rfl
@[go_sem] theorem ac9:bQ Tryz.prog 125 1=some (1,1,false):=by kernel_rfl
@[go_sem] theorem aea:bb Tryz.prog 131=some (true,7):=by kernel_rfl
@[go_sem] theorem ab0:jk Tryz.prog 131=some (7,1,false):=by kernel_rfl
@[go_sem] theorem acb:gI Tryz.prog 131=some [(0,1),(1,1),(2,1),(3,1),(4,1),(5,1),(6,1)]:=by kernel_rfl
@[go_sem] theorem abP:bg Tryz.prog 131=some (.agg #[(.int .i64 0),(.int .i64 0),(.int .i64 0),(.int .i64 0),(.int .i64 0),(.int .i64 0),(.int .i64 0)]):=by kernel_rfl
@[go_sem] theorem ad':bb Tryz.prog 135=some (false,1):=by kernel_rfl
@[go_sem] theorem abO:bg Tryz.prog 135=some .nilFunc:=by kernel_rfl
@[go_sem] theorem ad9:bb Tryz.prog 137=some (false,1):=by kernel_rfl
@[go_sem] theorem abN:bg Tryz.prog 137=some .nilFunc:=by kernel_rfl
@[go_sem] theorem ad8:bb Tryz.prog 139=some (false,1):=by kernel_rfl
@[go_sem] theorem abM:bg Tryz.prog 139=some .nilFunc:=by kernel_rfl
@[go_sem] theorem ad7:bb Tryz.prog 140=some (false,1):=by kernel_rfl
@[go_sem] theorem abL:bg Tryz.prog 140=some .nilFunc:=by kernel_rfl
@[go_sem] theorem ad6:bb Tryz.prog 153=some (false,1):=by kernel_rfl
@[go_sem] theorem abK:bg Tryz.prog 153=some .nilFunc:=by kernel_rfl
@[go_sem] theorem ad5:bb Tryz.prog 155=some (false,1):=by kernel_rfl
@[go_sem] theorem abJ:bg Tryz.prog 155=some .nilFunc:=by kernel_rfl
@[go_sem] theorem ad4:bb Tryz.prog 157=some (false,1):=by kernel_rfl
@[go_sem] theorem abI:bg Tryz.prog 157=some .nilFunc:=by kernel_rfl
@[go_sem] theorem ad3:bb Tryz.prog 159=some (false,1):=by kernel_rfl
@[go_sem] theorem abH:bg Tryz.prog 159=some .nilFunc:=by kernel_rfl
@[go_sem] theorem ad2:bb Tryz.prog 160=some (false,1):=by kernel_rfl
@[go_sem] theorem acu:dr Tryz.prog 160=some 2:=by kernel_rfl
@[go_sem] theorem ach:jJ Tryz.prog 160=some (0,4):=by kernel_rfl
@[go_sem] theorem abG:bg Tryz.prog 160=some (.map none):=by kernel_rfl
@[go_sem] theorem ad1:bb Tryz.prog 161=some (false,1):=by kernel_rfl
@[go_sem] theorem abF:bg Tryz.prog 161=some .nilFunc:=by kernel_rfl
@[go_sem] theorem ad0:bb Tryz.prog 164=some (false,1):=by kernel_rfl
@[go_sem] theorem adY:bb Tryz.prog 186=some (false,1):=by kernel_rfl
@[go_sem] theorem abD:bg Tryz.prog 186=some .nilFunc:=by kernel_rfl
@[go_sem] theorem adX:bb Tryz.prog 188=some (false,1):=by kernel_rfl
@[go_sem] theorem abC:bg Tryz.prog 188=some .nilFunc:=by kernel_rfl
@[go_sem] theorem adW:bb Tryz.prog 191=some (false,1):=by kernel_rfl
@[go_sem] theorem abB:bg Tryz.prog 191=some .nilFunc:=by kernel_rfl
@[go_sem] theorem adV:bb Tryz.prog 201=some (false,1):=by kernel_rfl
@[go_sem] theorem abA:bg Tryz.prog 201=some .nilFunc:=by kernel_rfl
@[go_sem] theorem adU:bb Tryz.prog 205=some (false,1):=by kernel_rfl
@[go_sem] theorem adT:bb Tryz.prog 208=some (false,1):=by kernel_rfl
@[go_sem] theorem acz:l4 Tryz.prog 208=some .u64:=by kernel_rfl
@[go_sem] theorem abz:bg Tryz.prog 208=some (.int .u64 0):=by kernel_rfl
theorem eE:Tryz.prog.follows .mixedOrders=true:=by kernel_rfl
structure Pap where
 (id lv:Int)
 deriving Inhabited,DecidableEq
structure Rec where
 (so bo pa:Int)
 lv:List Int
 (da kn un:Int)
 deriving Inhabited,DecidableEq
structure Ret where
 (so re pe:Int)
 lv:List Int
 (lo hi kn un:Int)
 deriving Inhabited,DecidableEq
structure Sig where
 (so pe pa le da kn un:Int)
 deriving Inhabited,DecidableEq
structure Led where
 ps:List Pap
 rs:List Rec
 ts:List Ret
 ss:List Sig
 deriving Inhabited,DecidableEq
def jC:V->Int
 | .int _ n=>n
 |_=>0
def zy:V->Bool
 | .bool b=>b
 |_=>false
def LL:V->List Int
 | .sl l=>l.map jC
 |_=>[]
def db(p:Pap):V:=.agg [vInt p.id,vInt p.lv]
def p8:V->Pap
 | .agg [.int _ a,.int _ b]=>⟨a,b⟩
 |_=>default
def encR(r:Rec):V:=.agg [vInt r.so,vInt r.bo,vInt r.pa,.sl (r.lv.map vInt),vInt r.da,vInt r.kn,vInt r.un]
def gF:V->Rec
 | .agg [.int _ a,.int _ b,.int _ c,.sl l,.int _ d,.int _ e,.int _ f]=>⟨a,b,c,l.map jC,d,e,f⟩
 |_=>default
def encT(r:Ret):V:=.agg [vInt r.so,vInt r.re,vInt r.pe,.sl (r.lv.map vInt),vInt r.lo,vInt r.hi,vInt r.kn,vInt r.un]
def iv:V->Ret
 | .agg [.int _ a,.int _ b,.int _ c,.sl l,.int _ d,.int _ g,.int _ e,.int _ f]=>⟨a,b,c,l.map jC,d,g,e,f⟩
 |_=>default
def encS(s:Sig):V:=.agg [vInt s.so,vInt s.pe,vInt s.pa,vInt s.le,vInt s.da,vInt s.kn,vInt s.un]
def jd:V->Sig
 | .agg [.int _ a,.int _ b,.int _ c,.int _ d,.int _ e,.int _ f,.int _ g]=>⟨a,b,c,d,e,f,g⟩
 |_=>default
def fD(l:Led):V:=.agg [.sl (l.ps.map db),.sl (l.rs.map encR),.sl (l.ts.map encT),.sl (l.ss.map encS)]
def LJ:V->Led
 | .agg [.sl a,.sl b,.sl c,.sl d]=>⟨a.map p8,b.map gF,c.map iv,d.map jd⟩
 |_=>default
def ey(l:Led):V:=.ptr [.sl (l.ps.map db),.sl (l.rs.map encR),.sl (l.ts.map encT),.sl (l.ss.map encS)]
def zu:V->Led
 | .ptr [.sl a,.sl b,.sl c,.sl d]=>⟨a.map p8,b.map gF,c.map iv,d.map jd⟩
 |_=>default
@[go_sem] theorem p9(l:List Int):(l.map vInt).map jC=l:=by rw[List.map_map];exact List.map_id _
@[go_sem] theorem aeI(l:List Bool):(l.map V.bool).map zy=l:=by rw[List.map_map];exact List.map_id _
theorem Ye(p:Pap):p8 (db p)=p:=rfl
theorem X'(r:Rec):gF (encR r)=r:=by
 cases r;simp only[encR,gF,p9]
theorem X5(r:Ret):iv (encT r)=r:=by
 cases r;simp only[encT,iv,p9]
theorem X7(r:Sig):jd (encS r)=r:=rfl
theorem pz{α:Type}{e:α->V}{d:V->α}(h:∀ a,d (e a)=a)(l:List α):(l.map e).map d=l:=by
 rw[List.map_map]
 have :d∘e=id:=funext h
 rw[this,List.map_id]
@[go_sem] theorem LG(l:List Pap):(l.map db).map p8=l:=pz Ye l
@[go_sem] theorem tX(l:List Rec):(l.map encR).map gF=l:=pz X' l
@[go_sem] theorem zq(l:List Ret):(l.map encT).map iv=l:=pz X5 l
@[go_sem] theorem rV(l:List Sig):(l.map encS).map jd=l:=pz X7 l
@[go_sem] theorem aeC(p:Pap):(⟨p.id,p.lv⟩:Pap)=p:=rfl
@[go_sem] theorem aeB(r:Rec):(⟨r.so,r.bo,r.pa,r.lv,r.da,r.kn,r.un⟩:Rec)=r:=rfl
@[go_sem] theorem aew(r:Ret):(⟨r.so,r.re,r.pe,r.lv,r.lo,r.hi,r.kn,r.un⟩:Ret)=r:=rfl
@[go_sem] theorem aex(r:Sig):(⟨r.so,r.pe,r.pa,r.le,r.da,r.kn,r.un⟩:Sig)=r:=rfl
@[go_sem] theorem aeE(l:Led):(⟨l.ps,l.rs,l.ts,l.ss⟩:Led)=l:=rfl
def iI:En Int:=⟨vInt,jC⟩
def iB:En Bool:=⟨.bool,zy⟩
def dZ:En (List Int):=⟨fun l=>.sl (l.map vInt),LL⟩
def iP:En Pap:=⟨db,p8⟩
def iR:En Rec:=⟨encR,gF⟩
def iT:En Ret:=⟨encT,iv⟩
def iS:En Sig:=⟨encS,jd⟩
def iL:En Led:=⟨fD,LJ⟩
def jT:En Led:=⟨ey,zu⟩
attribute [go_sem] iI iB dZ iP iR iT iS iL jT jC zy LL db p8 encR gF encT iv encS jd fD LJ ey zu
def b7(n lo hi:Int):Bool:=decide (lo<=n)&&decide (n<=hi)
def dayB(n:Int):Bool:=b7 n 0 100000
noncomputable section
@[go_sem] def P96:PSpec:=p3 iI iI iI (fun _ _ _=>True) (fun n lo hi=>.bool (b7 n lo hi)) true
@[go_sem] def sg:Spec:=P96.toSpec
theorem uG:aT Tryz.prog 96 P96:=by
 refine o7 (rs:=[.tmp 6]) Tryz.func96 Tryz.ntmps96 fun n lo hi hp hw=>?_
 simp only[iI]at hw |-
 have hΓ:=@dI Tryz.prog
 repeat refine sq ?_
 refine rs hΓ [0,1,2] [] ?_
 repeat refine sq ?_
 refine rs hΓ [6] [] ?_
 refine av ?_
 simp only[go_sem]
 all_goals exact dp
@[go_sem] def P189:PSpec:=p1 iI (fun _=>True) (fun _=>.bool false) true
@[go_sem] def ZN:Spec:=P189.toSpec
theorem PB:aT Tryz.prog 189 P189:=by
 refine fI (rs:=[.tmp 2]) Tryz.func189 Tryz.ntmps189 fun n hp hw=>?_
 simp only[iI]at hw |-
 have hΓ:=@dI Tryz.prog
 repeat refine sq ?_
 refine rs hΓ [0] [] ?_
 repeat refine sq ?_
 refine rs hΓ [2] [] ?_
 refine av ?_
 simp only[go_sem]
 all_goals exact dp
def K1:List (Nat×Spec):=[(96,sg),(189,ZN)]
theorem uq:KS K1:=tc uG.sound<|tc PB.sound<|tn
attribute [go_sem] K1
@[go_sem] def P144:PSpec:=p1 iI (fun _=>True) (fun n=>.bool (b7 n 1 999)) true
@[go_sem] def Ni:Spec:=P144.toSpec
theorem F5:aT Tryz.prog 144 P144:=by
 refine fI (rs:=[.tmp 2]) Tryz.func144 Tryz.ntmps144 fun n hp hw=>?_
 simp only[iI]at hw |-
 have hΓ:=uq
 repeat refine sq ?_
 refine rs hΓ [0] [] ?_
 repeat refine sq ?_
 refine rs hΓ [2] [] ?_
 refine av ?_
 simp only[go_sem]
 all_goals exact dp
@[go_sem] def P145:PSpec:=p1 iI (fun _=>True) (fun n=>.bool (b7 n 1 30)) true
@[go_sem] def EO:Spec:=P145.toSpec
theorem AX:aT Tryz.prog 145 P145:=by
 refine fI (rs:=[.tmp 2]) Tryz.func145 Tryz.ntmps145 fun n hp hw=>?_
 simp only[iI]at hw |-
 have hΓ:=uq
 repeat refine sq ?_
 refine rs hΓ [0] [] ?_
 repeat refine sq ?_
 refine rs hΓ [2] [] ?_
 refine av ?_
 simp only[go_sem]
 all_goals exact dp
@[go_sem] def P147:PSpec:=p1 iI (fun _=>True) (fun n=>.bool (b7 n 1 99999)) true
@[go_sem] def Nh:Spec:=P147.toSpec
theorem F4:aT Tryz.prog 147 P147:=by
 refine fI (rs:=[.tmp 2]) Tryz.func147 Tryz.ntmps147 fun n hp hw=>?_
 simp only[iI]at hw |-
 have hΓ:=uq
 repeat refine sq ?_
 refine rs hΓ [0] [] ?_
 repeat refine sq ?_
 refine rs hΓ [2] [] ?_
 refine av ?_
 simp only[go_sem]
 all_goals exact dp
@[go_sem] def P148:PSpec:=p1 iI (fun _=>True) (fun n=>.bool (b7 n 1 99)) true
@[go_sem] def Ng:Spec:=P148.toSpec
theorem F3:aT Tryz.prog 148 P148:=by
 refine fI (rs:=[.tmp 2]) Tryz.func148 Tryz.ntmps148 fun n hp hw=>?_
 simp only[iI]at hw |-
 have hΓ:=uq
 repeat refine sq ?_
 refine rs hΓ [0] [] ?_
 repeat refine sq ?_
 refine rs hΓ [2] [] ?_
 refine av ?_
 simp only[go_sem]
 all_goals exact dp
@[go_sem] def P150:PSpec:=p1 iI (fun _=>True) (fun n=>.bool (dayB n)) true
@[go_sem] def EN:Spec:=P150.toSpec
theorem AV:aT Tryz.prog 150 P150:=by
 refine fI (rs:=[.tmp 2]) Tryz.func150 Tryz.ntmps150 fun n hp hw=>?_
 simp only[iI]at hw |-
 have hΓ:=uq
 repeat refine sq ?_
 refine rs hΓ [0] [] ?_
 repeat refine sq ?_
 refine rs hΓ [2] [] ?_
 refine av ?_
 simp only[go_sem]
 all_goals exact dp
def lK(a b:Int):Int:=if a<b then -1 else if b<a then 1 else 0
@[go_sem] def P140:PSpec:=p2 iI iI (fun _ _=>True) (fun a b=>vInt (lK a b)) true
@[go_sem] def ZZ:Spec:=P140.toSpec
theorem P0:aT Tryz.prog 140 P140:=by
 refine cV (rs:=[.tmp 4]) Tryz.func140 Tryz.ntmps140 fun a b hp hw=>?_
 simp only[iI]at hw |-
 have hΓ:=uq
 repeat refine sq ?_
 refine rs hΓ [0,1] [] ?_
 repeat refine sq ?_
 refine rs hΓ [0,1,5] [] ?_
 repeat refine sq ?_
 refine rs hΓ [0,1,5,6] [] ?_
 repeat refine sq ?_
 refine rs hΓ [0,1,6,11] [] ?_
 repeat refine ez ?_
 refine ax (fun hb=>?_) fun hb=>?_
 ·repeat refine ez ?_
  repeat refine sq ?_
  refine rs hΓ [12] [] ?_
  repeat refine ez ?_
  refine ax (fun hb=>?_) fun hb=>?_
  ·repeat refine ez ?_
   repeat refine sq ?_
   refine rs hΓ [4] [] ?_
   refine av ?_
   simp only[go_sem]
   all_goals first | rfl | (simp;done) | (grind [lK];done)
  ·repeat refine ez ?_
   refine aC ?_
   repeat refine sq ?_
   refine rs hΓ [4] [] ?_
   refine av ?_
   simp only[go_sem]
   all_goals first | rfl | (simp;done) | (grind [lK];done)
 ·repeat refine ez ?_
  refine aC ?_
  repeat refine sq ?_
  refine rs hΓ [0,1,13] [] ?_
  repeat refine ez ?_
  refine ax (fun hb=>?_) fun hb=>?_
  ·repeat refine ez ?_
   repeat refine sq ?_
   refine rs hΓ [4] [] ?_
   refine av ?_
   simp only[go_sem]
   all_goals first | rfl | (simp;done) | (grind [lK];done)
  ·repeat refine ez ?_
   refine aC ?_
   repeat refine sq ?_
   refine rs hΓ [0,1,16] [] ?_
   repeat refine ez ?_
   refine ax (fun hb=>?_) fun hb=>?_
   ·repeat refine ez ?_
    repeat refine sq ?_
    refine rs hΓ [4] [] ?_
    refine av ?_
    simp only[go_sem]
    all_goals first | rfl | (simp;done) | (grind [lK];done)
   ·repeat refine ez ?_
    refine aC ?_
    repeat refine sq ?_
    refine rs hΓ [19] [] ?_
    repeat refine ez ?_
    refine ax (fun hb=>?_) fun hb=>?_
    ·repeat refine ez ?_
     repeat refine sq ?_
     refine rs hΓ [4] [] ?_
     refine av ?_
     simp only[go_sem]
     all_goals first | rfl | (simp;done) | (grind [lK];done)
    ·repeat refine ez ?_
     refine aC ?_
     repeat refine sq ?_
     refine rs hΓ [4] [] ?_
     refine av ?_
     simp only[go_sem]
     all_goals first | rfl | (simp;done) | (grind [lK];done)
def di(since Fm known:Int):Bool:=decide (since<=known)&&(Fm==0||decide (known<Fm))
@[go_sem] def P157:PSpec:=p3 iI iI iI (fun _ _ _=>True) (fun a b c=>.bool (di a b c)) true
@[go_sem] def Ak:Spec:=P157.toSpec
theorem AU:aT Tryz.prog 157 P157:=by
 refine o7 (rs:=[.tmp 6]) Tryz.func157 Tryz.ntmps157 fun a b c hp hw=>?_
 simp only[iI]at hw |-
 have hΓ:=@dI Tryz.prog
 repeat refine sq ?_
 refine rs hΓ [0,1,2] [] ?_
 repeat refine sq ?_
 refine rs hΓ [6] [] ?_
 refine av ?_
 simp only[go_sem]
 all_goals first | rfl | (simp;done) | (grind [di];done)
@[go_sem] def P162:PSpec:=p3 iI iI iI (fun _ _ _=>True) (fun a b c=>.bool (di a b c)) true
@[go_sem] def S162:Spec:=P162.toSpec
theorem PT:aT Tryz.prog 162 P162:=by
 refine o7 (rs:=[.tmp 6]) Tryz.func162 Tryz.ntmps162 fun a b c hp hw=>?_
 simp only[iI]at hw |-
 have hΓ:=@dI Tryz.prog
 repeat refine sq ?_
 refine rs hΓ [0,1,2] [] ?_
 repeat refine sq ?_
 refine rs hΓ [6] [] ?_
 refine av ?_
 simp only[go_sem]
 all_goals first | rfl | (simp;done) | (grind [di];done)
theorem Ju:aF Tryz.prog 162 S162:=PT.sound
end
noncomputable section
def lg(k u:Int):Bool:=dayB k&&(u==0||(decide (k<u)&&decide (u<=100000)))
def K2:List (Nat×Spec):=[(96,sg),(145,EO),(150,EN),(144,Ni),(147,Nh),(148,Ng)]
theorem aaS:KS K2:=tc uG.sound<|tc AX.sound<|tc AV.sound<|tc F5.sound<|tc F4.sound<|tc F3.sound<|tn
attribute [go_sem] K2
theorem N'(k u:Int):(dayB k&&(u==0||b7 u (IntKind.i64.wrap (k+1)) 100000))=lg k u:=by
 unfold lg
 cases h:dayB k with
 |false=>rfl
 |true=>
  unfold dayB b7 at h
  simp only[Bool.and_eq_true,decide_eq_true_eq]at h
  rw[wrap_i64 (by omega) (by omega)]
  unfold b7
  simp only[Bool.true_and]
  congr 2
@[go_sem] def P151:PSpec:=p2 iI iI (fun _ _=>True) (fun a b=>.bool (lg a b)) true
@[go_sem] def ZX:Spec:=P151.toSpec
theorem PY:aT Tryz.prog 151 P151:=by
 refine cV (rs:=[.tmp 4]) Tryz.func151 Tryz.ntmps151 fun k u hp hw=>?_
 simp only[iI]at hw |-
 have hΓ:=aaS
 repeat refine sq ?_
 refine rs hΓ [0,1] [] ?_
 repeat refine sq ?_
 refine rs hΓ [4] [] ?_
 refine av ?_
 simp only[go_sem]
 all_goals first | rfl | (simp;done) | (exact congrArg V.bool (N' _ _);done)
open Classical in
def qy(l:List Int):Bool:=decide (∀ j (h:j<l.length),0<j->l[j-1] <l[j])
theorem xt{l:List Int}:qy l=true↔∀ j (h:j<l.length),0<j->l[j-1] <l[j]:=by unfold qy;exact decide_eq_true_iff
theorem Qq{l:List Int}{j:Nat}(h:j<l.length)(h0:0<j)(hb:l[j-1]>=l[j]):qy l=false:=by
 rw[Bool.eq_false_iff]
 intro k
 have :=xt.1 k j h h0
 omega
theorem NC{i n:Nat}(h0:0<i)(h:i<=n)(hn:n<=maxLen):IntKind.i64.wrap ((i:Int)-1)=((i-1:Nat):Int):=Ax (by omega) (Nat.le_trans h hn)
@[go_sem] def P130:PSpec:=p1 dZ (fun _=>True) (fun l=>.bool (qy l)) true
@[go_sem] def Z1:Spec:=P130.toSpec
set_option maxHeartbeats 4000000 in
theorem P1:aT Tryz.prog 130 P130:=by
 refine fI (rs:=[.tmp 2]) Tryz.func130 Tryz.ntmps130 fun l hp hw=>?_
 have hP:=eE
 simp only[dZ]at hw |-
 have hΓ:=@dI Tryz.prog
 have hl:l.length<=maxLen:=by have:=hw.1.1;simpa using this
 repeat refine sq ?_
 refine rs hΓ [0] [] ?_
 repeat refine sq ?_
 refine rs hΓ [0,3] [] ?_
 repeat refine sq ?_
 refine aI ?_
 repeat refine sq ?_
 refine bT (fun i:Nat=>[(3,⟨true,.v (vInt i)⟩)]) (fun i=>[]) (fun i=>0<i/\∀ j (h:j<l.length),j<i->0<j->l[j-1] <l[j]) (fun i=>l.length-i) 1 ?_ ?_ ?_ ?_
 ·exact⟨Nat.one_pos,fun j h h1 h2=>by omega⟩
 ·rfl
 ·rfl
 rintro i ⟨h0,hz⟩
 simp only[go_sem]
 repeat refine sq ?_
 refine rs hΓ [0,3,7] [] ?_
 repeat refine sq ?_
 refine ax (fun hb=>?_) fun hb=>?_
 ·have ab:i<l.length:=by simpa using hb
  have ao:(i:Int)<l.length:=by omega
  have vn:=NC h0 (Nat.le_of_lt ab) hl
  have vC:(0:Int)<=((i-1:Nat):Int):=by omega
  have tv:((i-1:Nat):Int)<l.length:=by omega
  have vB:i-1<l.length:=by omega
  repeat refine sq ?_
  refine aC ?_
  repeat refine sq ?_
  refine aI ?_
  repeat refine sq ?_
  refine dx hΓ hP [[],[],[1],[0,1,2],u4,[],[],[5,6],[5,6,7],u9] [0,3,19] [] (by kernel_rfl) (fun K' hK=>by simp only[go_sem,vn,ah ab,ah vB,ai,aj,ao,tv];exact fd) ?_
  repeat refine sq ?_
  refine ax (fun hb=>?_) fun hb=>?_
  ·repeat refine sq ?_
   refine rs hΓ [2] [] ?_
   refine av ?_
   simp only[go_sem]
   rw[Qq ab h0 (by simpa using hb)]
  ·replace hb:l[i-1] <l[i]:=by simpa using hb
   repeat refine sq ?_
   refine aC ?_
   refine bA ?_
   simp only[go_sem]
   refine kp [0,3] [] ?_
   repeat refine sq ?_
   refine aS hΓ fun K' hK=>?_
   simp only[go_sem]
   repeat (refine⟨ob,?_⟩)
   refine hK _ ?_
   clear K' hK
   simp only[go_sem]
   refine⟨i+1,⟨by omega,fun j h h1 h2=>?_⟩,by omega,?_⟩
   ·rcases Nat.lt_succ_iff_lt_or_eq.1 h1 with h3 | rfl
    ·exact hz j h h3 h2
    ·exact hb
   refine bd [0,3] [] ?_ ?_<;>simp only[go_sem,aV ab hl,aY]
 ·have bj:l.length<=i:=by
    have :¬ (i:Int)<l.length:=by simpa using hb
    omega
  repeat refine sq ?_
  refine bC ?_
  simp only[go_sem]
  refine kp [] [] ?_
  repeat refine sq ?_
  refine rs hΓ [2] [] ?_
  refine av ?_
  simp only[go_sem]
  rw[xt.2 fun j h h0=>hz j h (by omega) h0]
end
noncomputable section
def K3:List (Nat×Spec):=[(130,Z1),(145,EO),(96,sg)]
theorem aaD:KS K3:=tc P1.sound<|tc AX.sound<|tc uG.sound<|tn
attribute [go_sem] K3
def jQ(l:List Int):Bool:=decide (0<l.length)&&qy l&&b7 (l.getD 0 0) 1 30&&b7 (l.getD (l.length-1) 0) 1 30
@[go_sem] def P149:PSpec:=p1 dZ (fun _=>True) (fun l=>.bool (jQ l)) true
@[go_sem] def ZY:Spec:=P149.toSpec
set_option maxHeartbeats 4000000 in
theorem PZ:aT Tryz.prog 149 P149:=by
 refine fI (rs:=[.tmp 2]) Tryz.func149 Tryz.ntmps149 fun l hp hw=>?_
 simp only[dZ]at hw |-
 have hΓ:=aaD
 have hl:l.length<=maxLen:=by have:=hw.1.1;simpa using this
 by_cases h0:l.length=0
 ·have e0:l=[]:=List.length_eq_zero_iff.1 h0
  subst e0
  repeat refine sq ?_
  refine rs hΓ [0] [] ?_
  repeat refine sq ?_
  refine rs hΓ [2] [] ?_
  refine av ?_
  simp only[go_sem]
  rfl
 ·have hq:0<l.length:=by omega
  have cz:(0:Int)<l.length:=by omega
  have CF:=Ax h0 hl
  have yC:((l.length-1:Nat):Int)<l.length:=by omega
  have kJ:l.length-1<l.length:=by omega
  have hp3:(0:Int)<=((l.length-1:Nat):Int):=by omega
  have Wp:(l.map vInt).getD 0 default=vInt (l.getD 0 0):=by rw[ah hq,dM hq]
  have dT:(l.map vInt).getD (l.length-1) default=vInt (l.getD (l.length-1) 0):=by rw[ah kJ,dM kJ]
  have hd:decide ((l.length:Int)>0)=true:=by simpa using hq
  repeat refine sq ?_
  refine rs hΓ [0] [] ?_
  repeat refine sq ?_
  refine rx hΓ [2] [] (fun K' hK=>by simp only[go_sem,CF,Wp,dT,ai,Int.toNat_zero,aj,cz,yC,hd,decide_true];exact fn) ?_
  refine av ?_
  simp only[go_sem]
  have vB:decide (0<l.length)=true:=by simpa using hq
  simp only[jQ,vB,Bool.true_and,Bool.decide_and,Bool.decide_eq_true]
theorem xC{i n:Nat}(h:i<n)(hn:n<=maxLen):∃ p:Nat,(IntKind.i64.wrap ((i:Int)-1)).toNat=p/\p<n/\(0<i->p=i-1/\0<=IntKind.i64.wrap ((i:Int)-1)/\IntKind.i64.wrap ((i:Int)-1)<n):=by
 unfold maxLen at hn
 rcases Nat.eq_zero_or_pos i with rfl | hp
 ·exact⟨0,by decide,h,fun h=>by omega⟩
 ·have:IntKind.i64.wrap ((i:Int)-1)=((i-1:Nat):Int):=by rw[wrap_i64 (by omega) (by omega)];omega
  exact⟨i-1,by rw[this];rfl,by omega,fun _=>⟨rfl,by omega,by omega⟩⟩
theorem A6{l:List Int}(hr:qy l=true):∀ (k j:Nat) (h:j+k<l.length),l[j]+k<=l[j+k]
 | 0,j,h=>by simp
 |k+1,j,h=>by
  have h1:=A6 hr k j (by omega)
  have h2:=xt.1 hr (j+k+1) (by omega) (by omega)
  have e:j+k+1-1=j+k:=by omega
  simp only[e]at h2
  show l[j]+((k+1:Nat):Int)<=l[j+k+1]
  omega
theorem ot{l:List Int}:jQ l=true↔0<l.length/\l.length<=30/\qy l=true/\∀ j (h:j<l.length),b7 l[j] 1 30=true:=by
 unfold jQ
 simp only[Bool.and_eq_true,decide_eq_true_eq]
 constructor
 ·rintro⟨⟨⟨h1,h2⟩,h3⟩,h4⟩
  have kJ:l.length-1<l.length:=by omega
  rw[dM h1]at h3
  rw[dM kJ]at h4
  unfold b7 at h3 h4 |-
  simp only[Bool.and_eq_true,decide_eq_true_eq]at h3 h4 |-
  have eF:∀ j (h:j<l.length),l[0]+j<=l[j]:=fun j h=>by
   have :=A6 h2 j 0 (by omega)
   simpa using this
  have gj:∀ j (h:j<l.length),l[j]<=l[l.length-1]:=fun j h=>by
   have :=A6 h2 (l.length-1-j) j (by omega)
   have e:j+(l.length-1-j)=l.length-1:=by omega
   simp only[e]at this
   omega
  refine⟨h1,?_,h2,fun j h=>?_⟩
  ·have:=eF _ kJ;omega
  ·have a:=eF j h;have b:=gj j h;omega
 ·rintro⟨h1,h2,h3,h4⟩
  have kJ:l.length-1<l.length:=by omega
  refine⟨⟨⟨h1,h3⟩,?_⟩,?_⟩
  ·rw[dM h1];exact h4 0 h1
  ·rw[dM kJ];exact h4 _ kJ
theorem ub{b:Bool}{p:Prop}(h:b=true↔p)(hn:¬ p):b=false:=by
 cases b with
 |false=>rfl
 |true=>exact(hn (h.1 rfl)).elim
end
set_option maxHeartbeats 8000000
noncomputable section
def K4:List (Nat×Spec):=[(96,sg),(144,Ni),(145,EO),(147,Nh),(148,Ng),(149,ZY),(150,EN),(151,ZX)]
theorem As:KS K4:=tc uG.sound<|tc F5.sound<|tc AX.sound<|tc F4.sound<|tc F3.sound<|tc PZ.sound<|tc AV.sound<|tc PY.sound<|tn
attribute [go_sem] K4
def gD(b:Bool)(n:Int):Int:=if b then 0 else n
theorem zi(b:Bool)(n:Int)(hn:n≠0):(gD b n != 0)=!b:=by cases b<;>simp[gD,hn]
def lr(p:Pap):Bool:=b7 p.id 1 999&&b7 p.lv 1 30
def dO(r:Rec):Bool:=b7 r.so 1 99999&&b7 r.bo 1 99&&b7 r.pa 1 999&&jQ r.lv&&dayB r.da&&lg r.kn r.un
def jo(r:Ret):Bool:=b7 r.so 1 99999&&b7 r.re 1 99999&&b7 r.pe 1 99&&jQ r.lv&&b7 r.lo 0 r.hi&&dayB r.hi&&lg r.kn r.un
def lj(s:Sig):Bool:=b7 s.so 1 99999&&b7 s.pe 0 99&&b7 s.pa 1 999&&b7 s.le 1 30&&dayB s.da&&lg s.kn s.un
@[go_sem] def P61:PSpec:=p1 iP (fun _=>True) (fun x=>vInt (gD (lr x) 20)) true
@[go_sem] def ZG:Spec:=P61.toSpec
theorem Pq:aT Tryz.prog 61 P61:=by
 refine fI (rs:=[.tmp 2]) Tryz.func61 Tryz.ntmps61 fun x hp hw=>?_
 simp only[iP,db]at hw |-
 have hΓ:=As
 repeat refine sq ?_
 refine rs hΓ [1] [[1,0]] ?_
 repeat refine sq ?_
 refine rs hΓ [12] [] ?_
 repeat refine ez ?_
 refine ax (fun hb=>?_) fun hb=>?_
 ·repeat refine ez ?_
  repeat refine sq ?_
  refine rs hΓ [2] [] ?_
  refine av ?_
  simp only[go_sem]
  all_goals first | rfl | (simp;done) | (grind [lr,gD];done)
 ·repeat refine ez ?_
  refine aC ?_
  repeat refine sq ?_
  refine rs hΓ [2] [] ?_
  refine av ?_
  simp only[go_sem]
  all_goals first | rfl | (simp;done) | (grind [lr,gD];done)
@[go_sem] def P63:PSpec:=p1 iR (fun _=>True) (fun x=>vInt (gD (dO x) 21)) true
@[go_sem] def ZF:Spec:=P63.toSpec
theorem Pp:aT Tryz.prog 63 P63:=by
 refine fI (rs:=[.tmp 2]) Tryz.func63 Tryz.ntmps63 fun x hp hw=>?_
 simp only[iR,encR]at hw |-
 have hΓ:=As
 repeat refine sq ?_
 refine rs hΓ [1] [[1,0]] ?_
 repeat refine sq ?_
 refine rs hΓ [38] [] ?_
 repeat refine ez ?_
 refine ax (fun hb=>?_) fun hb=>?_
 ·repeat refine ez ?_
  repeat refine sq ?_
  refine rs hΓ [2] [] ?_
  refine av ?_
  simp only[go_sem]
  all_goals first | rfl | (simp;done) | (grind [dO,gD];done)
 ·repeat refine ez ?_
  refine aC ?_
  repeat refine sq ?_
  refine rs hΓ [2] [] ?_
  refine av ?_
  simp only[go_sem]
  all_goals first | rfl | (simp;done) | (grind [dO,gD];done)
@[go_sem] def P65:PSpec:=p1 iT (fun _=>True) (fun x=>vInt (gD (jo x) 22)) true
@[go_sem] def ZE:Spec:=P65.toSpec
theorem Po:aT Tryz.prog 65 P65:=by
 refine fI (rs:=[.tmp 2]) Tryz.func65 Tryz.ntmps65 fun x hp hw=>?_
 simp only[iT,encT]at hw |-
 have hΓ:=As
 repeat refine sq ?_
 refine rs hΓ [1] [[1,0]] ?_
 repeat refine sq ?_
 refine rs hΓ [49] [] ?_
 repeat refine ez ?_
 refine ax (fun hb=>?_) fun hb=>?_
 ·repeat refine ez ?_
  repeat refine sq ?_
  refine rs hΓ [2] [] ?_
  refine av ?_
  simp only[go_sem]
  all_goals first | rfl | (simp;done) | (grind [jo,gD];done)
 ·repeat refine ez ?_
  refine aC ?_
  repeat refine sq ?_
  refine rs hΓ [2] [] ?_
  refine av ?_
  simp only[go_sem]
  all_goals first | rfl | (simp;done) | (grind [jo,gD];done)
@[go_sem] def P67:PSpec:=p1 iS (fun _=>True) (fun x=>vInt (gD (lj x) 23)) true
@[go_sem] def M7:Spec:=P67.toSpec
theorem Pn:aT Tryz.prog 67 P67:=by
 refine fI (rs:=[.tmp 2]) Tryz.func67 Tryz.ntmps67 fun x hp hw=>?_
 simp only[iS,encS]at hw |-
 have hΓ:=As
 repeat refine sq ?_
 refine rs hΓ [1] [[1,0]] ?_
 repeat refine sq ?_
 refine rs hΓ [38] [] ?_
 repeat refine ez ?_
 refine ax (fun hb=>?_) fun hb=>?_
 ·repeat refine ez ?_
  repeat refine sq ?_
  refine rs hΓ [2] [] ?_
  refine av ?_
  simp only[go_sem]
  all_goals first | rfl | (simp;done) | (grind [lj,gD];done)
 ·repeat refine ez ?_
  refine aC ?_
  repeat refine sq ?_
  refine rs hΓ [2] [] ?_
  refine av ?_
  simp only[go_sem]
  all_goals first | rfl | (simp;done) | (grind [lj,gD];done)
@[go_sem] def P110:PSpec:=p1 iP (fun _=>True) (fun x=>vInt x.id) true
@[go_sem] def Z8:Spec:=P110.toSpec
theorem P9:aT Tryz.prog 110 P110:=by
 refine fI (rs:=[.tmp 2]) Tryz.func110 Tryz.ntmps110 fun x hp hw=>?_
 simp only[iP,db]at hw |-
 have hΓ:=@dI Tryz.prog
 repeat refine sq ?_
 refine rs hΓ [1] [[1,0]] ?_
 repeat refine sq ?_
 refine rs hΓ [2] [] ?_
 refine av ?_
 simp only[go_sem]
 all_goals exact dp
@[go_sem] def P112:PSpec:=p1 iR (fun _=>True) (fun x=>vInt x.so) true
@[go_sem] def Z6:Spec:=P112.toSpec
theorem P7:aT Tryz.prog 112 P112:=by
 refine fI (rs:=[.tmp 2]) Tryz.func112 Tryz.ntmps112 fun x hp hw=>?_
 simp only[iR,encR]at hw |-
 have hΓ:=@dI Tryz.prog
 repeat refine sq ?_
 refine rs hΓ [1] [[1,0]] ?_
 repeat refine sq ?_
 refine rs hΓ [2] [] ?_
 refine av ?_
 simp only[go_sem]
 all_goals exact dp
@[go_sem] def P114:PSpec:=p1 iT (fun _=>True) (fun x=>vInt x.so) true
@[go_sem] def Z4:Spec:=P114.toSpec
theorem P5:aT Tryz.prog 114 P114:=by
 refine fI (rs:=[.tmp 2]) Tryz.func114 Tryz.ntmps114 fun x hp hw=>?_
 simp only[iT,encT]at hw |-
 have hΓ:=@dI Tryz.prog
 repeat refine sq ?_
 refine rs hΓ [1] [[1,0]] ?_
 repeat refine sq ?_
 refine rs hΓ [2] [] ?_
 refine av ?_
 simp only[go_sem]
 all_goals exact dp
@[go_sem] def P116:PSpec:=p1 iS (fun _=>True) (fun x=>vInt x.so) true
@[go_sem] def Z2:Spec:=P116.toSpec
theorem P2:aT Tryz.prog 116 P116:=by
 refine fI (rs:=[.tmp 2]) Tryz.func116 Tryz.ntmps116 fun x hp hw=>?_
 simp only[iS,encS]at hw |-
 have hΓ:=@dI Tryz.prog
 repeat refine sq ?_
 refine rs hΓ [1] [[1,0]] ?_
 repeat refine sq ?_
 refine rs hΓ [2] [] ?_
 refine av ?_
 simp only[go_sem]
 all_goals exact dp
end
set_option maxHeartbeats 8000000
noncomputable section
def K5:List (Nat×Spec):=[(61,ZG),(63,ZF),(65,ZE),(67,M7),(110,Z8),(112,Z6),(114,Z4),(116,Z2)]
theorem Ar:KS K5:=tc Pq.sound<|tc Pp.sound<|tc Po.sound<|tc Pn.sound<|tc P9.sound<|tc P7.sound<|tc P5.sound<|tc P2.sound<|tn
attribute [go_sem] K5
def nh{α:Type}(eU:α->Bool)(num:α->Int)(l:List α)(n:Nat):Prop:=∀ j (h:j<l.length),j<n->eU l[j]=true/\(0<j->num l[j-1] <num l[j])
open Classical in
def gT{α:Type}(eU:α->Bool)(num:α->Int)(l:List α):Bool:=decide (nh eU num l l.length)
theorem kY{α:Type}{eU:α->Bool}{num:α->Int}{l:List α}:gT eU num l=true↔nh eU num l l.length:=by unfold gT;exact @decide_eq_true_iff _ (Classical.propDecidable _)
theorem xH{α:Type}{eU:α->Bool}{num:α->Int}{l:List α}:nh eU num l 0:=fun j _ h=>by omega
theorem xI{α:Type}{eU:α->Bool}{num:α->Int}{l:List α}{i:Nat}(h:nh eU num l i)(hi:i<l.length)(hc:eU l[i]=true/\(0<i->num l[i-1] <num l[i])):nh eU num l (i+1):=by
 intro j hj dw
 rcases Nat.lt_succ_iff_lt_or_eq.1 dw with h1 | rfl
 ·exact h j hj h1
 ·exact hc
@[go_sem] def P109:PSpec:=p4 (cW iP) iI (iF 61) (iF 110) (fun _ _ _ _=>True) (fun l m _ _=>.bool (gT lr Pap.id l&&decide ((l.length:Int)<=m))) true
@[go_sem] def Z9:Spec:=P109.toSpec
theorem P':aT Tryz.prog 109 P109:=by
 refine qp (rs:=[.tmp 8]) Tryz.func109 Tryz.ntmps109 fun l m _ _ hp hw=>?_
 have hP:=eE
 simp only[iF,iI,iP,cW,iC,db]at hw |-
 have hΓ:=Ar
 have hl:l.length<=maxLen:=by have:=hw.1.1;simpa using this
 repeat refine sq ?_
 refine rs hΓ [0,1,2,3] [] ?_
 repeat refine sq ?_
 refine rs hΓ [0,1,2,3,11,12,13] [] ?_
 repeat refine sq ?_
 refine aI ?_
 repeat refine sq ?_
 refine bT (fun s:Nat=>[(13,⟨true,.v (vInt s)⟩)]) (fun s=>[]) (fun s=>s<=l.length/\nh lr Pap.id l s) (fun s=>l.length-s) 0 ?_ ?_ ?_ ?_
 ·exact⟨Nat.zero_le _,xH⟩
 ·rfl
 ·rfl
 rintro i ⟨hi,hR⟩
 simp only[go_sem]
 repeat refine sq ?_
 refine rs hΓ [0,1,2,3,11,12,13,14] [] ?_
 repeat refine sq ?_
 refine ax (fun hb=>?_) fun hb=>?_
 ·have ab:i<l.length:=by simpa using hb
  have ao:(i:Int)<l.length:=by omega
  clear hb
  obtain⟨p,hp,mr,cL⟩:=xC ab hl
  repeat refine sq ?_
  refine aC ?_
  repeat refine sq ?_
  refine aI ?_
  repeat refine sq ?_
  refine rx hΓ [0,1,2,3,9,10,11,12,13] [[10,0]] (fun K' hK=>by simp only[go_sem,ah ab,ai,aj,ao];exact fn) ?_
  repeat refine sq ?_
  refine dx hΓ hP [[],[],[0,1],[0,1,2],u4,u5,u6,u7,u8,u8,u8,[0,1,2,3,4,5,6,7,10],[0,1,2,3,4,5,6,7,9,10,11],[0,1,2,3,4,5,6,7,9,10,11,12],ji,u8,u8,nP,iJ,o9,qq] [0,1,2,3,11,12,13,38] [] (by kernel_rfl) (fun K' hK=>by simp only[go_sem,ah ab,ai,aj,ao,hp,ah mr,fun b=>zi b 20 (by decide)];(repeat (refine⟨by first | exact ob | (intro h;have:=cL (by simp_all);simp_all;done),?_⟩));exact jB) ?_
  repeat refine sq ?_
  refine ax (fun hb=>?_) fun hb=>?_
  ·repeat refine sq ?_
   have fA:gT lr Pap.id l=false:=by
    rw[ub kY]
    intro h
    obtain⟨h1,h2⟩:=h i ab ab
    simp only[h1,Bool.not_true,Bool.false_or,Bool.and_eq_true,decide_eq_true_eq]at hb
    obtain⟨e,_⟩:=cL (by omega)
    subst e
    have :=h2 (by omega)
    have :=hb.2
    omega
   repeat refine sq ?_
   refine rx hΓ [8] [] (fun K' hK=>by simp only[go_sem,ah ab,ai,aj,ao];exact fn) ?_
   refine av ?_
   simp only[go_sem]
   rw[fA];rfl
  ·repeat refine sq ?_
   have hn:lr l[i]=true/\(0<i->Pap.id l[i-1] <Pap.id l[i]):=by
    simp only[Bool.or_eq_false_iff,Bool.not_eq_false',Bool.and_eq_false_iff,decide_eq_false_iff_not]at hb
    refine⟨hb.1,fun h=>?_⟩
    obtain⟨e,_⟩:=cL h
    subst e
    omega
   refine aC ?_
   refine bA ?_
   simp only[go_sem]
   refine kp [0,1,2,3,11,12,13] [] ?_
   repeat refine sq ?_
   refine aS hΓ fun K' hK=>?_
   simp only[go_sem,ah ab,ai,aj,ao]
   repeat (refine⟨ob,?_⟩)
   refine hK _ ?_
   clear K' hK
   simp only[go_sem]
   refine⟨i+1,⟨ab,?_⟩,by(show l.length-(i+1)<l.length-i;omega),?_⟩
   ·exact xI hR ab hn
   refine bd [0,1,2,3,11,12,13] [] ?_ ?_<;>simp only[go_sem,aV ab hl,aY]
 ·have bj:i=l.length:=by
   have :¬ (i:Int)<l.length:=by simpa using hb
   omega
  clear hb
  subst bj
  repeat refine sq ?_
  refine bC ?_
  simp only[go_sem]
  refine kp [0,1] [] ?_
  repeat refine sq ?_
  refine rs hΓ [8] [] ?_
  refine av ?_
  simp only[go_sem]
  rw[kY.2 hR];rfl
@[go_sem] def P111:PSpec:=p4 (cW iR) iI (iF 63) (iF 112) (fun _ _ _ _=>True) (fun l m _ _=>.bool (gT dO Rec.so l&&decide ((l.length:Int)<=m))) true
@[go_sem] def Z7:Spec:=P111.toSpec
theorem P8:aT Tryz.prog 111 P111:=by
 refine qp (rs:=[.tmp 8]) Tryz.func111 Tryz.ntmps111 fun l m _ _ hp hw=>?_
 have hP:=eE
 simp only[iF,iI,iR,cW,iC,encR]at hw |-
 have hΓ:=Ar
 have hl:l.length<=maxLen:=by have:=hw.1.1;simpa using this
 repeat refine sq ?_
 refine rs hΓ [0,1,2,3] [] ?_
 repeat refine sq ?_
 refine rs hΓ [0,1,2,3,11,12,13] [] ?_
 repeat refine sq ?_
 refine aI ?_
 repeat refine sq ?_
 refine bT (fun s:Nat=>[(13,⟨true,.v (vInt s)⟩)]) (fun s=>[]) (fun s=>s<=l.length/\nh dO Rec.so l s) (fun s=>l.length-s) 0 ?_ ?_ ?_ ?_
 ·exact⟨Nat.zero_le _,xH⟩
 ·rfl
 ·rfl
 rintro i ⟨hi,hR⟩
 simp only[go_sem]
 repeat refine sq ?_
 refine rs hΓ [0,1,2,3,11,12,13,14] [] ?_
 repeat refine sq ?_
 refine ax (fun hb=>?_) fun hb=>?_
 ·have ab:i<l.length:=by simpa using hb
  have ao:(i:Int)<l.length:=by omega
  clear hb
  obtain⟨p,hp,mr,cL⟩:=xC ab hl
  repeat refine sq ?_
  refine aC ?_
  repeat refine sq ?_
  refine aI ?_
  repeat refine sq ?_
  refine rx hΓ [0,1,2,3,9,10,11,12,13] [[10,0]] (fun K' hK=>by simp only[go_sem,ah ab,ai,aj,ao];exact fn) ?_
  repeat refine sq ?_
  refine dx hΓ hP [[],[],[0,1],[0,1,2],u4,u5,u6,u7,u8,u8,u8,[0,1,2,3,4,5,6,7,10],[0,1,2,3,4,5,6,7,9,10,11],[0,1,2,3,4,5,6,7,9,10,11,12],ji,u8,u8,nP,iJ,o9,qq] [0,1,2,3,11,12,13,38] [] (by kernel_rfl) (fun K' hK=>by simp only[go_sem,ah ab,ai,aj,ao,hp,ah mr,fun b=>zi b 21 (by decide)];(repeat (refine⟨by first | exact ob | (intro h;have:=cL (by simp_all);simp_all;done),?_⟩));exact jB) ?_
  repeat refine sq ?_
  refine ax (fun hb=>?_) fun hb=>?_
  ·repeat refine sq ?_
   have fA:gT dO Rec.so l=false:=by
    rw[ub kY]
    intro h
    obtain⟨h1,h2⟩:=h i ab ab
    simp only[h1,Bool.not_true,Bool.false_or,Bool.and_eq_true,decide_eq_true_eq]at hb
    obtain⟨e,_⟩:=cL (by omega)
    subst e
    have :=h2 (by omega)
    have :=hb.2
    omega
   repeat refine sq ?_
   refine rx hΓ [8] [] (fun K' hK=>by simp only[go_sem,ah ab,ai,aj,ao];exact fn) ?_
   refine av ?_
   simp only[go_sem]
   rw[fA];rfl
  ·repeat refine sq ?_
   have hn:dO l[i]=true/\(0<i->Rec.so l[i-1] <Rec.so l[i]):=by
    simp only[Bool.or_eq_false_iff,Bool.not_eq_false',Bool.and_eq_false_iff,decide_eq_false_iff_not]at hb
    refine⟨hb.1,fun h=>?_⟩
    obtain⟨e,_⟩:=cL h
    subst e
    omega
   refine aC ?_
   refine bA ?_
   simp only[go_sem]
   refine kp [0,1,2,3,11,12,13] [] ?_
   repeat refine sq ?_
   refine aS hΓ fun K' hK=>?_
   simp only[go_sem,ah ab,ai,aj,ao]
   repeat (refine⟨ob,?_⟩)
   refine hK _ ?_
   clear K' hK
   simp only[go_sem]
   refine⟨i+1,⟨ab,?_⟩,by(show l.length-(i+1)<l.length-i;omega),?_⟩
   ·exact xI hR ab hn
   refine bd [0,1,2,3,11,12,13] [] ?_ ?_<;>simp only[go_sem,aV ab hl,aY]
 ·have bj:i=l.length:=by
   have :¬ (i:Int)<l.length:=by simpa using hb
   omega
  clear hb
  subst bj
  repeat refine sq ?_
  refine bC ?_
  simp only[go_sem]
  refine kp [0,1] [] ?_
  repeat refine sq ?_
  refine rs hΓ [8] [] ?_
  refine av ?_
  simp only[go_sem]
  rw[kY.2 hR];rfl
@[go_sem] def P113:PSpec:=p4 (cW iT) iI (iF 65) (iF 114) (fun _ _ _ _=>True) (fun l m _ _=>.bool (gT jo Ret.so l&&decide ((l.length:Int)<=m))) true
@[go_sem] def Z5:Spec:=P113.toSpec
theorem P6:aT Tryz.prog 113 P113:=by
 refine qp (rs:=[.tmp 8]) Tryz.func113 Tryz.ntmps113 fun l m _ _ hp hw=>?_
 have hP:=eE
 simp only[iF,iI,cW,iT,iC,encT]at hw |-
 have hΓ:=Ar
 have hl:l.length<=maxLen:=by have:=hw.1.1;simpa using this
 repeat refine sq ?_
 refine rs hΓ [0,1,2,3] [] ?_
 repeat refine sq ?_
 refine rs hΓ [0,1,2,3,11,12,13] [] ?_
 repeat refine sq ?_
 refine aI ?_
 repeat refine sq ?_
 refine bT (fun s:Nat=>[(13,⟨true,.v (vInt s)⟩)]) (fun s=>[]) (fun s=>s<=l.length/\nh jo Ret.so l s) (fun s=>l.length-s) 0 ?_ ?_ ?_ ?_
 ·exact⟨Nat.zero_le _,xH⟩
 ·rfl
 ·rfl
 rintro i ⟨hi,hR⟩
 simp only[go_sem]
 repeat refine sq ?_
 refine rs hΓ [0,1,2,3,11,12,13,14] [] ?_
 repeat refine sq ?_
 refine ax (fun hb=>?_) fun hb=>?_
 ·have ab:i<l.length:=by simpa using hb
  have ao:(i:Int)<l.length:=by omega
  clear hb
  obtain⟨p,hp,mr,cL⟩:=xC ab hl
  repeat refine sq ?_
  refine aC ?_
  repeat refine sq ?_
  refine aI ?_
  repeat refine sq ?_
  refine rx hΓ [0,1,2,3,9,10,11,12,13] [[10,0]] (fun K' hK=>by simp only[go_sem,ah ab,ai,aj,ao];exact fn) ?_
  repeat refine sq ?_
  refine dx hΓ hP [[],[],[0,1],[0,1,2],u4,u5,u6,u7,u8,u8,u8,[0,1,2,3,4,5,6,7,10],[0,1,2,3,4,5,6,7,9,10,11],[0,1,2,3,4,5,6,7,9,10,11,12],ji,u8,u8,nP,iJ,o9,qq] [0,1,2,3,11,12,13,38] [] (by kernel_rfl) (fun K' hK=>by simp only[go_sem,ah ab,ai,aj,ao,hp,ah mr,fun b=>zi b 22 (by decide)];(repeat (refine⟨by first | exact ob | (intro h;have:=cL (by simp_all);simp_all;done),?_⟩));exact jB) ?_
  repeat refine sq ?_
  refine ax (fun hb=>?_) fun hb=>?_
  ·repeat refine sq ?_
   have fA:gT jo Ret.so l=false:=by
    rw[ub kY]
    intro h
    obtain⟨h1,h2⟩:=h i ab ab
    simp only[h1,Bool.not_true,Bool.false_or,Bool.and_eq_true,decide_eq_true_eq]at hb
    obtain⟨e,_⟩:=cL (by omega)
    subst e
    have :=h2 (by omega)
    have :=hb.2
    omega
   repeat refine sq ?_
   refine rx hΓ [8] [] (fun K' hK=>by simp only[go_sem,ah ab,ai,aj,ao];exact fn) ?_
   refine av ?_
   simp only[go_sem]
   rw[fA];rfl
  ·repeat refine sq ?_
   have hn:jo l[i]=true/\(0<i->Ret.so l[i-1] <Ret.so l[i]):=by
    simp only[Bool.or_eq_false_iff,Bool.not_eq_false',Bool.and_eq_false_iff,decide_eq_false_iff_not]at hb
    refine⟨hb.1,fun h=>?_⟩
    obtain⟨e,_⟩:=cL h
    subst e
    omega
   refine aC ?_
   refine bA ?_
   simp only[go_sem]
   refine kp [0,1,2,3,11,12,13] [] ?_
   repeat refine sq ?_
   refine aS hΓ fun K' hK=>?_
   simp only[go_sem,ah ab,ai,aj,ao]
   repeat (refine⟨ob,?_⟩)
   refine hK _ ?_
   clear K' hK
   simp only[go_sem]
   refine⟨i+1,⟨ab,?_⟩,by(show l.length-(i+1)<l.length-i;omega),?_⟩
   ·exact xI hR ab hn
   refine bd [0,1,2,3,11,12,13] [] ?_ ?_<;>simp only[go_sem,aV ab hl,aY]
 ·have bj:i=l.length:=by
   have :¬ (i:Int)<l.length:=by simpa using hb
   omega
  clear hb
  subst bj
  repeat refine sq ?_
  refine bC ?_
  simp only[go_sem]
  refine kp [0,1] [] ?_
  repeat refine sq ?_
  refine rs hΓ [8] [] ?_
  refine av ?_
  simp only[go_sem]
  rw[kY.2 hR];rfl
@[go_sem] def P115:PSpec:=p4 (cW iS) iI (iF 67) (iF 116) (fun _ _ _ _=>True) (fun l m _ _=>.bool (gT lj Sig.so l&&decide ((l.length:Int)<=m))) true
@[go_sem] def Z3:Spec:=P115.toSpec
theorem P3:aT Tryz.prog 115 P115:=by
 refine qp (rs:=[.tmp 8]) Tryz.func115 Tryz.ntmps115 fun l m _ _ hp hw=>?_
 have hP:=eE
 simp only[iF,iI,iS,cW,iC,encS]at hw |-
 have hΓ:=Ar
 have hl:l.length<=maxLen:=by have:=hw.1.1;simpa using this
 repeat refine sq ?_
 refine rs hΓ [0,1,2,3] [] ?_
 repeat refine sq ?_
 refine rs hΓ [0,1,2,3,11,12,13] [] ?_
 repeat refine sq ?_
 refine aI ?_
 repeat refine sq ?_
 refine bT (fun s:Nat=>[(13,⟨true,.v (vInt s)⟩)]) (fun s=>[]) (fun s=>s<=l.length/\nh lj Sig.so l s) (fun s=>l.length-s) 0 ?_ ?_ ?_ ?_
 ·exact⟨Nat.zero_le _,xH⟩
 ·rfl
 ·rfl
 rintro i ⟨hi,hR⟩
 simp only[go_sem]
 repeat refine sq ?_
 refine rs hΓ [0,1,2,3,11,12,13,14] [] ?_
 repeat refine sq ?_
 refine ax (fun hb=>?_) fun hb=>?_
 ·have ab:i<l.length:=by simpa using hb
  have ao:(i:Int)<l.length:=by omega
  clear hb
  obtain⟨p,hp,mr,cL⟩:=xC ab hl
  repeat refine sq ?_
  refine aC ?_
  repeat refine sq ?_
  refine aI ?_
  repeat refine sq ?_
  refine rx hΓ [0,1,2,3,9,10,11,12,13] [[10,0]] (fun K' hK=>by simp only[go_sem,ah ab,ai,aj,ao];exact fn) ?_
  repeat refine sq ?_
  refine dx hΓ hP [[],[],[0,1],[0,1,2],u4,u5,u6,u7,u8,u8,u8,[0,1,2,3,4,5,6,7,10],[0,1,2,3,4,5,6,7,9,10,11],[0,1,2,3,4,5,6,7,9,10,11,12],ji,u8,u8,nP,iJ,o9,qq] [0,1,2,3,11,12,13,38] [] (by kernel_rfl) (fun K' hK=>by simp only[go_sem,ah ab,ai,aj,ao,hp,ah mr,fun b=>zi b 23 (by decide)];(repeat (refine⟨by first | exact ob | (intro h;have:=cL (by simp_all);simp_all;done),?_⟩));exact jB) ?_
  repeat refine sq ?_
  refine ax (fun hb=>?_) fun hb=>?_
  ·repeat refine sq ?_
   have fA:gT lj Sig.so l=false:=by
    rw[ub kY]
    intro h
    obtain⟨h1,h2⟩:=h i ab ab
    simp only[h1,Bool.not_true,Bool.false_or,Bool.and_eq_true,decide_eq_true_eq]at hb
    obtain⟨e,_⟩:=cL (by omega)
    subst e
    have :=h2 (by omega)
    have :=hb.2
    omega
   repeat refine sq ?_
   refine rx hΓ [8] [] (fun K' hK=>by simp only[go_sem,ah ab,ai,aj,ao];exact fn) ?_
   refine av ?_
   simp only[go_sem]
   rw[fA];rfl
  ·repeat refine sq ?_
   have hn:lj l[i]=true/\(0<i->Sig.so l[i-1] <Sig.so l[i]):=by
    simp only[Bool.or_eq_false_iff,Bool.not_eq_false',Bool.and_eq_false_iff,decide_eq_false_iff_not]at hb
    refine⟨hb.1,fun h=>?_⟩
    obtain⟨e,_⟩:=cL h
    subst e
    omega
   refine aC ?_
   refine bA ?_
   simp only[go_sem]
   refine kp [0,1,2,3,11,12,13] [] ?_
   repeat refine sq ?_
   refine aS hΓ fun K' hK=>?_
   simp only[go_sem,ah ab,ai,aj,ao]
   repeat (refine⟨ob,?_⟩)
   refine hK _ ?_
   clear K' hK
   simp only[go_sem]
   refine⟨i+1,⟨ab,?_⟩,by(show l.length-(i+1)<l.length-i;omega),?_⟩
   ·exact xI hR ab hn
   refine bd [0,1,2,3,11,12,13] [] ?_ ?_<;>simp only[go_sem,aV ab hl,aY]
 ·have bj:i=l.length:=by
   have :¬ (i:Int)<l.length:=by simpa using hb
   omega
  clear hb
  subst bj
  repeat refine sq ?_
  refine bC ?_
  simp only[go_sem]
  refine kp [0,1] [] ?_
  repeat refine sq ?_
  refine rs hΓ [8] [] ?_
  refine av ?_
  simp only[go_sem]
  rw[kY.2 hR];rfl
end
set_option maxHeartbeats 8000000
noncomputable section
theorem Sx{i j:Nat}(hi:i<=maxLen)(hj:j<=maxLen):IntKind.i64.wrap ((IntKind.u64.wrap (IntKind.i64.wrap ((i:Int)+(j:Int)))).fdiv (2 ^ min (Int.toNat 1) 64))=(((i+j) / 2:Nat):Int):=by
 unfold maxLen at hi hj
 have h1:min (Int.toNat 1) 64=1:=by decide
 have h2:IntKind.u64.wrap (IntKind.i64.wrap ((i:Int)+(j:Int)))=((i+j:Nat):Int):=by
  rw[IntKind.wrap_u64,IntKind.wrap_i64]
  omega
 rw[h1,h2]
 have h3:(((i+j:Nat):Int)).fdiv (2 ^ 1)=(((i+j) / 2:Nat):Int):=by
  rw[Int.fdiv_eq_ediv_of_nonneg _ (by decide)]
  omega
 rw[h3,wrap_i64 (by omega) (by omega)]
theorem L0{a b:Int}:lK a b<0↔a<b:=by
 unfold lK
 split
 ·simp[*]
 ·split<;>simp<;>omega
theorem Ys{a b:Int}:(lK a b==0)=(a==b):=by
 unfold lK
 split
 ·have:a≠b:=by omega
  simp[this]
 ·split
  ·have:a≠b:=by omega
   simp[this]
  ·have:a=b:=by omega
   simp[this]
def srt{α:Type}(num:α->Int)(l:List α):Prop:=∀ i j (hi:i<l.length) (hj:j<l.length),i<j->num l[i] <num l[j]
theorem Oi{α:Type}{num:α->Int}{l:List α}(h:∀ j (h:j<l.length),0<j->num l[j-1] <num l[j]):srt num l:=by
 intro i j hi hj ew
 induction j with
 |zero=>omega
 |succ j ih=>
  have h1:=h (j+1) hj (by omega)
  simp only[Nat.add_sub_cancel]at h1
  rcases Nat.lt_succ_iff_lt_or_eq.1 ew with h2 | rfl
  ·have:=ih (by omega) h2;omega
  ·exact h1
theorem xJ{α:Type}{eU:α->Bool}{num:α->Int}{l:List α}(h:nh eU num l l.length):srt num l:=Oi fun j hj h0=>(h j hj hj).2 h0
def qI{α:Type}(num:α->Int)(l:List α)(x:Int):Nat:=(l.takeWhile fun y=>decide (num y<x)).length
def oK{α:Type}(num:α->Int)(l:List α)(x:Int):Bool:=l.any fun y=>num y==x
theorem BO{α:Type}{num:α->Int}{l:List α}{x:Int}{i:Nat}(hi:i<=l.length)(h1:∀ k (h:k<l.length),k<i->num l[k] <x)(h2:∀ k (h:k<l.length),i<=k->x<=num l[k]):qI num l x=i:=by
 unfold qI
 induction l generalizing i with
 |nil=>simp at hi |-;omega
 |cons a r ih=>
  cases i with
  |zero=>
   have :=h2 0 (by simp) (Nat.le_refl _)
   simp only[List.getElem_cons_zero]at this
   have hd:decide (num a<x)=false:=by simp;omega
   simp[hd]
  |succ i=>
   have :=h1 0 (by simp) (by omega)
   simp only[List.getElem_cons_zero]at this
   have hd:decide (num a<x)=true:=by simp;omega
   simp only[List.takeWhile_cons,hd,if_true,List.length_cons]
   rw[ih (by simpa using hi) (fun k hk cS=>by have:=h1 (k+1) (by simpa using hk) (by omega);simpa using this) (fun k hk cS=>by have:=h2 (k+1) (by simpa using hk) (by omega);simpa using this)]
theorem y0{α:Type}{num:α->Int}{l:List α}{x:Int}:oK num l x=true↔∃ k,∃ (h:k<l.length),num l[k]=x:=by
 unfold oK
 rw[List.any_eq_true]
 constructor
 ·rintro⟨y,hy,h⟩
  obtain⟨k,hk,rfl⟩:=List.getElem_of_mem hy
  exact⟨k,hk,by simpa using h⟩
 ·rintro⟨k,hk,h⟩
  exact⟨_,List.getElem_mem hk,by simpa using h⟩
theorem WZ{α:Type}{num:α->Int}{l:List α}{x:Int}{i:Nat}(hs:srt num l)(hi:i<l.length)(h1:∀ k (h:k<l.length),k<i->num l[k] <x)(h2:∀ k (h:k<l.length),i<=k->x<=num l[k]):oK num l x=(num l[i]==x):=by
 rw[Bool.eq_iff_iff,y0]
 simp only[beq_iff_eq]
 constructor
 ·rintro⟨k,hk,e⟩
  rcases Nat.lt_trichotomy k i with h3 | h3 | h3
  ·have:=h1 k hk h3;omega
  ·subst h3;exact e
  ·have:=hs i k hi hk h3
   have :=h2 i hi (Nat.le_refl _)
   omega
 ·intro e
  exact⟨i,hi,e⟩
theorem WY{α:Type}{num:α->Int}{l:List α}{x:Int}(h1:∀ k (h:k<l.length),num l[k] <x):oK num l x=false:=by
 rw[Bool.eq_false_iff]
 intro h
 obtain⟨k,hk,e⟩:=y0.1 h
 have :=h1 k hk
 omega
def K6a:List (Nat×Spec):=[(140,ZZ)]
theorem aar:KS K6a:=tc P0.sound<|tn
attribute [go_sem] K6a
@[go_sem] def P169:PSpec:=p2 iP iI (fun _ _=>True) (fun p x=>vInt (lK p.id x)) true
@[go_sem] def ZV:Spec:=P169.toSpec
theorem PQ:aT Tryz.prog 169 P169:=by
 refine cV (rs:=[.tmp 4]) Tryz.func169 Tryz.ntmps169 fun p x hp hw=>?_
 simp only[iI,iP,db]at hw |-
 have hΓ:=aar
 repeat refine sq ?_
 refine rs hΓ [1,2] [[2,0]] ?_
 repeat refine sq ?_
 refine rs hΓ [4] [] ?_
 refine av ?_
 simp only[go_sem]
 all_goals exact dp
def K6b:List (Nat×Spec):=[(169,ZV)]
theorem aaq:KS K6b:=tc PQ.sound<|tn
attribute [go_sem] K6b
@[go_sem] def P168:PSpec:=p3 (cW iP) iI (iF 169) (fun l _ _=>srt Pap.id l) (fun l x _=>.tup [vInt (qI Pap.id l x),.bool (oK Pap.id l x)]) true
@[go_sem] def ZW:Spec:=P168.toSpec
set_option maxRecDepth 10000 in
theorem PR:aT Tryz.prog 168 P168:=by
 refine o7 (rs:=[.tmp 6,.tmp 7]) Tryz.func168 Tryz.ntmps168 fun l x _ hp hw=>?_
 simp only[iF,iI,iP,cW,iC,db]at hw |-
 have hΓ:=aaq
 have hs:=hp
 have hl:l.length<=maxLen:=by have:=hw.1.1;simpa using this
 repeat refine sq ?_
 refine rs hΓ [0,1,2] [] ?_
 repeat refine sq ?_
 refine rs hΓ [0,1,2,8] [] ?_
 repeat refine sq ?_
 refine rs hΓ [0,1,2,8,9,10] [] ?_
 repeat refine sq ?_
 refine aI ?_
 repeat refine sq ?_
 refine bT (fun ij:Nat×Nat=>[(9,⟨true,.v (vInt ij.1)⟩),(10,⟨true,.v (vInt ij.2)⟩)]) (fun i=>[]) (fun ij=>ij.1<=ij.2/\ij.2<=l.length/\(∀ k (h:k<l.length),k<ij.1->Pap.id l[k] <x)/\(∀ k (h:k<l.length),ij.2<=k->x<=Pap.id l[k])) (fun ij=>ij.2-ij.1) (0,l.length) ?_ ?_ ?_ ?_
 ·exact⟨Nat.zero_le _,Nat.le_refl _,fun k h hk=>by omega,fun k h hk=>by omega⟩
 ·rfl
 ·rfl
 rintro⟨i,j⟩ ⟨ew,kM,eF,gj⟩
 simp only[go_sem]
 repeat refine sq ?_
 refine rs hΓ [0,1,2,8,9,10,17] [] ?_
 repeat refine sq ?_
 refine ax (fun hb=>?_) fun hb=>?_
 ·have ab:i<j:=by simpa using hb
  repeat refine sq ?_
  refine aC ?_
  repeat refine sq ?_
  refine aI ?_
  repeat refine sq ?_
  refine rx hΓ [0,1,2,8,9,10,11] [] (fun K' hK=>by simp only[go_sem,Sx (show i<=maxLen by omega) (show j<=maxLen by omega)];exact fn) ?_
  obtain⟨h,hh⟩:∃ h,h=(i+j) / 2:=⟨_,rfl⟩
  rw[<-hh]
  have h1:i<=h:=by omega
  have h2:h<j:=by omega
  have h3:h<l.length:=by omega
  have Xu:(h:Int)<l.length:=by omega
  repeat refine sq ?_
  refine rx hΓ [0,1,2,8,9,10,11,31] [] (fun K' hK=>by simp only[go_sem,ah h3,ai,aj,Xu];exact fn) ?_
  repeat refine sq ?_
  refine ax (fun hb=>?_) fun hb=>?_
  ·have hx:Pap.id l[h] <x:=by simpa[L0]using hb
   repeat refine sq ?_
   refine aS hΓ fun K' hK=>?_
   simp only[go_sem]
   repeat (refine⟨ob,?_⟩)
   refine hK _ ?_
   clear K' hK
   simp only[go_sem]
   refine⟨(h+1,j),⟨by omega,kM,fun k hk C2=>?_,gj⟩,by omega,?_⟩
   ·rcases Nat.lt_succ_iff_lt_or_eq.1 C2 with h5 | h5
    ·have:=hs k h hk h3 h5;omega
    ·subst h5;exact hx
   ·refine bd [0,1,2,8,9,10] [] ?_ ?_<;>simp only[go_sem,aV h3 hl,aY]
  ·have hx:x<=Pap.id l[h]:=by
     have :¬ Pap.id l[h] <x:=by simpa[L0]using hb
     omega
   repeat refine sq ?_
   refine aS hΓ fun K' hK=>?_
   simp only[go_sem]
   repeat (refine⟨ob,?_⟩)
   refine hK _ ?_
   clear K' hK
   simp only[go_sem]
   refine⟨(i,h),⟨by omega,by omega,eF,fun k hk C2=>?_⟩,by omega,?_⟩
   ·rcases Nat.lt_or_eq_of_le C2 with h5 | h5
    ·have:=hs h k h3 hk h5;omega
    ·subst h5;exact hx
   ·refine bd [0,1,2,8,9,10] [] ?_ ?_<;>simp only[go_sem]
 ·have he:i=j:=by
    have :¬ (i:Int)<j:=by simpa using hb
    omega
  subst he
  repeat refine sq ?_
  refine bC ?_
  simp only[go_sem]
  refine kp [0,1,2,8,9] [] ?_
  by_cases jY:i<l.length
  ·have C7:(i:Int)<l.length:=by omega
   repeat refine sq ?_
   refine rx hΓ [6,7] [] (fun K' hK=>by simp only[go_sem,ah jY,ai,aj,C7];exact fn) ?_
   refine av ?_
   simp only[go_sem]
   rw[BO kM eF gj,WZ hs jY eF gj]
   simp[Ys]
  ·have oF:i=l.length:=by omega
   have C7:¬ (i:Int)<l.length:=by omega
   obtain⟨k0,n0,WK⟩:∃ k0 n0,(l.map db).getD i default=.int k0 n0:=by
    refine⟨default,default,?_⟩
    rw[List.getD_eq_getElem?_getD,List.getElem?_eq_none (by simp;omega)]
    rfl
   repeat refine sq ?_
   refine rx hΓ [6,7] [] (fun K' hK=>by simp only[go_sem,WK,ai,aj,C7];exact fn) ?_
   refine av ?_
   simp only[go_sem]
   rw[BO kM eF gj,WY fun k hk=>eF k hk (by omega)]
   simp
def dC(l:List Pap)(id:Int):Int:=match l.find? fun p=>p.id==id with
 |some p=>p.lv
 |none=>0
theorem BN{l:List Pap}{x:Int}{i:Nat}(hi:i<l.length)(h:l[i].id=x)(h1:∀ k (h:k<l.length),k<i->l[k].id≠x):dC l x=l[i].lv:=by
 unfold dC
 have :(l.find? fun p=>p.id==x)=some l[i]:=by
  rw[List.find?_eq_some_iff_getElem]
  exact⟨by simpa using h,i,hi,rfl,fun j hj=>by simpa using h1 j (by omega) hj⟩
 rw[this]
theorem Hs{l:List Pap}{x:Int}(h1:∀ k (h:k<l.length),l[k].id≠x):dC l x=0:=by
 unfold dC
 have :(l.find? fun p=>p.id==x)=none:=by
  rw[List.find?_eq_none]
  intro p hp
  obtain⟨k,hk,rfl⟩:=List.getElem_of_mem hp
  simpa using h1 k hk
 rw[this]
theorem SI{l:List Pap}{x:Int}(hs:srt Pap.id l)(h:oK Pap.id l x=true):∃ (h:qI Pap.id l x<l.length),l[qI Pap.id l x].lv=dC l x:=by
 obtain⟨k,hk,e⟩:=y0.1 h
 have e2:qI Pap.id l x=k:=BO (Nat.le_of_lt hk) (fun j hj mw=>by have:=hs j k hj hk mw;omega) (fun j hj mw=>by
  rcases Nat.lt_or_eq_of_le mw with h | rfl
  ·have:=hs k j hk hj h;omega
  ·omega)
 refine⟨e2▸hk,?_⟩
 rw[BN hk e fun j hj mw=>by have:=hs j k hj hk mw;omega]
 congr
theorem SH{l:List Pap}{x:Int}(h:oK Pap.id l x=false):dC l x=0:=Hs fun k hk e=>by
 rw[y0.2 ⟨k,hk,e⟩]at h;cases h
def K6:List (Nat×Spec):=[(168,ZW)]
theorem aas:KS K6:=tc PR.sound<|tn
attribute [go_sem] K6
@[go_sem] def P79:PSpec:=p2 jT iI (fun l _=>srt Pap.id l.ps) (fun l x=>vInt (dC l.ps x)) true
@[go_sem] def wQ:Spec:=P79.toSpec
theorem FY:aT Tryz.prog 79 P79:=by
 refine cV (rs:=[.tmp 4]) Tryz.func79 Tryz.ntmps79 fun l x hp hw=>?_
 simp only[iI,jT,ey]at hw |-
 have hΓ:=aas
 repeat refine sq ?_
 refine rs hΓ [0,1] [] ?_
 repeat refine sq ?_
 refine rx hΓ [0,5,6] [] (fun K' hK=>by simp only[go_sem,hp];exact fn) ?_
 repeat refine sq ?_
 refine rs hΓ [0,5,17] [] ?_
 repeat refine sq ?_
 refine ax (fun hb=>?_) fun hb=>?_
 ·repeat refine sq ?_
  have hf:oK Pap.id l.ps x=false:=by simpa using hb
  repeat refine sq ?_
  refine rs hΓ [4] [] ?_
  refine av ?_
  simp only[go_sem]
  rw[SH hf]
 ·repeat refine sq ?_
  have hf:oK Pap.id l.ps x=true:=by simpa using hb
  obtain⟨V6,ri⟩:=SI hp hf
  have V5:(qI Pap.id l.ps x:Int)<l.ps.length:=by omega
  refine aC ?_
  repeat refine sq ?_
  refine rx hΓ [4] [] (fun K' hK=>by simp only[go_sem,ah V6,ai,aj,V5];exact fn) ?_
  refine av ?_
  simp only[go_sem]
  rw[ri]
@[go_sem] def P84:PSpec:=p2 iL iI (fun _ _=>True) (fun l x=>vInt (dC l.ps x)) true
@[go_sem] def Aj:Spec:=P84.toSpec
theorem Pe:aT Tryz.prog 84 P84:=by
 refine cV (rs:=[.tmp 4]) Tryz.func84 Tryz.ntmps84 fun l x hp hw=>?_
 simp only[iI,iL,fD]at hw |-
 have hΓ:=@dI Tryz.prog
 have hl:l.ps.length<=maxLen:=by have:=hw.1;simp[V.wfL,V.wf]at this;omega
 repeat refine sq ?_
 refine rs hΓ [1,2] [[2,0]] ?_
 repeat refine sq ?_
 refine rs hΓ [1,2,5] [[2,0]] ?_
 repeat refine sq ?_
 refine aI ?_
 repeat refine sq ?_
 refine bT (fun s:Nat=>[(5,⟨true,.v (vInt s)⟩)]) (fun s=>[]) (fun s=>s<=l.ps.length/\∀ k (h:k<l.ps.length),k<s->l.ps[k].id≠x) (fun s=>l.ps.length-s) 0 ?_ ?_ ?_ ?_
 ·exact⟨Nat.zero_le _,by simp⟩
 ·rfl
 ·rfl
 rintro i ⟨hi,hR⟩
 simp only[go_sem]
 repeat refine sq ?_
 refine rs hΓ [1,2,5,10] [[2,0]] ?_
 repeat refine sq ?_
 refine ax (fun hb=>?_) fun hb=>?_
 ·have ab:i<l.ps.length:=by simpa using hb
  have ao:(i:Int)<l.ps.length:=by omega
  clear hb
  repeat refine sq ?_
  refine aC ?_
  repeat refine sq ?_
  refine aI ?_
  repeat refine sq ?_
  refine rx hΓ [1,2,5,20] [[2,0]] (fun K' hK=>by simp only[go_sem,ah ab,ai,aj,ao];exact fn) ?_
  repeat refine sq ?_
  refine ax (fun hb=>?_) fun hb=>?_
  ·repeat refine sq ?_
   refine rx hΓ [4] [] (fun K' hK=>by simp only[go_sem,ah ab,ai,aj,ao];exact fn) ?_
   refine av ?_
   simp only[go_sem]
   rw[BN ab (by simpa using hb) hR]
  ·repeat refine sq ?_
   refine aC ?_
   refine bA ?_
   simp only[go_sem]
   refine kp [1,2,5] [[2,0]] ?_
   repeat refine sq ?_
   refine aS hΓ fun K' hK=>?_
   simp only[go_sem,ah ab,ai,aj,ao]
   repeat (refine⟨ob,?_⟩)
   refine hK _ ?_
   clear K' hK
   simp only[go_sem]
   refine⟨i+1,⟨ab,?_⟩,by(show l.ps.length-(i+1)<l.ps.length-i;omega),?_⟩
   ·intro k hk cS
    rcases Nat.lt_succ_iff_lt_or_eq.1 cS with h5 | rfl
    ·exact hR k hk h5
    ·simpa using hb
   refine bd [1,2,5] [[2,0]] ?_ ?_<;>simp only[go_sem,aV ab hl,aY]
 ·have bj:i=l.ps.length:=by
   have :¬ (i:Int)<l.ps.length:=by simpa using hb
   omega
  clear hb
  subst bj
  repeat refine sq ?_
  refine bC ?_
  simp only[go_sem]
  refine kp [] [] ?_
  repeat refine sq ?_
  refine rs hΓ [4] [] ?_
  refine av ?_
  simp only[go_sem]
  rw[Hs fun k hk=>hR k hk hk]
end
end Go.Eng
set_option linter.unusedVariables false
namespace Go.Eng
open Go Go.Proofs Go.RowKit Go.Lib Go.Shelf
end Go.Eng
set_option linter.unusedVariables false
namespace Go.Eng
open Go Go.Proofs Go.RowKit Go.Lib Go.Shelf
set_option maxHeartbeats 2000000 in
set_option maxRecDepth 100000 in
theorem YI(n c:Nat)(w:World):Calls Tryz.prog 132 #[.slice none n c] w fun e w'=>e=.returned (.slice none 0 0)/\w'=w:=by
 have mixed:Tryz.prog.follows Departure.mixedOrders=true:=by kernel_rfl
 have qT:∀ (w:World) (a:Option Addr) (n c n' c':Nat),(binOp .eql 29 (.slice a n c) (.slice none n' c')).run Tryz.prog w=.ok (.bool a.isNone) w:=fun w a n c n' c'=>Lib.run_eql_slice_nil w _ _ a n c n' c' Tryz.underlying29
 go_enter Tryz.func132,Tryz.ntmps132
 go_wp2
 go_ret
 exact⟨rfl,rfl⟩
set_option maxHeartbeats 2000000 in
set_option maxRecDepth 100000 in
theorem YH(a:Addr)(n c:Nat)(w:World)(v':Value)(w':World)
 (cR:∀ ty,(Builtin.append_ #[29,29] ty #[.slice (some ⟨w.heap.size,0,none⟩) 0 0,.slice (some a) n c]).run Tryz.prog (w.alloc (.cells #[] 81))=.ok v' w'):
 Calls Tryz.prog 132 #[.slice (some a) n c] w fun e w1=>e=.returned v'/\w1=w':=by
 have mixed:Tryz.prog.follows Departure.mixedOrders=true:=by kernel_rfl
 have qT:∀ (w:World) (a:Option Addr) (n c n' c':Nat),(binOp .eql 29 (.slice a n c) (.slice none n' c')).run Tryz.prog w=.ok (.bool a.isNone) w:=fun w a n c n' c'=>Lib.run_eql_slice_nil w _ _ a n c n' c' Tryz.underlying29
 go_enter Tryz.func132,Tryz.ntmps132
 go_wp2_with (at_builtin;refine Lib.wpList_append_run _ rfl _ _ _ _ rfl _ _ rfl rfl _ _ (cR _) ?_)
 go_ret
 exact⟨rfl,rfl⟩
set_option maxHeartbeats 2000000 in
set_option maxRecDepth 100000 in
theorem YG(n c:Nat)(w:World):Calls Tryz.prog 176 #[.slice none n c] w fun e w'=>e=.returned (.slice none 0 0)/\w'=w:=by
 have mixed:Tryz.prog.follows Departure.mixedOrders=true:=by kernel_rfl
 have qT:∀ (w:World) (a:Option Addr) (n c n' c':Nat),(binOp .eql 26 (.slice a n c) (.slice none n' c')).run Tryz.prog w=.ok (.bool a.isNone) w:=fun w a n c n' c'=>Lib.run_eql_slice_nil w _ _ a n c n' c' Tryz.underlying26
 go_enter Tryz.func176,Tryz.ntmps176
 go_wp2
 go_ret
 exact⟨rfl,rfl⟩
set_option maxHeartbeats 2000000 in
set_option maxRecDepth 100000 in
theorem YF(a:Addr)(n c:Nat)(w:World)(v':Value)(w':World)
 (cR:∀ ty,(Builtin.append_ #[26,26] ty #[.slice (some ⟨w.heap.size,0,none⟩) 0 0,.slice (some a) n c]).run Tryz.prog (w.alloc (.cells #[] 46))=.ok v' w'):
 Calls Tryz.prog 176 #[.slice (some a) n c] w fun e w1=>e=.returned v'/\w1=w':=by
 have mixed:Tryz.prog.follows Departure.mixedOrders=true:=by kernel_rfl
 have qT:∀ (w:World) (a:Option Addr) (n c n' c':Nat),(binOp .eql 26 (.slice a n c) (.slice none n' c')).run Tryz.prog w=.ok (.bool a.isNone) w:=fun w a n c n' c'=>Lib.run_eql_slice_nil w _ _ a n c n' c' Tryz.underlying26
 go_enter Tryz.func176,Tryz.ntmps176
 go_wp2_with (at_builtin;refine Lib.wpList_append_run _ rfl _ _ _ _ rfl _ _ rfl rfl _ _ (cR _) ?_)
 go_ret
 exact⟨rfl,rfl⟩
set_option maxHeartbeats 2000000 in
set_option maxRecDepth 100000 in
theorem YE(n c:Nat)(w:World):Calls Tryz.prog 177 #[.slice none n c] w fun e w'=>e=.returned (.slice none 0 0)/\w'=w:=by
 have mixed:Tryz.prog.follows Departure.mixedOrders=true:=by kernel_rfl
 have qT:∀ (w:World) (a:Option Addr) (n c n' c':Nat),(binOp .eql 27 (.slice a n c) (.slice none n' c')).run Tryz.prog w=.ok (.bool a.isNone) w:=fun w a n c n' c'=>Lib.run_eql_slice_nil w _ _ a n c n' c' Tryz.underlying27
 go_enter Tryz.func177,Tryz.ntmps177
 go_wp2
 go_ret
 exact⟨rfl,rfl⟩
set_option maxHeartbeats 2000000 in
set_option maxRecDepth 100000 in
theorem YD(a:Addr)(n c:Nat)(w:World)(v':Value)(w':World)
 (cR:∀ ty,(Builtin.append_ #[27,27] ty #[.slice (some ⟨w.heap.size,0,none⟩) 0 0,.slice (some a) n c]).run Tryz.prog (w.alloc (.cells #[] 36))=.ok v' w'):
 Calls Tryz.prog 177 #[.slice (some a) n c] w fun e w1=>e=.returned v'/\w1=w':=by
 have mixed:Tryz.prog.follows Departure.mixedOrders=true:=by kernel_rfl
 have qT:∀ (w:World) (a:Option Addr) (n c n' c':Nat),(binOp .eql 27 (.slice a n c) (.slice none n' c')).run Tryz.prog w=.ok (.bool a.isNone) w:=fun w a n c n' c'=>Lib.run_eql_slice_nil w _ _ a n c n' c' Tryz.underlying27
 go_enter Tryz.func177,Tryz.ntmps177
 go_wp2_with (at_builtin;refine Lib.wpList_append_run _ rfl _ _ _ _ rfl _ _ rfl rfl _ _ (cR _) ?_)
 go_ret
 exact⟨rfl,rfl⟩
set_option maxHeartbeats 2000000 in
set_option maxRecDepth 100000 in
theorem YC(n c:Nat)(w:World):Calls Tryz.prog 178 #[.slice none n c] w fun e w'=>e=.returned (.slice none 0 0)/\w'=w:=by
 have mixed:Tryz.prog.follows Departure.mixedOrders=true:=by kernel_rfl
 have qT:∀ (w:World) (a:Option Addr) (n c n' c':Nat),(binOp .eql 28 (.slice a n c) (.slice none n' c')).run Tryz.prog w=.ok (.bool a.isNone) w:=fun w a n c n' c'=>Lib.run_eql_slice_nil w _ _ a n c n' c' Tryz.underlying28
 go_enter Tryz.func178,Tryz.ntmps178
 go_wp2
 go_ret
 exact⟨rfl,rfl⟩
set_option maxHeartbeats 2000000 in
set_option maxRecDepth 100000 in
theorem YB(a:Addr)(n c:Nat)(w:World)(v':Value)(w':World)
 (cR:∀ ty,(Builtin.append_ #[28,28] ty #[.slice (some ⟨w.heap.size,0,none⟩) 0 0,.slice (some a) n c]).run Tryz.prog (w.alloc (.cells #[] 40))=.ok v' w'):
 Calls Tryz.prog 178 #[.slice (some a) n c] w fun e w1=>e=.returned v'/\w1=w':=by
 have mixed:Tryz.prog.follows Departure.mixedOrders=true:=by kernel_rfl
 have qT:∀ (w:World) (a:Option Addr) (n c n' c':Nat),(binOp .eql 28 (.slice a n c) (.slice none n' c')).run Tryz.prog w=.ok (.bool a.isNone) w:=fun w a n c n' c'=>Lib.run_eql_slice_nil w _ _ a n c n' c' Tryz.underlying28
 go_enter Tryz.func178,Tryz.ntmps178
 go_wp2_with (at_builtin;refine Lib.wpList_append_run _ rfl _ _ _ _ rfl _ _ rfl rfl _ _ (cR _) ?_)
 go_ret
 exact⟨rfl,rfl⟩
set_option maxHeartbeats 2000000 in
set_option maxRecDepth 100000 in
theorem YA(n c:Nat)(w:World):Calls Tryz.prog 179 #[.slice none n c] w fun e w'=>e=.returned (.slice none 0 0)/\w'=w:=by
 have mixed:Tryz.prog.follows Departure.mixedOrders=true:=by kernel_rfl
 have qT:∀ (w:World) (a:Option Addr) (n c n' c':Nat),(binOp .eql 32 (.slice a n c) (.slice none n' c')).run Tryz.prog w=.ok (.bool a.isNone) w:=fun w a n c n' c'=>Lib.run_eql_slice_nil w _ _ a n c n' c' Tryz.underlying32
 go_enter Tryz.func179,Tryz.ntmps179
 go_wp2
 go_ret
 exact⟨rfl,rfl⟩
set_option maxHeartbeats 2000000 in
set_option maxRecDepth 100000 in
theorem Yz(a:Addr)(n c:Nat)(w:World)(v':Value)(w':World)
 (cR:∀ ty,(Builtin.append_ #[32,32] ty #[.slice (some ⟨w.heap.size,0,none⟩) 0 0,.slice (some a) n c]).run Tryz.prog (w.alloc (.cells #[] 3))=.ok v' w'):
 Calls Tryz.prog 179 #[.slice (some a) n c] w fun e w1=>e=.returned v'/\w1=w':=by
 have mixed:Tryz.prog.follows Departure.mixedOrders=true:=by kernel_rfl
 have qT:∀ (w:World) (a:Option Addr) (n c n' c':Nat),(binOp .eql 32 (.slice a n c) (.slice none n' c')).run Tryz.prog w=.ok (.bool a.isNone) w:=fun w a n c n' c'=>Lib.run_eql_slice_nil w _ _ a n c n' c' Tryz.underlying32
 go_enter Tryz.func179,Tryz.ntmps179
 go_wp2_with (at_builtin;refine Lib.wpList_append_run _ rfl _ _ _ _ rfl _ _ rfl rfl _ _ (cR _) ?_)
 go_ret
 exact⟨rfl,rfl⟩
def Z81:Value:=.agg #[.int .i64 0,.int .i64 0,.int .i64 0,.int .i64 0,.int .i64 0,.int .i64 0,.int .i64 0]
def Z46:Value:=.agg #[.int .i64 0,.int .i64 0]
def Z36:Value:=.agg #[.int .i64 0,.int .i64 0,.int .i64 0,.slice none 0 0,.int .i64 0,.int .i64 0,.int .i64 0]
def Z40:Value:=.agg #[.int .i64 0,.int .i64 0,.int .i64 0,.slice none 0 0,.int .i64 0,.int .i64 0,.int .i64 0,.int .i64 0]
theorem jt(n:Nat)(h:n<1000000000):n≠yid:=by unfold yid;omega
theorem L8:qm Tryz.prog 132 29 81 7 56 Z81:=
 ⟨by kernel_rfl,by kernel_rfl,jt _ (by decide),gm Tryz.func132 (by rfl) (by kernel_rfl),YI,YH⟩
theorem L7:qm Tryz.prog 176 26 46 2 16 Z46:=
 ⟨by kernel_rfl,by kernel_rfl,jt _ (by decide),gm Tryz.func176 (by rfl) (by kernel_rfl),YG,YF⟩
theorem L6:qm Tryz.prog 177 27 36 7 72 Z36:=
 ⟨by kernel_rfl,by kernel_rfl,jt _ (by decide),gm Tryz.func177 (by rfl) (by kernel_rfl),YE,YD⟩
theorem L5:qm Tryz.prog 178 28 40 8 80 Z40:=
 ⟨by kernel_rfl,by kernel_rfl,jt _ (by decide),gm Tryz.func178 (by rfl) (by kernel_rfl),YC,YB⟩
theorem L4:qm Tryz.prog 179 32 3 1 8 (.int .i64 0):=
 ⟨by kernel_rfl,by kernel_rfl,jt _ (by decide),gm Tryz.func179 (by rfl) (by kernel_rfl),YA,Yz⟩
open Go Go.Proofs
def eY(l:List Int):List (V×V):=l.map fun s=>(vInt s,.bool true)
def nE(es:List (V×V)):List Int:=es.map fun q=>jC q.1
@[go_sem] theorem X6(l:List Int):nE (eY l)=l:=by
  unfold nE eY
  rw[List.map_map]
  exact List.map_id _
def qh(l:List Int)(s:Int):List Int:=if l.contains s then l else l++[s]
theorem Sy(l:List Int)(s:Int):eN (eY l) (vInt s)=if l.contains s then some (.bool true)else none:=by
 induction l with
 |nil=>rfl
 |cons a r ih=>
  show (if fe (vInt a) (vInt s)=true then some (V.bool true)else eN (eY r) (vInt s))=_
  rw[ih]
  by_cases h:a=s
  ·subst h;simp[fe]
  ·have h':(a==s)=false:=by simpa using h
   have gl:(s==a)=false:=by simpa using fun e=>h e.symm
   have h3:¬ s=a:=fun e=>h e.symm
   simp[fe,h',h3]
theorem BJ(l:List Int)(s:Int):(eN (eY l) (vInt s)).getD (.bool false)=.bool (l.contains s):=by
 rw[Sy]
 cases l.contains s<;>rfl
theorem BH(l:List Int)(s:Int):dQ (eY l) (vInt s) (.bool true)=eY (qh l s):=by
 induction l with
 |nil=>rfl
 |cons a r ih=>
  show (if fe (vInt a) (vInt s)=true then(vInt s,V.bool true)::eY r else(vInt a,V.bool true)::dQ (eY r) (vInt s) (.bool true))=_
  rw[ih]
  unfold qh
  by_cases h:a=s
  ·subst h;simp[fe,eY]
  ·have h':(a==s)=false:=by simpa using h
   have gl:(s==a)=false:=by simpa using fun e=>h e.symm
   simp only[fe,h',Bool.false_eq_true,if_false,List.contains_cons,gl,Bool.false_or]
   split<;>rfl
def Bn(obj:Name->Option O)(_:Name):List D->List Name
 |[_,.ref nm _]=>nm::(match obj nm with | some (.box [.map mm])=>[mm] | _=>[])
 |_=>[]
def pr(obj:Name->Option O)(_:Name):List D->R
 |[.v (.int .i64 s),.ref nm 0]=>match obj nm with
  |some (.box [.map mm])=>match obj mm with
   |some (.map 0 es)=>⟨(mm==nm)=false/\eY (nE es)=es,.v (.bool (!(nE es).contains s)),upd obj mm (some (.map 0 (eY (qh (nE es) s))))⟩
   |_=>.bad obj
  |_=>.bad obj
 |_=>.bad obj
def onceS:Spec:=⟨pr,Bn,Bn⟩
theorem Q7:onceS.Near:=by
 refine qE fun obj obj2 t ds ha=>?_
 unfold Bn at ha |-
 split
 ·rename_i d nm off
  simp only at ha
  have h1:obj2 nm=obj nm:=ha nm (by simp)
  refine⟨by rw[h1],?_⟩
  have eQ:∀ wr,bJ wr obj obj2->bP (R.bad obj) (R.bad obj2) obj obj2 wr:=fun wr h=>.none wr h
  unfold pr
  split
  ·rename_i s jM e
   simp only[List.cons.injEq,D.ref.injEq,and_true]at e
   obtain⟨_,rfl,rfl⟩:=e
   simp only[h1]
   split at ha
   ·rename_i mm hm
    have h2:obj2 mm=obj mm:=ha mm (by simp)
    simp only[h2,hm]
    split
    ·exact .one (by simp) ha
    ·exact eQ _ ha
   ·exact eQ _ ha
  ·exact eQ _ ha
 ·refine⟨rfl,?_⟩
  rename_i kP
  unfold pr
  split
  ·exact(kP _ _ _ rfl).elim
  ·exact .none _ (fun _ h=>by cases h)
attribute [go_sem] onceS pr
def uO:CSpec where
 pre:=fun os ds=>∃ (ss:List Int) (s:Int),os=[.box [.map [1,1]],.map 0 (eY ss)]/\ds=[.v (vInt s),.ref [0,1] 0]
 out:=fun os ds=>match os,ds with
  |[_,.map _ es],[.v (.int _ s),_]=>⟨[(1,.map 0 (eY (qh (nE es) s)))],[],.v (.bool (!(nE es).contains s))⟩
  |_,_=>⟨[],[],.any⟩
theorem Q6{f:FuncId}(h:aF Tryz.prog f uO.toSpec)(aB:f≠yid):aF Tryz.prog f onceS:=by
 refine qv h Q7 aB fun obj t ds aa=>?_
 change (pr obj t ds).ok at aa
 refine⟨ds,rfl,fun _ _ _ _ h=>h,?_⟩
 show _/\_=(pr obj t ds).d/\_=(pr obj t ds).obj
 unfold pr at aa |-
 split at aa
 ·rename_i s nm
  split at aa
  ·rename_i mm hb
   split at aa
   ·rename_i es hm
    obtain⟨lA,Wx⟩:=aa
    have J':mm≠nm:=by simpa using lA
    have WW:(nm==mm)=false:=by simpa using fun e=>J' e.symm
    have hr:reach obj [.v (.int .i64 s),.ref nm 0]=[nm,mm]:=by
     unfold reach
     show cE obj (2997+1+1+1) [nm] []=[nm,mm]
     simp only[cE,bZ,List.any_nil,Bool.false_eq_true,if_false,hb,gZ,b8,iU,List.nil_append,List.append_nil,List.any_cons,WW,Bool.or_false,hm,List.cons_append]
    have i0:idx [nm,mm] nm=0:=by simp[idx]
    have i1:idx [nm,mm] mm=1:=by simp[idx,Ne.symm J']
    have e1:ca obj [.v (.int .i64 s),.ref nm 0]=[.box [.map [1,1]],.map 0 es]:=by
     unfold ca
     rw[hr]
     simp only[List.map_cons,List.map_nil,cm,hb,hm,O.ren,D.renL,D.ren,cin,i1]
    have e2:cC obj [.v (.int .i64 s),.ref nm 0]=[.v (.int .i64 s),.ref [0,1] 0]:=by
     unfold cC
     rw[hr]
     simp only[D.renL,D.ren,cin,i0]
    have eP:uO.out [.box [.map [1,1]],.map 0 es] [.v (.int .i64 s),.ref [0,1] 0]=⟨[(1,.map 0 (eY (qh (nE es) s)))],[],.v (.bool (!(nE es).contains s))⟩:=rfl
    have dg:uO.pre [.box [.map [1,1]],.map 0 es] [.v (.int .i64 s),.ref [0,1] 0]:=⟨nE es,s,by rw[Wx],rfl⟩
    have e3:(shut obj [nm,mm]&&D.closL (bZ [nm,mm]) [.v (.int .i64 s),.ref nm 0]&&fresh obj t [])=true:=by
     simp[shut,hb,hm,O.clos,D.closL,D.clos,bZ,fresh]
    simp only[CSpec.toSpec,e1,e2,hr,eP,e3,dg,hb,hm,and_self,de,cA,D.ren,D.renL,O.ren,cout,List.getD_cons_zero,List.getD_cons_succ]
   ·exact aa.elim
  ·exact aa.elim
 ·exact aa.elim
set_option maxHeartbeats 8000000
noncomputable section
def S117:Spec:=onceS
attribute [go_sem] S117
theorem U8:aF Tryz.prog 117 S117:=by
 refine Q6 ?_ (jt _ (by decide))
 refine kV (nt:=12) (rs:=[.tmp 3]) Tryz.func117 rfl (by rfl) (by kernel_rfl) (gm Tryz.func117 rfl (by kernel_rfl)) (jt _ (by decide)) ?_
 rintro os ds ⟨ss,s,rfl,rfl⟩
 refine⟨Nat.le_of_ble_eq_true rfl,?_⟩
 have eP:uO.out [.box [.map [1,1]],.map 0 (eY ss)] [.v (vInt s),.ref [0,1] 0]=⟨[(1,.map 0 (eY (qh ss s)))],[],.v (.bool (!ss.contains s))⟩:=by
  simp only[uO,X6]
 rw[eP]
 refine fE ?_
 have hΓ:=@dI Tryz.prog
 have bu:∀ hs,bx [0] (bp [0] hs) (aM [.box [.map [1,1]],.map 0 (eY ss)])=True:=fun hs=>eq_true (jL (by
  intro o ho dom hd
  simp only[List.mem_cons,List.not_mem_nil,or_false]at ho
  rcases ho with rfl | rfl
  ·simp[O.clos,D.closL,D.clos,hd]
  ·rfl) hs)
 have h0:aM [.box [.map [1,1]],.map 0 (eY ss)] [0,1]=some (.box [.map [1,1]]):=rfl
 have h1:aM [.box [.map [1,1]],.map 0 (eY ss)] [1,1]=some (.map 0 (eY ss)):=rfl
 generalize hH:aM [.box [.map [1,1]],.map 0 (eY ss)]=H at *
 have ae:∀ hs es,bx [0] (bp [0] hs) (upd H [1,1] (some (.map 0 es)))=True:=fun hs es=>eq_true (mT rfl (by rw[bu];trivial))
 have bc:∀ hs es,bx [0] (bp [0] hs) (fun nm=>if nm=[1,1]then some (.map 0 es)else H nm)=True:=ae
 repeat refine sq ?_
 refine rx hΓ [0,1] [] (fun K' hK=>by simp only[go_sem,bu];(repeat (refine⟨ob,?_⟩));exact hK _ (by simp only[go_sem,bu]) (by simp only[go_sem,bu]<;>rfl)) ?_
 repeat refine sq ?_
 refine rx hΓ [0,1,4] [] (fun K' hK=>by simp only[go_sem,bu,h0,h1,BJ];(repeat (refine⟨ob,?_⟩));exact hK _ (by simp only[go_sem,bu,h0,h1,BJ]) (by simp only[go_sem,bu,h0,h1,BJ]<;>rfl)) ?_
 repeat refine sq ?_
 refine rx hΓ [4] [] (fun K' hK=>by simp only[go_sem,bu,ae,bc,h0,h1,BH];(repeat (refine⟨ob,?_⟩));exact hK _ (by simp only[go_sem,bu,ae,bc,h0,h1,BH]) (by simp only[go_sem,bu,ae,bc,h0,h1,BH]<;>rfl)) ?_
 repeat refine sq ?_
 refine rx hΓ [3] [] (fun K' hK=>by simp only[go_sem,bu,ae,bc];(repeat (refine⟨ob,?_⟩));exact hK _ (by simp only[go_sem,bu,ae,bc]) (by simp only[go_sem,bu,ae,bc]<;>rfl)) ?_
 refine av ?_
 simp only[go_sem]
 exact⟨h0,rfl⟩
def K7:List (Nat×Spec):=[(109,Z9),(111,Z7),(113,Z5),(115,Z3),(117,S117),(79,wQ)]
theorem aan:KS K7:=tc P'.sound<|tc P8.sound<|tc P6.sound<|tc P3.sound<|tc U8<|tc FY.sound<|tn
attribute [go_sem] K7
def sn{α:Type}(pre:List Int)(f:α->Int)(l:List α)(i:Nat):List Int:=(l.take i).foldl (fun a x=>a++[f x]) pre
theorem nQ{α:Type}(pre:List Int)(f:α->Int)(l:List α)(i:Nat):sn pre f l i=pre++(l.take i).map f:=by
 unfold sn
 generalize l.take i=k
 induction k generalizing pre with
 |nil=>simp
 |cons a r ih=>simp[ih]
theorem AP{α:Type}{pre:List Int}{f:α->Int}{l:List α}{i:Nat}(h:i<l.length)(hc:(sn pre f l i).contains (f l[i])=false):qh (sn pre f l i) (f l[i])=sn pre f l (i+1):=by
 unfold qh
 rw[hc,nQ,nQ,List.take_add_one,List.getElem?_eq_getElem h]
 simp only[Bool.false_eq_true,if_false,Option.toList_some,List.map_append,List.map_cons,List.map_nil,List.append_assoc]
def ov(l:List Int):Int:=l.getD (l.length-1) 0
def sA(l:Led):List Int:=l.rs.map Rec.so++l.ts.map Ret.so++l.ss.map Sig.so
structure bS (l:Led):Prop where
 ps:gT lr Pap.id l.ps=true
 psn:l.ps.length<=12
 rs:gT dO Rec.so l.rs=true
 rsn:l.rs.length<=60
 ts:gT jo Ret.so l.ts=true
 tsn:l.ts.length<=60
 ss:gT lj Sig.so l.ss=true
 ssn:l.ss.length<=60
 rl:∀ j (h:j<l.rs.length),ov l.rs[j].lv<=dC l.ps l.rs[j].pa
 sl:∀ j (h:j<l.ss.length),l.ss[j].le<=dC l.ps l.ss[j].pa
 nd:(sA l).Nodup
open Classical in
def uQ(l:Led):Bool:=decide (bS l)
theorem uP{l:Led}:uQ l=true↔bS l:=by unfold uQ;exact @decide_eq_true_iff _ (Classical.propDecidable _)
def nG(l:Led):Int:=gD (uQ l) 24
theorem wy{l:Led}(h:¬ bS l):nG l=24:=by unfold nG;rw[ub uP h];rfl
theorem YM{l:Led}(h:bS l):nG l=0:=by unfold nG;rw[uP.2 h];rfl
def lu{α:Type}(pre:List Int)(f:α->Int)(l:List α)(i:Nat):Prop:=∀ j (h:j<l.length),j<i->(sn pre f l j).contains (f l[j])=false
theorem Bz{α:Type}{pre:List Int}{f:α->Int}{l:List α}{i:Nat}(h:lu pre f l i)(hi:i<l.length)(hc:(sn pre f l i).contains (f l[i])=false):lu pre f l (i+1):=by
 intro j hj dw
 rcases Nat.lt_succ_iff_lt_or_eq.1 dw with h1 | rfl
 ·exact h j hj h1
 ·exact hc
theorem sZ{α:Type}{pre:List Int}{f:α->Int}{l:List α}(hp:pre.Nodup):lu pre f l l.length↔(pre++l.map f).Nodup:=by
 constructor
 ·intro h
  rw[List.nodup_append]
  refine⟨hp,?_,?_⟩
  ·rw[List.nodup_iff_pairwise_ne,List.pairwise_map,List.pairwise_iff_getElem]
   intro i j hi hj ew e
   have :=h j hj hj
   rw[nQ]at this
   simp only[List.contains_append,Bool.or_eq_false_iff]at this
   have h2:=this.2
   have :(List.map f (List.take j l)).contains (f l[j])=true:=by
    rw[List.contains_iff_mem,List.mem_map]
    exact⟨l[i],by rw[List.mem_take_iff_getElem];exact⟨i,by omega,rfl⟩,e⟩
   rw[h2]at this;cases this
  ·intro a ha b hb e
   subst e
   obtain⟨x,hx,rfl⟩:=List.mem_map.1 hb
   obtain⟨j,hj,rfl⟩:=List.getElem_of_mem hx
   have :=h j hj hj
   rw[nQ]at this
   simp only[List.contains_append,Bool.or_eq_false_iff]at this
   have h2:=this.1
   rw[List.contains_iff_mem.2 ha]at h2;cases h2
 ·intro h j hj _
  rw[List.nodup_append]at h
  obtain⟨_,h1,h2⟩:=h
  rw[nQ,Bool.eq_false_iff]
  intro hc
  rw[List.contains_iff_mem,List.mem_append]at hc
  rcases hc with hc | hc
  ·exact h2 _ hc _ (List.mem_map_of_mem (List.getElem_mem hj)) rfl
  ·obtain⟨x,hx,e⟩:=List.mem_map.1 hc
   obtain⟨i,hi,rfl⟩:=List.mem_take_iff_getElem.1 hx
   rw[List.nodup_iff_pairwise_ne,List.pairwise_map,List.pairwise_iff_getElem]at h1
   exact h1 i j (by omega) hj (by omega) e
theorem G9{α:Type}{pre:List Int}{f:α->Int}{l:List α}(h:(pre++l.map f).Nodup):pre.Nodup:=(List.nodup_append.1 h).1
def QD(l:Led)(i:Nat):Prop:=∀ j (h:j<l.rs.length),j<i->ov l.rs[j].lv<=dC l.ps l.rs[j].pa
def Om(l:Led)(i:Nat):Prop:=∀ j (h:j<l.ss.length),j<i->l.ss[j].le<=dC l.ps l.ss[j].pa
theorem ET{l:Led}(h:bS l):lu [] Rec.so l.rs l.rs.length/\lu (sn [] Rec.so l.rs l.rs.length) Ret.so l.ts l.ts.length/\lu (sn (sn [] Rec.so l.rs l.rs.length) Ret.so l.ts l.ts.length) Sig.so l.ss l.ss.length:=by
 have hn:=h.nd
 unfold sA at hn
 have e1:sn [] Rec.so l.rs l.rs.length=l.rs.map Rec.so:=by rw[nQ,List.take_length];rfl
 have e2:sn (sn [] Rec.so l.rs l.rs.length) Ret.so l.ts l.ts.length=l.rs.map Rec.so++l.ts.map Ret.so:=by rw[nQ,e1,List.take_length]
 have n2:=G9 hn
 have n1:=G9 n2
 refine⟨(sZ (by simp)).2 (by simpa using n1),?_,?_⟩
 ·rw[e1];exact(sZ n1).2 n2
 ·rw[e2];exact(sZ n2).2 hn
theorem aag{l:Led}(h1:lu [] Rec.so l.rs l.rs.length)(h2:lu (sn [] Rec.so l.rs l.rs.length) Ret.so l.ts l.ts.length)(h3:lu (sn (sn [] Rec.so l.rs l.rs.length) Ret.so l.ts l.ts.length) Sig.so l.ss l.ss.length):(sA l).Nodup:=by
 have e1:sn [] Rec.so l.rs l.rs.length=l.rs.map Rec.so:=by rw[nQ,List.take_length];rfl
 have e2:sn (sn [] Rec.so l.rs l.rs.length) Ret.so l.ts l.ts.length=l.rs.map Rec.so++l.ts.map Ret.so:=by rw[nQ,e1,List.take_length]
 have n1:(l.rs.map Rec.so).Nodup:=by simpa using(sZ (pre:=[]) (by simp)).1 h1
 have n2:=(sZ n1).1 (by rw[e1]at h2;exact h2)
 exact(sZ n2).1 (by rw[e2]at h3;exact h3)
theorem YT{a b c d:Bool}{p q r s:Prop}[Decidable p][Decidable q][Decidable r][Decidable s](h:(!(a&&decide p)||!(b&&decide q)||!(c&&decide r)||!(d&&decide s))=false):a=true/\p/\b=true/\q/\c=true/\r/\d=true/\s:=by
 simp only[Bool.or_eq_false_iff,Bool.not_eq_false',Bool.and_eq_true,decide_eq_true_eq]at h
 obtain⟨⟨⟨⟨h1,h2⟩,h3,h4⟩,h5,h6⟩,h7,h8⟩:=h
 exact⟨h1,h2,h3,h4,h5,h6,h7,h8⟩
theorem lN{α:Type}{eU:α->Bool}{num:α->Int}{l:List α}(h:gT eU num l=true){j:Nat}(hj:j<l.length):eU l[j]=true:=(kY.1 h j hj hj).1
theorem QF{r:Rec}(h:dO r=true):0<r.lv.length:=by
 unfold dO at h
 simp only[Bool.and_eq_true]at h
 exact(ot.1 h.1.1.2).1
@[go_sem] def P37:PSpec:=p1 iL (fun _=>True) (fun l=>vInt (nG l)) true
@[go_sem] def EI:Spec:=P37.toSpec
theorem Pr:aT Tryz.prog 37 P37:=by
 refine fI (rs:=[.tmp 2]) Tryz.func37 Tryz.ntmps37 fun l hp hw=>?_
 have hP:=eE
 simp only[iL,fD]at hw |-
 have hΓ:=aan
 repeat refine sq ?_
 refine rs hΓ [1] [[1,0]] ?_
 repeat refine sq ?_
 refine rs hΓ [1,32] [[1,0]] ?_
 repeat refine sq ?_
 refine ax (fun hb=>?_) fun hb=>?_
 ·repeat refine sq ?_
  have fA:¬ bS l:=by
   intro h
   rw[h.ps,h.rs,h.ts,h.ss]at hb
   have h1:=h.psn
   have h2:=h.rsn
   have h3:=h.tsn
   have h4:=h.ssn
   simp only[Bool.true_and,Bool.or_eq_true,Bool.not_eq_true',decide_eq_false_iff_not]at hb
   omega
  repeat refine sq ?_
  refine rs hΓ [2] [] ?_
  refine av ?_
  simp only[go_sem]
  rw[wy fA]
 ·repeat refine sq ?_
  obtain⟨fh,pM,ck,iZ,nl,yv,qU,JQ⟩:=YT hb
  have yw:srt Pap.id l.ps:=xJ (kY.1 fh)
  have kL:l.rs.length<=maxLen:=by unfold maxLen;omega
  have gg:l.ts.length<=maxLen:=by unfold maxLen;omega
  have tz:l.ss.length<=maxLen:=by unfold maxLen;omega
  refine aC ?_
  repeat refine sq ?_
  refine rs hΓ [1,3] [[1,0],[3,0],[33,0]] ?_
  repeat refine sq ?_
  refine rs hΓ [1,4] [[1,0],[3,0],[33,0]] ?_
  repeat refine sq ?_
  refine rs hΓ [1,4,36,37,38] [[1,0],[3,0],[33,0]] ?_
  repeat refine sq ?_
  refine aI ?_
  repeat refine sq ?_
  refine bT (fun s:Nat=>[(38,⟨true,.v (vInt s)⟩)]) (fun s=>[([33,0],.map 0 (eY (sn [] Rec.so l.rs s)))]) (fun s=>s<=l.rs.length/\lu [] Rec.so l.rs s/\QD l s) (fun s=>l.rs.length-s) 0 ?_ ?_ ?_ ?_
  ·exact⟨Nat.zero_le _,fun j _ h=>by omega,fun j _ h=>by omega⟩
  ·rfl
  ·rfl
  rintro i ⟨hi,hR,KH⟩
  simp only[go_sem]
  repeat refine sq ?_
  refine rs hΓ [1,4,36,37,38,39] [[1,0],[3,0],[33,0]] ?_
  repeat refine sq ?_
  refine ax (fun hb=>?_) fun hb=>?_
  ·have ab:i<l.rs.length:=by simpa using hb
   have ao:(i:Int)<l.rs.length:=by omega
   clear hb
   have hv:=QF (lN ck ab)
   have JK:l.rs[i].lv.length<=maxLen:=by have h0:=(ot.1 (by have h:=lN ck ab;unfold dO at h;simp only[Bool.and_eq_true]at h;exact h.1.1.2:jQ l.rs[i].lv=true)).2.1;unfold maxLen;omega
   have Cm:=Ax (by omega:¬ l.rs[i].lv.length=0) JK
   have vC:((l.rs[i].lv.length-1:Nat):Int)<l.rs[i].lv.length:=by omega
   have tv:l.rs[i].lv.length-1<l.rs[i].lv.length:=by omega
   have Wm:(l.rs[i].lv.map vInt).getD (l.rs[i].lv.length-1) default=vInt (ov l.rs[i].lv):=by unfold ov;rw[ah tv,dM tv]
   repeat refine sq ?_
   refine aC ?_
   repeat refine sq ?_
   refine aI ?_
   repeat refine sq ?_
   refine rx hΓ [1,4,6,36,37,38] [[1,0],[3,0],[6,0],[33,0]] (fun K' hK=>by simp only[go_sem,ah ab,ai,aj,ao];exact fn) ?_
   repeat refine sq ?_
   refine dx hΓ hP [[],[],[1],[0,1,2],u4,u5,u6,u7,u6,[0,1,2,3,4,5,8],[0,1,2,3,4,5,8,9],[0,1,2,3,4,5,8,9,10],fM,qs,u6,[0,1,2,3,4,5,14],[0,1,2,3,4,5,14,15],nP,iJ] [1,4,36,37,38,60] [[1,0],[3,0],[33,0]] (by kernel_rfl) (fun K' hK=>by simp only[go_sem,ah ab,ai,aj,ao,yw,Cm,Wm,vC];exact fd) ?_
   repeat refine sq ?_
   refine ax (fun hb=>?_) fun hb=>?_
   ·repeat refine sq ?_
    have fA:¬ bS l:=by
     intro h
     have h1:=(ET h).1 i ab ab
     have h2:=h.rl i ab
     rw[h1]at hb
     simp only[Bool.not_false,Bool.not_true,Bool.false_or,decide_eq_true_eq]at hb
     omega
    repeat refine sq ?_
    refine rx hΓ [2] [] (fun K' hK=>by simp only[go_sem,ah ab,ai,aj,ao];exact fn) ?_
    refine av ?_
    simp only[go_sem]
    rw[wy fA]
   ·repeat refine sq ?_
    have lB:(sn [] Rec.so l.rs i).contains l.rs[i].so=false:=by
     simp only[Bool.or_eq_false_iff,Bool.not_not]at hb
     exact hb.1
    have pQ:ov l.rs[i].lv<=dC l.ps l.rs[i].pa:=by
     simp only[Bool.or_eq_false_iff,decide_eq_false_iff_not]at hb
     omega
    rw[AP ab lB]
    refine aC ?_
    refine bA ?_
    simp only[go_sem]
    refine kp [1,4,36,37,38] [[1,0],[3,0],[33,0]] ?_
    repeat refine sq ?_
    refine aS hΓ fun K' hK=>?_
    simp only[go_sem,ah ab,ai,aj,ao]
    repeat (refine⟨ob,?_⟩)
    refine hK _ ?_
    clear K' hK
    simp only[go_sem]
    refine⟨i+1,⟨ab,?_⟩,by(show l.rs.length-(i+1)<l.rs.length-i;omega),?_⟩
    ·exact⟨Bz hR ab lB,fun j hj dw=>by
      rcases Nat.lt_succ_iff_lt_or_eq.1 dw with h1 | rfl
      ·exact KH j hj h1
      ·exact pQ⟩
    refine bd [1,4,36,37,38] [[1,0],[3,0],[33,0]] ?_ ?_<;>simp only[go_sem,aV ab kL,aY]
  ·have bj:i=l.rs.length:=by
    have :¬ (i:Int)<l.rs.length:=by simpa using hb
    omega
   clear hb
   subst bj
   repeat refine sq ?_
   refine bC ?_
   simp only[go_sem]
   refine kp [1,4] [[1,0],[3,0],[33,0]] ?_
   repeat refine sq ?_
   refine rs hΓ [1,4,63,64,65] [[1,0],[3,0],[33,0]] ?_
   repeat refine sq ?_
   refine aI ?_
   repeat refine sq ?_
   refine bT (fun s:Nat=>[(65,⟨true,.v (vInt s)⟩)]) (fun s=>[([33,0],.map 0 (eY (sn (sn [] Rec.so l.rs l.rs.length) Ret.so l.ts s)))]) (fun s=>s<=l.ts.length/\lu (sn [] Rec.so l.rs l.rs.length) Ret.so l.ts s) (fun s=>l.ts.length-s) 0 ?_ ?_ ?_ ?_
   ·exact⟨Nat.zero_le _,fun j _ h=>by omega⟩
   ·rfl
   ·rfl
   rintro i ⟨hi1,KG⟩
   simp only[go_sem]
   repeat refine sq ?_
   refine rs hΓ [1,4,63,64,65,66] [[1,0],[3,0],[33,0]] ?_
   repeat refine sq ?_
   refine ax (fun hb=>?_) fun hb=>?_
   ·have aJ:i<l.ts.length:=by simpa using hb
    have bq:(i:Int)<l.ts.length:=by omega
    clear hb
    repeat refine sq ?_
    refine aC ?_
    repeat refine sq ?_
    refine aI ?_
    repeat refine sq ?_
    refine rx hΓ [1,4,8,63,64,65] [[1,0],[3,0],[8,0],[33,0]] (fun K' hK=>by simp only[go_sem,ah aJ,ai,aj,bq];exact fn) ?_
    repeat refine sq ?_
    refine rx hΓ [1,4,63,64,65,73] [[1,0],[3,0],[33,0]] (fun K' hK=>by simp only[go_sem,ah aJ,ai,aj,bq];exact fn) ?_
    repeat refine sq ?_
    refine ax (fun hb=>?_) fun hb=>?_
    ·repeat refine sq ?_
     have fA:¬ bS l:=by
      intro h
      have h1:=(ET h).2.1 i aJ aJ
      rw[h1]at hb
      cases hb
     repeat refine sq ?_
     refine rx hΓ [2] [] (fun K' hK=>by simp only[go_sem,ah aJ,ai,aj,bq];exact fn) ?_
     refine av ?_
     simp only[go_sem]
     rw[wy fA]
    ·repeat refine sq ?_
     have lB:(sn (sn [] Rec.so l.rs l.rs.length) Ret.so l.ts i).contains l.ts[i].so=false:=by
      simpa only[Bool.not_not]using hb
     rw[AP aJ lB]
     refine aC ?_
     refine bA ?_
     simp only[go_sem]
     refine kp [1,4,63,64,65] [[1,0],[3,0],[33,0]] ?_
     repeat refine sq ?_
     refine aS hΓ fun K' hK=>?_
     simp only[go_sem,ah aJ,ai,aj,bq]
     repeat (refine⟨ob,?_⟩)
     refine hK _ ?_
     clear K' hK
     simp only[go_sem]
     refine⟨i+1,⟨aJ,?_⟩,by(show l.ts.length-(i+1)<l.ts.length-i;omega),?_⟩
     ·exact Bz KG aJ lB
     refine bd [1,4,63,64,65] [[1,0],[3,0],[33,0]] ?_ ?_<;>simp only[go_sem,aV aJ gg,aY]
   ·have gz:i=l.ts.length:=by
     have :¬ (i:Int)<l.ts.length:=by simpa using hb
     omega
    clear hb
    subst gz
    repeat refine sq ?_
    refine bC ?_
    simp only[go_sem]
    refine kp [1,4] [[1,0],[3,0],[33,0]] ?_
    repeat refine sq ?_
    refine rs hΓ [1,4,76,77,78] [[1,0],[3,0],[33,0]] ?_
    repeat refine sq ?_
    refine aI ?_
    repeat refine sq ?_
    refine bT (fun s:Nat=>[(78,⟨true,.v (vInt s)⟩)]) (fun s=>[([33,0],.map 0 (eY (sn (sn (sn [] Rec.so l.rs l.rs.length) Ret.so l.ts l.ts.length) Sig.so l.ss s)))]) (fun s=>s<=l.ss.length/\lu (sn (sn [] Rec.so l.rs l.rs.length) Ret.so l.ts l.ts.length) Sig.so l.ss s/\Om l s) (fun s=>l.ss.length-s) 0 ?_ ?_ ?_ ?_
    ·exact⟨Nat.zero_le _,fun j _ h=>by omega,fun j _ h=>by omega⟩
    ·rfl
    ·rfl
    rintro i ⟨kN,KF,KE⟩
    simp only[go_sem]
    repeat refine sq ?_
    refine rs hΓ [1,4,76,77,78,79] [[1,0],[3,0],[33,0]] ?_
    repeat refine sq ?_
    refine ax (fun hb=>?_) fun hb=>?_
    ·have ct:i<l.ss.length:=by simpa using hb
     have gP:(i:Int)<l.ss.length:=by omega
     clear hb
     repeat refine sq ?_
     refine aC ?_
     repeat refine sq ?_
     refine aI ?_
     repeat refine sq ?_
     refine rx hΓ [1,4,10,76,77,78] [[1,0],[3,0],[10,0],[33,0]] (fun K' hK=>by simp only[go_sem,ah ct,ai,aj,gP];exact fn) ?_
     repeat refine sq ?_
     refine dx hΓ hP [[],[],[1],[0,1,2],u4,u5,u6,u7,u6,[0,1,2,3,4,5,8],[0,1,2,3,4,5,8,9],fm,fM] [1,4,76,77,78,94] [[1,0],[3,0],[33,0]] (by kernel_rfl) (fun K' hK=>by simp only[go_sem,ah ct,ai,aj,gP,yw];exact fd) ?_
     repeat refine sq ?_
     refine ax (fun hb=>?_) fun hb=>?_
     ·repeat refine sq ?_
      have fA:¬ bS l:=by
       intro h
       have h1:=(ET h).2.2 i ct ct
       have h2:=h.sl i ct
       rw[h1]at hb
       simp only[Bool.not_false,Bool.not_true,Bool.false_or,decide_eq_true_eq]at hb
       omega
      repeat refine sq ?_
      refine rx hΓ [2] [] (fun K' hK=>by simp only[go_sem,ah ct,ai,aj,gP];exact fn) ?_
      refine av ?_
      simp only[go_sem]
      rw[wy fA]
     ·repeat refine sq ?_
      have lB:(sn (sn (sn [] Rec.so l.rs l.rs.length) Ret.so l.ts l.ts.length) Sig.so l.ss i).contains l.ss[i].so=false:=by
       simp only[Bool.or_eq_false_iff,Bool.not_not]at hb
       exact hb.1
      have pQ:l.ss[i].le<=dC l.ps l.ss[i].pa:=by
       simp only[Bool.or_eq_false_iff,decide_eq_false_iff_not]at hb
       omega
      rw[AP ct lB]
      refine aC ?_
      refine bA ?_
      simp only[go_sem]
      refine kp [1,4,76,77,78] [[1,0],[3,0],[33,0]] ?_
      repeat refine sq ?_
      refine aS hΓ fun K' hK=>?_
      simp only[go_sem,ah ct,ai,aj,gP]
      repeat (refine⟨ob,?_⟩)
      refine hK _ ?_
      clear K' hK
      simp only[go_sem]
      refine⟨i+1,⟨ct,?_⟩,by(show l.ss.length-(i+1)<l.ss.length-i;omega),?_⟩
      ·exact⟨Bz KF ct lB,fun j hj dw=>by
        rcases Nat.lt_succ_iff_lt_or_eq.1 dw with h1 | rfl
        ·exact KE j hj h1
        ·exact pQ⟩
      refine bd [1,4,76,77,78] [[1,0],[3,0],[33,0]] ?_ ?_<;>simp only[go_sem,aV ct tz,aY]
    ·have mA:i=l.ss.length:=by
      have :¬ (i:Int)<l.ss.length:=by simpa using hb
      omega
     clear hb
     subst mA
     repeat refine sq ?_
     refine bC ?_
     simp only[go_sem]
     refine kp [] [] ?_
     repeat refine sq ?_
     refine rs hΓ [2] [] ?_
     refine av ?_
     simp only[go_sem]
     rw[YM ⟨fh,by omega,ck,by omega,nl,by omega,qU,by omega,fun j h=>KH j h h,fun j h=>KE j h h,aag hR KG KF⟩]
end
noncomputable section
def Ov(l:Led):Prop:=l.rs.length<=60/\l.ts.length<=60/\l.ss.length<=60
def K8a:List (Nat×Spec):=[(84,Aj)]
attribute [go_sem] K8a
structure Fol where
 (pa le:Int)
 deriving Inhabited,DecidableEq
def eH(f:Fol):V:=.agg [vInt f.pa,vInt f.le]
def zw:V->Fol
 | .agg [.int _ a,.int _ b]=>⟨a,b⟩
 |_=>default
def iX:En Fol:=⟨eH,zw⟩
attribute [go_sem] eH zw iX
@[go_sem] theorem lG(p:Fol):(⟨p.pa,p.le⟩:Fol)=p:=rfl
end
noncomputable section
def K9:List (Nat×Spec):=[]
attribute [go_sem] K9
theorem QE{r:Rec}(h:dO r=true):jQ r.lv=true:=by
 unfold dO at h
 simp only[Bool.and_eq_true]at h
 exact h.1.1.2
end
set_option maxHeartbeats 8000000
noncomputable section
theorem zj(d:Nat)(a b:Int):iu Tryz.prog (d+1) 3 (vInt a) (vInt b)=some (a==b):=by
 simp only[iu,Tryz.underlying3,if_true]
theorem WA:Tryz.prog.stoodInHeld 46=false:=by kernel_rfl
theorem Xx:Tryz.prog.eqGuardType Tryz.prog.depth 46=false:=by kernel_rfl
theorem XR(d:Nat)(a b a' b':Int):iu Tryz.prog (d+2) 46 (.agg [vInt a,vInt b]) (.agg [vInt a',vInt b'])=some (a==a'&&b==b'):=by
 unfold iu
 simp only[Tryz.underlying46,WA,Bool.false_eq_true,if_false,nD,po,xg,List.getElem?_cons_zero,List.getElem?_cons_succ,zj]
 cases a==a'<;>cases b==b'<;>rfl
@[go_sem] theorem aeL(obj:Name->Option O)(op:BinOp)(a b a' b':Int):jg Tryz.prog obj op 46 (.agg [vInt a,vInt b]) (.agg [vInt a',vInt b'])=
    ⟨op=.eql\/op=.neq,.v (.bool (if op=.eql then(a==a'&&b==b')else !(a==a'&&b==b'))),obj⟩:=by
  unfold jg
  rw[show Op.maxDepth=9998+2 from rfl,XR]
  simp only[Xx,true_and]
theorem Wz:Tryz.prog.stoodInHeld 56=false:=by kernel_rfl
theorem Xw:Tryz.prog.eqGuardType Tryz.prog.depth 56=false:=by kernel_rfl
theorem XQ(d:Nat)(a b a' b':Int):iu Tryz.prog (d+2) 56 (.agg [vInt a,vInt b]) (.agg [vInt a',vInt b'])=some (a==a'&&b==b'):=by
 unfold iu
 simp only[Tryz.underlying56,Wz,Bool.false_eq_true,if_false,nD,po,xg,List.getElem?_cons_zero,List.getElem?_cons_succ,zj]
 cases a==a'<;>cases b==b'<;>rfl
@[go_sem] theorem aeK(obj:Name->Option O)(op:BinOp)(a b a' b':Int):jg Tryz.prog obj op 56 (.agg [vInt a,vInt b]) (.agg [vInt a',vInt b'])=
    ⟨op=.eql\/op=.neq,.v (.bool (if op=.eql then(a==a'&&b==b')else !(a==a'&&b==b'))),obj⟩:=by
  unfold jg
  rw[show Op.maxDepth=9998+2 from rfl,XQ]
  simp only[Xw,true_and]
theorem WB:Tryz.prog.stoodInHeld 38=false:=by kernel_rfl
theorem Xy:Tryz.prog.eqGuardType Tryz.prog.depth 38=false:=by kernel_rfl
theorem XS(d:Nat)(a b a' b':Int):iu Tryz.prog (d+2) 38 (.agg [vInt a,vInt b]) (.agg [vInt a',vInt b'])=some (a==a'&&b==b'):=by
 unfold iu
 simp only[Tryz.underlying38,WB,Bool.false_eq_true,if_false,nD,po,xg,List.getElem?_cons_zero,List.getElem?_cons_succ,zj]
 cases a==a'<;>cases b==b'<;>rfl
@[go_sem] theorem aeM(obj:Name->Option O)(op:BinOp)(a b a' b':Int):jg Tryz.prog obj op 38 (.agg [vInt a,vInt b]) (.agg [vInt a',vInt b'])=
    ⟨op=.eql\/op=.neq,.v (.bool (if op=.eql then(a==a'&&b==b')else !(a==a'&&b==b'))),obj⟩:=by
  unfold jg
  rw[show Op.maxDepth=9998+2 from rfl,XS]
  simp only[Xy,true_and]
theorem Wy:Tryz.prog.stoodInHeld 81=false:=by kernel_rfl
theorem Xv:Tryz.prog.eqGuardType Tryz.prog.depth 81=false:=by kernel_rfl
theorem XP(k:Nat)(a b c d e f g a' b' c' d' e' f' g':Int):iu Tryz.prog (k+2) 81 (.agg [vInt a,vInt b,vInt c,vInt d,vInt e,vInt f,vInt g]) (.agg [vInt a',vInt b',vInt c',vInt d',vInt e',vInt f',vInt g'])=
 some (a==a'&&(b==b'&&(c==c'&&(d==d'&&(e==e'&&(f==f'&&g==g')))))):=by
 unfold iu
 simp only[Tryz.underlying81,Wy,Bool.false_eq_true,if_false,nD,po,xg,List.getElem?_cons_zero,List.getElem?_cons_succ,zj]
 cases a==a'<;>cases b==b'<;>cases c==c'<;>cases d==d'<;>cases e==e'<;>cases f==f'<;>cases g==g'<;>rfl
@[go_sem] theorem aeJ(obj:Name->Option O)(op:BinOp)(a b c d e f g a' b' c' d' e' f' g':Int):jg Tryz.prog obj op 81 (.agg [vInt a,vInt b,vInt c,vInt d,vInt e,vInt f,vInt g]) (.agg [vInt a',vInt b',vInt c',vInt d',vInt e',vInt f',vInt g'])=
    ⟨op=.eql\/op=.neq,.v (.bool (if op=.eql then(a==a'&&(b==b'&&(c==c'&&(d==d'&&(e==e'&&(f==f'&&g==g'))))))else !(a==a'&&(b==b'&&(c==c'&&(d==d'&&(e==e'&&(f==f'&&g==g')))))))),obj⟩:=by
  unfold jg
  rw[show Op.maxDepth=9998+2 from rfl,XP]
  simp only[Xv,true_and]
def uF{α:Type}(a b:List α)(n:Nat):Prop:=∀ j (h:j<a.length) (h':j<b.length),j<n->a[j]=b[j]
theorem FU{α:Type}{a b:List α}{i:Nat}(h:uF a b i)(hi:∀ (h:i<a.length) (h':i<b.length),a[i]=b[i]):uF a b (i+1):=by
 intro j hj dL dw
 rcases Nat.lt_succ_iff_lt_or_eq.1 dw with h1 | rfl
 ·exact h j hj dL h1
 ·exact hi hj dL
theorem FV{α:Type}{a b:List α}(hl:a.length=b.length)(h:uF a b a.length):a=b:=List.ext_getElem hl fun j h1 h2=>h j h1 h2 h1
theorem Kz{l:List Int}{n:Int}:l.contains n=true↔∃ k,∃ (h:k<l.length),l[k]=n:=by
 rw[List.contains_iff_mem]
 constructor
 ·intro h
  obtain⟨k,hk,e⟩:=List.getElem_of_mem h
  exact⟨k,hk,e⟩
 ·rintro⟨k,hk,rfl⟩
  exact List.getElem_mem hk
@[go_sem] def P15:PSpec:=p2 dZ iI (fun _ _=>True) (fun l n=>.bool (l.contains n)) true
@[go_sem] def uj:Spec:=P15.toSpec
theorem AW:aT Tryz.prog 15 P15:=by
 refine cV (rs:=[.tmp 4]) Tryz.func15 Tryz.ntmps15 fun l n hp hw=>?_
 simp only[iI,dZ]at hw |-
 have hΓ:=@dI Tryz.prog
 have hl:l.length<=maxLen:=by have:=hw.1.1;simpa using this
 repeat refine sq ?_
 refine rs hΓ [0,1] [] ?_
 repeat refine sq ?_
 refine rs hΓ [0,1,5] [] ?_
 repeat refine sq ?_
 refine aI ?_
 repeat refine sq ?_
 refine bT (fun s:Nat=>[(5,⟨true,.v (vInt s)⟩)]) (fun s=>[]) (fun s=>s<=l.length/\∀ k (h:k<l.length),k<s->l[k]≠n) (fun s=>l.length-s) 0 ?_ ?_ ?_ ?_
 ·exact⟨Nat.zero_le _,by simp⟩
 ·rfl
 ·rfl
 rintro i ⟨hi,hR⟩
 simp only[go_sem]
 repeat refine sq ?_
 refine rs hΓ [0,1,5,9] [] ?_
 repeat refine sq ?_
 refine ax (fun hb=>?_) fun hb=>?_
 ·have ab:i<l.length:=by simpa using hb
  have ao:(i:Int)<l.length:=by omega
  clear hb
  repeat refine sq ?_
  refine aC ?_
  repeat refine sq ?_
  refine aI ?_
  repeat refine sq ?_
  refine rx hΓ [0,1,5,17] [] (fun K' hK=>by simp only[go_sem,ah ab,ai,aj,ao];exact fn) ?_
  repeat refine sq ?_
  refine ax (fun hb=>?_) fun hb=>?_
  ·repeat refine sq ?_
   refine rx hΓ [4] [] (fun K' hK=>by simp only[go_sem,ah ab,ai,aj,ao];exact fn) ?_
   refine av ?_
   simp only[go_sem]
   rw[Kz.2 ⟨i,ab,by simpa using hb⟩]
  ·repeat refine sq ?_
   refine aC ?_
   refine bA ?_
   simp only[go_sem]
   refine kp [0,1,5] [] ?_
   repeat refine sq ?_
   refine aS hΓ fun K' hK=>?_
   simp only[go_sem,ah ab,ai,aj,ao]
   repeat (refine⟨ob,?_⟩)
   refine hK _ ?_
   clear K' hK
   simp only[go_sem]
   refine⟨i+1,⟨ab,?_⟩,by(show l.length-(i+1)<l.length-i;omega),?_⟩
   ·intro k hk cS
    rcases Nat.lt_succ_iff_lt_or_eq.1 cS with h5 | rfl
    ·exact hR k hk h5
    ·simpa using hb
   refine bd [0,1,5] [] ?_ ?_<;>simp only[go_sem,aV ab hl,aY]
 ·have bj:i=l.length:=by
   have :¬ (i:Int)<l.length:=by simpa using hb
   omega
  clear hb
  subst bj
  repeat refine sq ?_
  refine bC ?_
  simp only[go_sem]
  refine kp [] [] ?_
  repeat refine sq ?_
  refine rs hΓ [4] [] ?_
  refine av ?_
  simp only[go_sem]
  rw[ub Kz (fun ⟨k,hk,e⟩=>hR k hk hk e)]
@[go_sem] def P24:PSpec:=p2 dZ dZ (fun _ _=>True) (fun a b=>.bool (decide (a=b))) true
@[go_sem] def EJ:Spec:=P24.toSpec
theorem Pu:aT Tryz.prog 24 P24:=by
 refine cV (rs:=[.tmp 4]) Tryz.func24 Tryz.ntmps24 fun a b hp hw=>?_
 have hP:=eE
 simp only[dZ]at hw |-
 have hΓ:=@dI Tryz.prog
 have hl:a.length<=maxLen:=by have:=hw.1.1;simpa using this
 repeat refine sq ?_
 refine rs hΓ [0,1] [] ?_
 repeat refine sq ?_
 refine rs hΓ [0,1,10] [] ?_
 repeat refine sq ?_
 refine ax (fun hb=>?_) fun hb=>?_
 ·repeat refine sq ?_
  have fA:a≠b:=by
   rintro rfl
   simp at hb
  repeat refine sq ?_
  refine rs hΓ [4] [] ?_
  refine av ?_
  simp only[go_sem]
  rw[decide_eq_false fA]
 ·repeat refine sq ?_
  have mD:a.length=b.length:=by
   have :(a.length:Int)=b.length:=by simpa using hb
   omega
  clear hb
  refine aC ?_
  repeat refine sq ?_
  refine rs hΓ [0,1,5] [] ?_
  repeat refine sq ?_
  refine aI ?_
  repeat refine sq ?_
  refine bT (fun s:Nat=>[(5,⟨true,.v (vInt s)⟩)]) (fun s=>[]) (fun s=>s<=a.length/\uF a b s) (fun s=>a.length-s) 0 ?_ ?_ ?_ ?_
  ·exact⟨Nat.zero_le _,fun j _ _ h=>by omega⟩
  ·rfl
  ·rfl
  rintro i ⟨hi,hR⟩
  simp only[go_sem]
  repeat refine sq ?_
  refine rs hΓ [0,1,5,14] [] ?_
  repeat refine sq ?_
  refine ax (fun hb=>?_) fun hb=>?_
  ·have ab:i<a.length:=by simpa using hb
   have ao:(i:Int)<a.length:=by omega
   clear hb
   have pS:(i:Int)<b.length:=by omega
   have V9:i<b.length:=by omega
   repeat refine sq ?_
   refine aC ?_
   repeat refine sq ?_
   refine aI ?_
   repeat refine sq ?_
   refine dx hΓ hP [[],[],[0,1],[0,1,2],[],[],[4,5],[4,5,6],u8] [0,1,5,25] [] (by kernel_rfl) (fun K' hK=>by simp only[go_sem,ah ab,ah (show i<b.length by omega),ai,aj,ao,pS];exact fd) ?_
   repeat refine sq ?_
   refine ax (fun hb=>?_) fun hb=>?_
   ·repeat refine sq ?_
    have fA:a≠b:=by
     rintro rfl
     simp at hb
    repeat refine sq ?_
    refine rx hΓ [4] [] (fun K' hK=>by simp only[go_sem,ah ab,ah (show i<b.length by omega),ai,aj,ao,pS];exact fn) ?_
    refine av ?_
    simp only[go_sem]
    rw[decide_eq_false fA]
   ·repeat refine sq ?_
    refine aC ?_
    refine bA ?_
    simp only[go_sem]
    refine kp [0,1,5] [] ?_
    repeat refine sq ?_
    refine aS hΓ fun K' hK=>?_
    simp only[go_sem,ah ab,ah (show i<b.length by omega),ai,aj,ao,pS]
    repeat (refine⟨ob,?_⟩)
    refine hK _ ?_
    clear K' hK
    simp only[go_sem]
    refine⟨i+1,⟨ab,?_⟩,by(show a.length-(i+1)<a.length-i;omega),?_⟩
    ·exact FU hR fun _ _=>by simpa using hb
    refine bd [0,1,5] [] ?_ ?_<;>simp only[go_sem,aV ab hl,aY]
  ·have bj:i=a.length:=by
    have :¬ (i:Int)<a.length:=by simpa using hb
    omega
   clear hb
   subst bj
   repeat refine sq ?_
   refine bC ?_
   simp only[go_sem]
   refine kp [] [] ?_
   repeat refine sq ?_
   refine rs hΓ [4] [] ?_
   refine av ?_
   simp only[go_sem]
   rw[decide_eq_true (FV mD hR)]
@[go_sem] def P94:PSpec:=p2 dZ dZ (fun _ _=>True) (fun a b=>.bool (decide (a=b))) true
@[go_sem] def Zz:Spec:=P94.toSpec
theorem O8:aT Tryz.prog 94 P94:=by
 refine cV (rs:=[.tmp 4]) Tryz.func94 Tryz.ntmps94 fun a b hp hw=>?_
 have hP:=eE
 simp only[dZ]at hw |-
 have hΓ:=@dI Tryz.prog
 have hl:a.length<=maxLen:=by have:=hw.1.1;simpa using this
 repeat refine sq ?_
 refine rs hΓ [0,1] [] ?_
 repeat refine sq ?_
 refine rs hΓ [0,1,10] [] ?_
 repeat refine sq ?_
 refine ax (fun hb=>?_) fun hb=>?_
 ·repeat refine sq ?_
  have fA:a≠b:=by
   rintro rfl
   simp at hb
  repeat refine sq ?_
  refine rs hΓ [4] [] ?_
  refine av ?_
  simp only[go_sem]
  rw[decide_eq_false fA]
 ·repeat refine sq ?_
  have mD:a.length=b.length:=by
   have :(a.length:Int)=b.length:=by simpa using hb
   omega
  clear hb
  refine aC ?_
  repeat refine sq ?_
  refine rs hΓ [0,1,12,13] [] ?_
  repeat refine sq ?_
  refine aI ?_
  repeat refine sq ?_
  refine bT (fun s:Nat=>[(13,⟨true,.v (vInt s)⟩)]) (fun s=>[]) (fun s=>s<=a.length/\uF a b s) (fun s=>a.length-s) 0 ?_ ?_ ?_ ?_
  ·exact⟨Nat.zero_le _,fun j _ _ h=>by omega⟩
  ·rfl
  ·rfl
  rintro i ⟨hi,hR⟩
  simp only[go_sem]
  repeat refine sq ?_
  refine rs hΓ [0,1,12,13,14] [] ?_
  repeat refine sq ?_
  refine ax (fun hb=>?_) fun hb=>?_
  ·have ab:i<a.length:=by simpa using hb
   have ao:(i:Int)<a.length:=by omega
   clear hb
   have pS:(i:Int)<b.length:=by omega
   have V9:i<b.length:=by omega
   repeat refine sq ?_
   refine aC ?_
   repeat refine sq ?_
   refine aI ?_
   repeat refine sq ?_
   refine rx hΓ [0,1,5,12,13] [] (fun K' hK=>by simp only[go_sem,ah ab,ah (show i<b.length by omega),ai,aj,ao,pS];exact fn) ?_
   repeat refine sq ?_
   refine dx hΓ hP [[],[],[0,1],[0,1,2],[],[],[4,5],[4,5,6],u8] [0,1,12,13,24] [] (by kernel_rfl) (fun K' hK=>by simp only[go_sem,ah ab,ah (show i<b.length by omega),ai,aj,ao,pS];exact fd) ?_
   repeat refine sq ?_
   refine ax (fun hb=>?_) fun hb=>?_
   ·repeat refine sq ?_
    have fA:a≠b:=by
     rintro rfl
     simp at hb
    repeat refine sq ?_
    refine rx hΓ [4] [] (fun K' hK=>by simp only[go_sem,ah ab,ah (show i<b.length by omega),ai,aj,ao,pS];exact fn) ?_
    refine av ?_
    simp only[go_sem]
    rw[decide_eq_false fA]
   ·repeat refine sq ?_
    refine aC ?_
    refine bA ?_
    simp only[go_sem]
    refine kp [0,1,12,13] [] ?_
    repeat refine sq ?_
    refine aS hΓ fun K' hK=>?_
    simp only[go_sem,ah ab,ah (show i<b.length by omega),ai,aj,ao,pS]
    repeat (refine⟨ob,?_⟩)
    refine hK _ ?_
    clear K' hK
    simp only[go_sem]
    refine⟨i+1,⟨ab,?_⟩,by(show a.length-(i+1)<a.length-i;omega),?_⟩
    ·exact FU hR fun _ _=>by simpa using hb
    refine bd [0,1,12,13] [] ?_ ?_<;>simp only[go_sem,aV ab hl,aY]
  ·have bj:i=a.length:=by
    have :¬ (i:Int)<a.length:=by simpa using hb
    omega
   clear hb
   subst bj
   repeat refine sq ?_
   refine bC ?_
   simp only[go_sem]
   refine kp [] [] ?_
   repeat refine sq ?_
   refine rs hΓ [4] [] ?_
   refine av ?_
   simp only[go_sem]
   rw[decide_eq_true (FV mD hR)]
def abd:List (Nat×Spec):=[(24,EJ)]
attribute [go_sem] abd
def K10:List (Nat×Spec):=[]
attribute [go_sem] K10
end
noncomputable section
theorem aT.conv{P:Program}{f:FuncId}{s s':PSpec}(h:aT P f s)(hf:s'.flat=s.flat)(hp:∀ xs,s'.pre xs->s.pre xs/\s'.fn xs=s.fn xs):aT P f s':=by
 refine⟨h.ne,h.enter,fun dU xs hx=>?_,fun m w xs args hm hx dg=>?_⟩
 ·rw[(hp xs hx).2];exact h.flat (hf▸dU) xs (hp xs hx).1
 ·rw[(hp xs dg).2];exact h.calls m w xs args hm hx (hp xs dg).1
theorem Zl(l:List Int):(l.map vInt).all tj=true:=by simp[tj]
def ES:PSpec:=p1 dZ (fun l=>l.length<=1000) (fun l=>.sl (l.map vInt)) false
def S179:Spec:=ES.toSpec
theorem UX:aF Tryz.prog 179 S179:=(aT.conv (s':=ES) (L3 L4 rfl) rfl (by
 intro xs hx
 obtain⟨l,rfl,hl,e⟩:=Bl hx
 exact⟨⟨_,rfl,Zl l,by simpa using hl⟩,e⟩)).sound
def S132:Spec:=oV Tryz.prog 29
theorem Jw:aF Tryz.prog 132 S132:=zD L8
attribute [go_sem] S132
def S176:Spec:=oV Tryz.prog 26
theorem U0:aF Tryz.prog 176 S176:=zD L7
attribute [go_sem] S176
def S177:Spec:=oV Tryz.prog 27
theorem UZ:aF Tryz.prog 177 S177:=zD L6
attribute [go_sem] S177
def S178:Spec:=oV Tryz.prog 28
theorem UY:aF Tryz.prog 178 S178:=zD L5
attribute [go_sem] S178
attribute [go_sem] S179 ES
def K11:List (Nat×Spec):=[(132,S132),(176,S176),(177,S177),(178,S178),(179,S179)]
theorem abb:KS K11:=tc Jw<|tc U0<|tc UZ<|tc UY<|tc UX<|tn
attribute [go_sem] K11
def xn(l:Led):Prop:=l.ps.length<=12/\l.rs.length<=60/\l.ts.length<=60/\l.ss.length<=60/\(∀ r∈l.rs,r.lv.length<=30)/\∀ r∈l.ts,r.lv.length<=30
def LW(l:Led):List (Name×O):=[([8,0],.arr 2 (l.ps.map db)),([11,0],.arr 7 (l.rs.map encR)),([14,0],.arr 8 (l.ts.map encT)),([17,0],.arr 7 (l.ss.map encS))]
def LX(l:Led):D:=.agg [.msl [8,0] l.ps.length,.msl [11,0] l.rs.length,.msl [14,0] l.ts.length,.msl [17,0] l.ss.length]
attribute [go_sem] LW LX
theorem GV(l:List Pap):∀ y∈l.map db,y.cells.length=2/\y.okc=true:=by
 intro y hy;obtain⟨x,_,rfl⟩:=List.mem_map.1 hy;exact⟨rfl,rfl⟩
theorem Bo(l:List Rec):∀ y∈l.map encR,y.cells.length=7/\y.okc=true:=by
 intro y hy;obtain⟨x,_,rfl⟩:=List.mem_map.1 hy;exact⟨rfl,rfl⟩
theorem GS(l:List Ret):∀ y∈l.map encT,y.cells.length=8/\y.okc=true:=by
 intro y hy;obtain⟨x,_,rfl⟩:=List.mem_map.1 hy;exact⟨rfl,rfl⟩
theorem GU(l:List Sig):∀ y∈l.map encS,y.cells.length=7/\y.okc=true:=by
 intro y hy;obtain⟨x,_,rfl⟩:=List.mem_map.1 hy;exact⟨rfl,rfl⟩
theorem GZ(l:List Int):∀ y∈l.map vInt,y.cells.length=1/\y.okc=true:=by
 intro y hy;obtain⟨x,_,rfl⟩:=List.mem_map.1 hy;exact⟨rfl,rfl⟩
theorem OF{l:List Rec}{i:Nat}(h:i<l.length):(l.map encR).set i (.agg [vInt l[i].so,vInt l[i].bo,vInt l[i].pa,.sl (l[i].lv.map vInt),vInt l[i].da,vInt l[i].kn,vInt l[i].un])=l.map encR:=by
 have e:(l.map encR).set i ((l.map encR)[i]'(by simpa using h))=l.map encR:=List.set_getElem_self _
 simpa[encR]using e
theorem OC{l:List Ret}{i:Nat}(h:i<l.length):(l.map encT).set i (.agg [vInt l[i].so,vInt l[i].re,vInt l[i].pe,.sl (l[i].lv.map vInt),vInt l[i].lo,vInt l[i].hi,vInt l[i].kn,vInt l[i].un])=l.map encT:=by
 have e:(l.map encT).set i ((l.map encT)[i]'(by simpa using h))=l.map encT:=List.set_getElem_self _
 simpa[encT]using e
theorem ak{p:Prop}(h:p:=by first | exact GV _ | exact Bo _ | exact GS _ | exact GU _ | exact GZ _ | ((repeat' apply And.intro)<;>first | rfl | omega | (unfold maxLen;omega) | trivial | decide | exact GV _ | exact Bo _ | exact GS _ | exact GU _ | exact GZ _) | exact ob):p:=h
theorem an{p:Prop}(h:p:=by(repeat (refine⟨ak,?_⟩));exact hK _ (by simp only[go_sem]) (by simp only[go_sem]<;>rfl)):p:=h
theorem oT{p:Prop}(h:p:=by(repeat (refine⟨ak,?_⟩));(first | refine⟨by rfl,?_⟩ | skip);exact hK _ (by simp only[go_sem]) (by simp only[go_sem]<;>rfl)):p:=h
def Am:NSpec:=n1 iL (fun l=>xn l) LW LX
def S86:Spec:=Am.toSpec
attribute [go_sem] Am S86
set_option maxHeartbeats 8000000 in
theorem UO:aF Tryz.prog 86 S86:=by
 refine xQ (nt:=58) (rs:=[.cell 2 31]) Tryz.func86 rfl (by rfl) (by kernel_rfl) (by kernel_rfl) (by decide) ?_
 intro xs hp
 obtain⟨l,rfl,hp,dT,dz⟩:=R0 hp
 replace dT:Am.new _=_:=dT
 replace dz:Am.d _=_:=dz
 rw[dT,dz]
 clear dT dz
 refine⟨lb rfl,?_⟩
 have hP:=eE
 simp only[iI,iB,dZ,iP,iR,iT,iS,iL,jT,cW,iC,iF,db,encR,encT,encS,fD,ey,List.map_cons,List.map_nil,cZ,Nat.zero_add]
 have hΓ:=abb
 obtain⟨yN,lB,pQ,CQ,yM,yL⟩:=hp
 have kL:l.rs.length<=maxLen:=by unfold maxLen;omega
 have gg:l.ts.length<=maxLen:=by unfold maxLen;omega
 repeat refine sq ?_
 refine rx hΓ [1,2] [[1,0],[2,0],[8,0],[11,0],[14,0],[17,0]] (fun K' hK=>by simp only[go_sem];exact an) ?_
 repeat refine sq ?_
 refine dx hΓ hP [[],[0],[0,1],[],[3],u5,[],[6],u8,[],[9],fm,fM,[],ji] [2,3] [[2,0],[3,0],[8,0],[11,0],[14,0],[17,0]] (by kernel_rfl) (fun K' hK=>by simp only[go_sem];exact oT) ?_
 repeat refine sq ?_
 refine rx hΓ [2,3,21,22] [[2,0],[3,0],[8,0],[11,0],[14,0],[17,0]] (fun K' hK=>by simp only[go_sem];exact an) ?_
 repeat refine sq ?_
 refine aI ?_
 repeat refine sq ?_
 refine bT (fun s:Nat=>[(22,⟨true,.v (vInt s)⟩)]) (fun s=>[]) (fun s=>s<=l.rs.length) (fun s=>l.rs.length-s) 0 ?_ ?_ ?_ ?_
 ·exact Nat.zero_le _
 ·rfl
 ·rfl
 rintro i hi
 simp only[go_sem]
 repeat refine sq ?_
 refine rx hΓ [2,3,21,22,23] [[2,0],[3,0],[8,0],[11,0],[14,0],[17,0]] (fun K' hK=>by simp only[go_sem];exact an) ?_
 repeat refine sq ?_
 refine ax (fun hb=>?_) fun hb=>?_
 ·have ab:i<l.rs.length:=by simpa using hb
  have ao:(i:Int)<l.rs.length:=by omega
  clear hb
  have C1:=yM l.rs[i] (List.getElem_mem ab)
  repeat refine sq ?_
  refine aC ?_
  repeat refine sq ?_
  refine aI ?_
  repeat refine sq ?_
  refine rx hΓ [2,3,4,21,22] [[2,0],[3,0],[8,0],[11,0],[14,0],[17,0]] (fun K' hK=>by simp only[go_sem,ah ab,ai,aj,ao];exact an) ?_
  repeat refine sq ?_
  refine mO hΓ hP [[],[0],[],[],[3],[],[3,4,5],[3,4,5,6],[3,4,5,6,7],[3,4,5,6,7,8],dq,fm,fM] (by kernel_rfl) fun K' hK=>?_
  simp only[go_sem,ah ab,ai,aj,ao]
  repeat (refine⟨ak,?_⟩)
  first | refine⟨by rfl,?_⟩ | skip
  refine hK _ ?_
  clear K' hK
  simp only[go_sem]
  refine kp [2,3,21,22] [[2,0],[3,0],[8,0],[11,0],[14,0],[17,0]] ?_
  repeat refine sq ?_
  refine aS hΓ fun K' hK=>?_
  simp only[go_sem,ah ab,ai,aj,ao]
  repeat (refine⟨ak,?_⟩)
  refine hK _ ?_
  clear K' hK
  simp only[go_sem]
  refine⟨i+1,ab,by(show l.rs.length-(i+1)<l.rs.length-i;omega),?_⟩
  refine bd [2,3,21,22] [[2,0],[3,0],[8,0],[11,0],[14,0],[17,0]] ?_ ?_<;>simp only[go_sem,aV ab kL,aY,OF ab]
 ·have bj:i=l.rs.length:=by
   have :¬ (i:Int)<l.rs.length:=by simpa using hb
   omega
  clear hb
  subst bj
  repeat refine sq ?_
  refine bC ?_
  simp only[go_sem]
  refine kp [2,3] [[2,0],[3,0],[8,0],[11,0],[14,0],[17,0]] ?_
  repeat refine sq ?_
  refine rx hΓ [2,3,40,41] [[2,0],[3,0],[8,0],[11,0],[14,0],[17,0]] (fun K' hK=>by simp only[go_sem];exact an) ?_
  repeat refine sq ?_
  refine aI ?_
  repeat refine sq ?_
  refine bT (fun s:Nat=>[(41,⟨true,.v (vInt s)⟩)]) (fun s=>[]) (fun s=>s<=l.ts.length) (fun s=>l.ts.length-s) 0 ?_ ?_ ?_ ?_
  ·exact Nat.zero_le _
  ·rfl
  ·rfl
  rintro i hi
  simp only[go_sem]
  repeat refine sq ?_
  refine rx hΓ [2,3,40,41,42] [[2,0],[3,0],[8,0],[11,0],[14,0],[17,0]] (fun K' hK=>by simp only[go_sem];exact an) ?_
  repeat refine sq ?_
  refine ax (fun hb=>?_) fun hb=>?_
  ·have aJ:i<l.ts.length:=by simpa using hb
   have bq:(i:Int)<l.ts.length:=by omega
   clear hb
   have C1:=yL l.ts[i] (List.getElem_mem aJ)
   repeat refine sq ?_
   refine aC ?_
   repeat refine sq ?_
   refine aI ?_
   repeat refine sq ?_
   refine rx hΓ [2,3,5,40,41] [[2,0],[3,0],[8,0],[11,0],[14,0],[17,0]] (fun K' hK=>by simp only[go_sem,ah aJ,ai,aj,bq];exact an) ?_
   repeat refine sq ?_
   refine mO hΓ hP [[],[0],[],[],[3],[],[3,4,5],[3,4,5,6],[3,4,5,6,7],[3,4,5,6,7,8],dq,fm,fM] (by kernel_rfl) fun K' hK=>?_
   simp only[go_sem,ah aJ,ai,aj,bq]
   repeat (refine⟨ak,?_⟩)
   first | refine⟨by rfl,?_⟩ | skip
   refine hK _ ?_
   clear K' hK
   simp only[go_sem]
   refine kp [2,3,40,41] [[2,0],[3,0],[8,0],[11,0],[14,0],[17,0]] ?_
   repeat refine sq ?_
   refine aS hΓ fun K' hK=>?_
   simp only[go_sem,ah aJ,ai,aj,bq]
   repeat (refine⟨ak,?_⟩)
   refine hK _ ?_
   clear K' hK
   simp only[go_sem]
   refine⟨i+1,aJ,by(show l.ts.length-(i+1)<l.ts.length-i;omega),?_⟩
   refine bd [2,3,40,41] [[2,0],[3,0],[8,0],[11,0],[14,0],[17,0]] ?_ ?_<;>simp only[go_sem,aV aJ gg,aY,OC aJ]
  ·have gz:i=l.ts.length:=by
    have :¬ (i:Int)<l.ts.length:=by simpa using hb
    omega
   clear hb
   subst gz
   repeat refine sq ?_
   refine bC ?_
   simp only[go_sem]
   refine kp [2,3] [[2,0],[3,0],[8,0],[11,0],[14,0],[17,0]] ?_
   repeat refine sq ?_
   refine rx hΓ [2] [[2,0],[8,0],[11,0],[14,0],[17,0]] (fun K' hK=>by simp only[go_sem];exact an) ?_
   refine av ?_
   simp only[go_sem]
   skip
end
set_option maxHeartbeats 8000000
noncomputable section
theorem Fw{α β:Type}{f:α->β}{l:List α}{i:Nat}(h:i<l.length):(l.take (i+1)).map f=(l.take i).map f++[f l[i]]:=by
 rw[List.take_add_one,List.getElem?_eq_getElem h]
 simp only[List.map_append,Option.toList_some,List.map_cons,List.map_nil]
@[go_sem] def P95:PSpec:=p1 iL (fun l=>xn l) (fun l=>fD l) false
@[go_sem] def M1:Spec:=P95.toSpec
theorem O7:aT Tryz.prog 95 P95:=by
 refine fI (rs:=[.cell 2 31]) Tryz.func95 Tryz.ntmps95 fun l hp hw=>?_
 have hP:=eE
 simp only[iL,fD]at hw |-
 have hΓ:=@dI Tryz.prog
 obtain⟨yN,lB,pQ,CQ,yM,yL⟩:=hp
 have kL:l.rs.length<=maxLen:=by unfold maxLen;omega
 have gg:l.ts.length<=maxLen:=by unfold maxLen;omega
 repeat refine sq ?_
 refine rx hΓ [1,2] [[1,0],[2,0],[11,0],[15,0],[38,0],[61,0]] (fun K' hK=>by simp only[go_sem];exact an) ?_
 repeat refine sq ?_
 refine dx hΓ hP [[],[],[1],[0,1,2],[],[],[5],u7,u8,[],dq] [1,2,3] [[1,0],[2,0],[3,0],[11,0],[15,0],[38,0],[61,0]] (by kernel_rfl) (fun K' hK=>by simp only[go_sem];exact oT) ?_
 refine bG (jH [3,0] [38,0] 1 7 _ rfl rfl rfl [1,2,3] [[1,0],[2,0],[3,0],[11,0],[15,0],[38,0],[61,0]] ?_ rfl) ?_
 ·simp only[go_sem,List.set_cons_succ,List.set_cons_zero]
 simp only[go_sem,List.set_cons_succ,List.set_cons_zero]
 refine bG (jH [3,0] [61,0] 2 8 _ rfl rfl rfl [1,2,3] [[1,0],[2,0],[3,0],[11,0],[15,0],[38,0],[61,0]] ?_ rfl) ?_
 ·simp only[go_sem,List.set_cons_succ,List.set_cons_zero]
 simp only[go_sem,List.set_cons_succ,List.set_cons_zero]
 repeat refine sq ?_
 refine rx hΓ [1,2,3,4] [[1,0],[2,0],[3,0],[11,0],[15,0],[38,0],[61,0]] (fun K' hK=>by simp only[go_sem];exact an) ?_
 repeat refine sq ?_
 refine aI ?_
 repeat refine sq ?_
 refine bT (fun s:Nat=>[(4,⟨true,.v (vInt s)⟩)]) (fun s=>[([3,0],.box [.msl [11,0] l.ps.length,.msl [38,0] s,.msl [61,0] 0,.msl [15,0] l.ss.length]),([38,0],.arr 7 ((l.rs.take s).map encR))]) (fun s=>s<=l.rs.length) (fun s=>l.rs.length-s) 0 ?_ ?_ ?_ ?_
 ·exact Nat.zero_le _
 ·rfl
 ·rfl
 rintro i hi
 simp only[go_sem]
 repeat refine sq ?_
 refine rx hΓ [1,2,3,4,21] [[1,0],[2,0],[3,0],[11,0],[15,0],[38,0],[61,0]] (fun K' hK=>by simp only[go_sem];exact an) ?_
 repeat refine sq ?_
 refine ax (fun hb=>?_) fun hb=>?_
 ·have ab:i<l.rs.length:=by simpa using hb
  have ao:(i:Int)<l.rs.length:=by omega
  clear hb
  have C1:=yM l.rs[i] (List.getElem_mem ab)
  have CV:min i l.rs.length=i:=by omega
  repeat refine sq ?_
  refine aC ?_
  repeat refine sq ?_
  refine aI ?_
  repeat refine sq ?_
  refine rx hΓ [1,2,3,4,5] [[1,0],[2,0],[3,0],[5,0],[11,0],[15,0],[32,0],[38,0],[61,0]] (fun K' hK=>by simp only[go_sem,ah ab,ai,aj,ao];exact an) ?_
  repeat refine sq ?_
  refine rx hΓ [1,2,3,4,5] [[1,0],[2,0],[3,0],[5,0],[11,0],[15,0],[32,0],[38,0],[61,0]] (fun K' hK=>by simp only[go_sem,ah ab,ai,aj,ao];exact an) ?_
  repeat refine sq ?_
  refine aS hΓ fun K' hK=>?_
  simp only[go_sem,ah ab,ai,aj,ao]
  repeat (refine⟨ak,?_⟩)
  refine hK _ ?_
  clear K' hK
  simp only[go_sem]
  refine kp [1,2,3,4] [[1,0],[2,0],[3,0],[11,0],[15,0],[38,0],[61,0]] ?_
  repeat refine sq ?_
  refine aS hΓ fun K' hK=>?_
  simp only[go_sem,ah ab,ai,aj,ao]
  repeat (refine⟨ak,?_⟩)
  refine hK _ ?_
  clear K' hK
  simp only[go_sem]
  refine⟨i+1,ab,by(show l.rs.length-(i+1)<l.rs.length-i;omega),?_⟩
  refine bd [1,2,3,4] [[1,0],[2,0],[3,0],[11,0],[15,0],[38,0],[61,0]] ?_ ?_<;>simp only[go_sem,aV ab kL,aY,Fw ab,List.length_take,CV]
 ·have bj:i=l.rs.length:=by
   have :¬ (i:Int)<l.rs.length:=by simpa using hb
   omega
  clear hb
  subst bj
  repeat refine sq ?_
  refine bC ?_
  simp only[go_sem]
  refine kp [1,2,3] [[1,0],[2,0],[3,0],[11,0],[15,0],[38,0],[61,0]] ?_
  repeat refine sq ?_
  refine rx hΓ [1,2,3,6] [[1,0],[2,0],[3,0],[11,0],[15,0],[38,0],[61,0]] (fun K' hK=>by simp only[go_sem];exact an) ?_
  repeat refine sq ?_
  refine aI ?_
  repeat refine sq ?_
  refine bT (fun s:Nat=>[(6,⟨true,.v (vInt s)⟩)]) (fun s=>[([3,0],.box [.msl [11,0] l.ps.length,.msl [38,0] l.rs.length,.msl [61,0] s,.msl [15,0] l.ss.length]),([61,0],.arr 8 ((l.ts.take s).map encT))]) (fun s=>s<=l.ts.length) (fun s=>l.ts.length-s) 0 ?_ ?_ ?_ ?_
  ·exact Nat.zero_le _
  ·rfl
  ·rfl
  rintro i hi
  simp only[go_sem]
  repeat refine sq ?_
  refine rx hΓ [1,2,3,6,44] [[1,0],[2,0],[3,0],[11,0],[15,0],[38,0],[61,0]] (fun K' hK=>by simp only[go_sem];exact an) ?_
  repeat refine sq ?_
  refine ax (fun hb=>?_) fun hb=>?_
  ·have aJ:i<l.ts.length:=by simpa using hb
   have bq:(i:Int)<l.ts.length:=by omega
   clear hb
   have C1:=yL l.ts[i] (List.getElem_mem aJ)
   have CV:min i l.ts.length=i:=by omega
   repeat refine sq ?_
   refine aC ?_
   repeat refine sq ?_
   refine aI ?_
   repeat refine sq ?_
   refine rx hΓ [1,2,3,6,7] [[1,0],[2,0],[3,0],[7,0],[11,0],[15,0],[38,0],[55,0],[61,0]] (fun K' hK=>by simp only[go_sem,ah aJ,ai,aj,bq];exact an) ?_
   repeat refine sq ?_
   refine rx hΓ [1,2,3,6,7] [[1,0],[2,0],[3,0],[7,0],[11,0],[15,0],[38,0],[55,0],[61,0]] (fun K' hK=>by simp only[go_sem,ah aJ,ai,aj,bq];exact an) ?_
   repeat refine sq ?_
   refine aS hΓ fun K' hK=>?_
   simp only[go_sem,ah aJ,ai,aj,bq]
   repeat (refine⟨ak,?_⟩)
   refine hK _ ?_
   clear K' hK
   simp only[go_sem]
   refine kp [1,2,3,6] [[1,0],[2,0],[3,0],[11,0],[15,0],[38,0],[61,0]] ?_
   repeat refine sq ?_
   refine aS hΓ fun K' hK=>?_
   simp only[go_sem,ah aJ,ai,aj,bq]
   repeat (refine⟨ak,?_⟩)
   refine hK _ ?_
   clear K' hK
   simp only[go_sem]
   refine⟨i+1,aJ,by(show l.ts.length-(i+1)<l.ts.length-i;omega),?_⟩
   refine bd [1,2,3,6] [[1,0],[2,0],[3,0],[11,0],[15,0],[38,0],[61,0]] ?_ ?_<;>simp only[go_sem,aV aJ gg,aY,Fw aJ,List.length_take,CV]
  ·have gz:i=l.ts.length:=by
    have :¬ (i:Int)<l.ts.length:=by simpa using hb
    omega
   clear hb
   subst gz
   repeat refine sq ?_
   refine bC ?_
   simp only[go_sem]
   refine kp [2,3] [[2,0],[3,0],[11,0],[15,0],[38,0],[61,0]] ?_
   repeat refine sq ?_
   refine rx hΓ [2] [[2,0],[11,0],[15,0],[38,0],[61,0]] (fun K' hK=>by simp only[go_sem,List.take_length];exact an) ?_
   refine av ?_
   simp only[go_sem]
   all_goals exact dp
def er:En (Nat×Int):=⟨fun g=>.clo (.func g.1) [] [.ptr [vInt g.2]],fun v=>match v with | .clo (.func g) _ [.ptr [.int _ s]]=>(g,s) | _=>default⟩
def ib:En Int:=⟨fun s=>.ptr [vInt s],fun v=>match v with | .ptr [.int _ s]=>s | _=>0⟩
attribute [go_sem] er ib
@[go_sem] def P171:PSpec:=p2 iR ib (fun _ _=>True) (fun x s=>.bool (x.so==s)) true
@[go_sem] def S171:Spec:=P171.toSpec
theorem PN:aT Tryz.prog 171 P171:=by
 refine cV (rs:=[.tmp 3]) Tryz.func171 Tryz.ntmps171 fun x s hp hw=>?_
 simp only[ib,iR,encR]at hw |-
 have hΓ:=@dI Tryz.prog
 repeat refine sq ?_
 refine rx hΓ [1,2] [[2,0]] (fun K' hK=>by simp only[go_sem];exact an) ?_
 repeat refine sq ?_
 refine rx hΓ [3] [] (fun K' hK=>by simp only[go_sem];exact an) ?_
 refine av ?_
 simp only[go_sem]
 all_goals exact dp
@[go_sem] def P173:PSpec:=p2 iT ib (fun _ _=>True) (fun x s=>.bool (x.so==s)) true
@[go_sem] def S173:Spec:=P173.toSpec
theorem PL:aT Tryz.prog 173 P173:=by
 refine cV (rs:=[.tmp 3]) Tryz.func173 Tryz.ntmps173 fun x s hp hw=>?_
 simp only[ib,iT,encT]at hw |-
 have hΓ:=@dI Tryz.prog
 repeat refine sq ?_
 refine rx hΓ [1,2] [[2,0]] (fun K' hK=>by simp only[go_sem];exact an) ?_
 repeat refine sq ?_
 refine rx hΓ [3] [] (fun K' hK=>by simp only[go_sem];exact an) ?_
 refine av ?_
 simp only[go_sem]
 all_goals exact dp
@[go_sem] def P175:PSpec:=p2 iS ib (fun _ _=>True) (fun x s=>.bool (x.so==s)) true
@[go_sem] def S175:Spec:=P175.toSpec
theorem PJ:aT Tryz.prog 175 P175:=by
 refine cV (rs:=[.tmp 3]) Tryz.func175 Tryz.ntmps175 fun x s hp hw=>?_
 simp only[ib,iS,encS]at hw |-
 have hΓ:=@dI Tryz.prog
 repeat refine sq ?_
 refine rx hΓ [1,2] [[2,0]] (fun K' hK=>by simp only[go_sem];exact an) ?_
 repeat refine sq ?_
 refine rx hΓ [3] [] (fun K' hK=>by simp only[go_sem];exact an) ?_
 refine av ?_
 simp only[go_sem]
 all_goals exact dp
@[go_sem] def P167:PSpec:=p2 iR ib (fun _ _=>True) (fun x s=>.bool (x.so==s)) true
@[go_sem] def Nc:Spec:=P167.toSpec
theorem PS:aT Tryz.prog 167 P167:=by
 refine cV (rs:=[.tmp 3]) Tryz.func167 Tryz.ntmps167 fun x s hp hw=>?_
 simp only[ib,iR,encR]at hw |-
 have hΓ:=@dI Tryz.prog
 repeat refine sq ?_
 refine rx hΓ [1,2] [[2,0]] (fun K' hK=>by simp only[go_sem];exact an) ?_
 repeat refine sq ?_
 refine rx hΓ [3] [] (fun K' hK=>by simp only[go_sem];exact an) ?_
 refine av ?_
 simp only[go_sem]
 all_goals exact dp
@[go_sem] def P88:PSpec:=p2 iR ib (fun _ _=>True) (fun x s=>.bool (x.so==s)) true
@[go_sem] def ZC:Spec:=P88.toSpec
theorem Pc:aT Tryz.prog 88 P88:=by
 refine cV (rs:=[.tmp 3]) Tryz.func88 Tryz.ntmps88 fun x s hp hw=>?_
 simp only[ib,iR,encR]at hw |-
 have hΓ:=@dI Tryz.prog
 repeat refine sq ?_
 refine rx hΓ [1,2] [[2,0]] (fun K' hK=>by simp only[go_sem];exact an) ?_
 repeat refine sq ?_
 refine rx hΓ [3] [] (fun K' hK=>by simp only[go_sem];exact an) ?_
 refine av ?_
 simp only[go_sem]
 all_goals exact dp
@[go_sem] def P90:PSpec:=p2 iT ib (fun _ _=>True) (fun x s=>.bool (x.so==s)) true
@[go_sem] def ZB:Spec:=P90.toSpec
theorem Pb:aT Tryz.prog 90 P90:=by
 refine cV (rs:=[.tmp 3]) Tryz.func90 Tryz.ntmps90 fun x s hp hw=>?_
 simp only[ib,iT,encT]at hw |-
 have hΓ:=@dI Tryz.prog
 repeat refine sq ?_
 refine rx hΓ [1,2] [[2,0]] (fun K' hK=>by simp only[go_sem];exact an) ?_
 repeat refine sq ?_
 refine rx hΓ [3] [] (fun K' hK=>by simp only[go_sem];exact an) ?_
 refine av ?_
 simp only[go_sem]
 all_goals exact dp
@[go_sem] def P92:PSpec:=p2 iS ib (fun _ _=>True) (fun x s=>.bool (x.so==s)) true
@[go_sem] def ZA:Spec:=P92.toSpec
theorem O':aT Tryz.prog 92 P92:=by
 refine cV (rs:=[.tmp 3]) Tryz.func92 Tryz.ntmps92 fun x s hp hw=>?_
 simp only[ib,iS,encS]at hw |-
 have hΓ:=@dI Tryz.prog
 repeat refine sq ?_
 refine rx hΓ [1,2] [[2,0]] (fun K' hK=>by simp only[go_sem];exact an) ?_
 repeat refine sq ?_
 refine rx hΓ [3] [] (fun K' hK=>by simp only[go_sem];exact an) ?_
 refine av ?_
 simp only[go_sem]
 all_goals exact dp
def bY{α:Type}(p:α->Bool)(l:List α):Int:=if l.any p then(l.findIdx p:Int)else -1
theorem mi{α:Type}{p:α->Bool}{l:List α}{i:Nat}(h:i<l.length)(hp:p l[i]=true)(hn:∀ k (hk:k<l.length),k<i->p l[k]=false):bY p l=i:=by
 unfold bY
 rw[if_pos (List.any_eq_true.2 ⟨_,List.getElem_mem h,hp⟩)]
 congr 1
 rw[List.findIdx_eq h]
 exact⟨hp,fun j hj=>hn j (by omega) hj⟩
theorem oz{α:Type}{p:α->Bool}{l:List α}(hn:∀ k (hk:k<l.length),p l[k]=false):bY p l= -1:=by
 unfold bY
 rw[if_neg]
 intro h
 obtain⟨x,hx,hp⟩:=List.any_eq_true.1 h
 obtain⟨k,hk,rfl⟩:=List.getElem_of_mem hx
 rw[hn k hk]at hp;cases hp
theorem pH{α:Type}(p:α->Bool)(l:List α):decide (bY p l>=0)=l.any p:=by
 unfold bY
 cases l.any p with
 |true=>simp
 |false=>simp
def K12a:List (Nat×Spec):=[(171,S171),(173,S173),(175,S175),(167,Nc)]
theorem aa':KS K12a:=tc PN.sound<|tc PL.sound<|tc PJ.sound<|tc PS.sound<|tn
attribute [go_sem] K12a
def Au:FuncId->Option Spec:=tbl K12a
theorem E3:∀ f s,Au f=some s->aF Tryz.prog f s:=aa'
@[go_sem] theorem aeN:Nc=S171:=rfl
@[go_sem] def P166:PSpec:=p2 (cW iR) er (fun _ g=>g.1=171\/g.1=167) (fun l g=>vInt (bY (fun x=>Rec.so x==g.2) l)) true
@[go_sem] def Nd:Spec:=P166.toSpec
theorem F2:aT Tryz.prog 166 P166:=by
 refine cV (rs:=[.tmp 4]) Tryz.func166 Tryz.ntmps166 fun l g hp hw=>?_
 simp only[er,iR,cW,encR]at hw |-
 have hΓ:=E3
 have hl:l.length<=maxLen:=by have:=hw.1.1;simpa using this
 obtain⟨g,s_⟩:=g
 try simp only[er]at hw hp |-
 have hg:Au g=some S171:=by rcases hp with rfl | rfl<;>rfl
 have vQ:¬ g=1000000000:=by omega
 repeat refine sq ?_
 refine rx hΓ [0,1] [] (fun K' hK=>by simp only[go_sem];exact an) ?_
 repeat refine sq ?_
 refine rx hΓ [0,1,7,8] [] (fun K' hK=>by simp only[go_sem];exact an) ?_
 repeat refine sq ?_
 refine aI ?_
 repeat refine sq ?_
 refine bT (fun s:Nat=>[(8,⟨true,.v (vInt s)⟩)]) (fun s=>[]) (fun s=>s<=l.length/\∀ k (h:k<l.length),k<s->(fun x:Rec=>Rec.so x==s_) l[k]=false) (fun s=>l.length-s) 0 ?_ ?_ ?_ ?_
 ·exact⟨Nat.zero_le _,by simp⟩
 ·rfl
 ·rfl
 rintro i ⟨hi,hR⟩
 simp only[go_sem]
 repeat refine sq ?_
 refine rx hΓ [0,1,7,8,9] [] (fun K' hK=>by simp only[go_sem];exact an) ?_
 repeat refine sq ?_
 refine ax (fun hb=>?_) fun hb=>?_
 ·have ab:i<l.length:=by simpa using hb
  have ao:(i:Int)<l.length:=by omega
  clear hb
  repeat refine sq ?_
  refine aC ?_
  repeat refine sq ?_
  refine aI ?_
  repeat refine sq ?_
  refine rx hΓ [0,1,5,7,8] [] (fun K' hK=>by simp only[go_sem,ah ab,ai,aj,ao];exact an) ?_
  repeat refine sq ?_
  refine rx hΓ [0,1,5,7,8,16] [] (fun K' hK=>by simp only[go_sem,ah ab,ai,aj,ao,hg,vQ];exact an) ?_
  repeat refine sq ?_
  refine ax (fun hb=>?_) fun hb=>?_
  ·repeat refine sq ?_
   refine rx hΓ [4] [] (fun K' hK=>by simp only[go_sem,ah ab,ai,aj,ao];exact an) ?_
   refine av ?_
   simp only[go_sem]
   rw[mi (p:=fun x=>Rec.so x==s_) ab (by simpa using hb) hR]
  ·repeat refine sq ?_
   refine aC ?_
   refine bA ?_
   simp only[go_sem]
   refine kp [0,1,7,8] [] ?_
   repeat refine sq ?_
   refine aS hΓ fun K' hK=>?_
   simp only[go_sem,ah ab,ai,aj,ao]
   repeat (refine⟨ak,?_⟩)
   refine hK _ ?_
   clear K' hK
   simp only[go_sem]
   refine⟨i+1,⟨ab,?_⟩,by(show l.length-(i+1)<l.length-i;omega),?_⟩
   ·intro k hk cS
    rcases Nat.lt_succ_iff_lt_or_eq.1 cS with h5 | rfl
    ·exact hR k hk h5
    ·simpa using hb
   refine bd [0,1,7,8] [] ?_ ?_<;>simp only[go_sem,aV ab hl,aY]
 ·have bj:i=l.length:=by
   have :¬ (i:Int)<l.length:=by simpa using hb
   omega
  clear hb
  subst bj
  repeat refine sq ?_
  refine bC ?_
  simp only[go_sem]
  refine kp [] [] ?_
  repeat refine sq ?_
  refine rx hΓ [4] [] (fun K' hK=>by simp only[go_sem];exact an) ?_
  refine av ?_
  simp only[go_sem]
  rw[oz (p:=fun x=>Rec.so x==s_) fun k hk=>hR k hk hk]
@[go_sem] def P180:PSpec:=p2 (cW iT) er (fun _ g=>g.1=173) (fun l g=>vInt (bY (fun x=>Ret.so x==g.2) l)) true
@[go_sem] def ZR:Spec:=P180.toSpec
theorem PH:aT Tryz.prog 180 P180:=by
 refine cV (rs:=[.tmp 4]) Tryz.func180 Tryz.ntmps180 fun l g hp hw=>?_
 simp only[er,cW,iT,encT]at hw |-
 have hΓ:=E3
 have hl:l.length<=maxLen:=by have:=hw.1.1;simpa using this
 obtain⟨g,s_⟩:=g
 try simp only[er]at hw hp |-
 have hg:Au g=some S173:=by subst hp;rfl
 have vQ:¬ g=1000000000:=by omega
 repeat refine sq ?_
 refine rx hΓ [0,1] [] (fun K' hK=>by simp only[go_sem];exact an) ?_
 repeat refine sq ?_
 refine rx hΓ [0,1,7,8] [] (fun K' hK=>by simp only[go_sem];exact an) ?_
 repeat refine sq ?_
 refine aI ?_
 repeat refine sq ?_
 refine bT (fun s:Nat=>[(8,⟨true,.v (vInt s)⟩)]) (fun s=>[]) (fun s=>s<=l.length/\∀ k (h:k<l.length),k<s->(fun x:Ret=>Ret.so x==s_) l[k]=false) (fun s=>l.length-s) 0 ?_ ?_ ?_ ?_
 ·exact⟨Nat.zero_le _,by simp⟩
 ·rfl
 ·rfl
 rintro i ⟨hi,hR⟩
 simp only[go_sem]
 repeat refine sq ?_
 refine rx hΓ [0,1,7,8,9] [] (fun K' hK=>by simp only[go_sem];exact an) ?_
 repeat refine sq ?_
 refine ax (fun hb=>?_) fun hb=>?_
 ·have ab:i<l.length:=by simpa using hb
  have ao:(i:Int)<l.length:=by omega
  clear hb
  repeat refine sq ?_
  refine aC ?_
  repeat refine sq ?_
  refine aI ?_
  repeat refine sq ?_
  refine rx hΓ [0,1,5,7,8] [] (fun K' hK=>by simp only[go_sem,ah ab,ai,aj,ao];exact an) ?_
  repeat refine sq ?_
  refine rx hΓ [0,1,5,7,8,16] [] (fun K' hK=>by simp only[go_sem,ah ab,ai,aj,ao,hg,vQ];exact an) ?_
  repeat refine sq ?_
  refine ax (fun hb=>?_) fun hb=>?_
  ·repeat refine sq ?_
   refine rx hΓ [4] [] (fun K' hK=>by simp only[go_sem,ah ab,ai,aj,ao];exact an) ?_
   refine av ?_
   simp only[go_sem]
   rw[mi (p:=fun x=>Ret.so x==s_) ab (by simpa using hb) hR]
  ·repeat refine sq ?_
   refine aC ?_
   refine bA ?_
   simp only[go_sem]
   refine kp [0,1,7,8] [] ?_
   repeat refine sq ?_
   refine aS hΓ fun K' hK=>?_
   simp only[go_sem,ah ab,ai,aj,ao]
   repeat (refine⟨ak,?_⟩)
   refine hK _ ?_
   clear K' hK
   simp only[go_sem]
   refine⟨i+1,⟨ab,?_⟩,by(show l.length-(i+1)<l.length-i;omega),?_⟩
   ·intro k hk cS
    rcases Nat.lt_succ_iff_lt_or_eq.1 cS with h5 | rfl
    ·exact hR k hk h5
    ·simpa using hb
   refine bd [0,1,7,8] [] ?_ ?_<;>simp only[go_sem,aV ab hl,aY]
 ·have bj:i=l.length:=by
   have :¬ (i:Int)<l.length:=by simpa using hb
   omega
  clear hb
  subst bj
  repeat refine sq ?_
  refine bC ?_
  simp only[go_sem]
  refine kp [] [] ?_
  repeat refine sq ?_
  refine rx hΓ [4] [] (fun K' hK=>by simp only[go_sem];exact an) ?_
  refine av ?_
  simp only[go_sem]
  rw[oz (p:=fun x=>Ret.so x==s_) fun k hk=>hR k hk hk]
@[go_sem] def P181:PSpec:=p2 (cW iS) er (fun _ g=>g.1=175) (fun l g=>vInt (bY (fun x=>Sig.so x==g.2) l)) true
@[go_sem] def ZQ:Spec:=P181.toSpec
theorem PG:aT Tryz.prog 181 P181:=by
 refine cV (rs:=[.tmp 4]) Tryz.func181 Tryz.ntmps181 fun l g hp hw=>?_
 simp only[er,iS,cW,encS]at hw |-
 have hΓ:=E3
 have hl:l.length<=maxLen:=by have:=hw.1.1;simpa using this
 obtain⟨g,s_⟩:=g
 try simp only[er]at hw hp |-
 have hg:Au g=some S175:=by subst hp;rfl
 have vQ:¬ g=1000000000:=by omega
 repeat refine sq ?_
 refine rx hΓ [0,1] [] (fun K' hK=>by simp only[go_sem];exact an) ?_
 repeat refine sq ?_
 refine rx hΓ [0,1,7,8] [] (fun K' hK=>by simp only[go_sem];exact an) ?_
 repeat refine sq ?_
 refine aI ?_
 repeat refine sq ?_
 refine bT (fun s:Nat=>[(8,⟨true,.v (vInt s)⟩)]) (fun s=>[]) (fun s=>s<=l.length/\∀ k (h:k<l.length),k<s->(fun x:Sig=>Sig.so x==s_) l[k]=false) (fun s=>l.length-s) 0 ?_ ?_ ?_ ?_
 ·exact⟨Nat.zero_le _,by simp⟩
 ·rfl
 ·rfl
 rintro i ⟨hi,hR⟩
 simp only[go_sem]
 repeat refine sq ?_
 refine rx hΓ [0,1,7,8,9] [] (fun K' hK=>by simp only[go_sem];exact an) ?_
 repeat refine sq ?_
 refine ax (fun hb=>?_) fun hb=>?_
 ·have ab:i<l.length:=by simpa using hb
  have ao:(i:Int)<l.length:=by omega
  clear hb
  repeat refine sq ?_
  refine aC ?_
  repeat refine sq ?_
  refine aI ?_
  repeat refine sq ?_
  refine rx hΓ [0,1,5,7,8] [] (fun K' hK=>by simp only[go_sem,ah ab,ai,aj,ao];exact an) ?_
  repeat refine sq ?_
  refine rx hΓ [0,1,5,7,8,16] [] (fun K' hK=>by simp only[go_sem,ah ab,ai,aj,ao,hg,vQ];exact an) ?_
  repeat refine sq ?_
  refine ax (fun hb=>?_) fun hb=>?_
  ·repeat refine sq ?_
   refine rx hΓ [4] [] (fun K' hK=>by simp only[go_sem,ah ab,ai,aj,ao];exact an) ?_
   refine av ?_
   simp only[go_sem]
   rw[mi (p:=fun x=>Sig.so x==s_) ab (by simpa using hb) hR]
  ·repeat refine sq ?_
   refine aC ?_
   refine bA ?_
   simp only[go_sem]
   refine kp [0,1,7,8] [] ?_
   repeat refine sq ?_
   refine aS hΓ fun K' hK=>?_
   simp only[go_sem,ah ab,ai,aj,ao]
   repeat (refine⟨ak,?_⟩)
   refine hK _ ?_
   clear K' hK
   simp only[go_sem]
   refine⟨i+1,⟨ab,?_⟩,by(show l.length-(i+1)<l.length-i;omega),?_⟩
   ·intro k hk cS
    rcases Nat.lt_succ_iff_lt_or_eq.1 cS with h5 | rfl
    ·exact hR k hk h5
    ·simpa using hb
   refine bd [0,1,7,8] [] ?_ ?_<;>simp only[go_sem,aV ab hl,aY]
 ·have bj:i=l.length:=by
   have :¬ (i:Int)<l.length:=by simpa using hb
   omega
  clear hb
  subst bj
  repeat refine sq ?_
  refine bC ?_
  simp only[go_sem]
  refine kp [] [] ?_
  repeat refine sq ?_
  refine rx hΓ [4] [] (fun K' hK=>by simp only[go_sem];exact an) ?_
  refine av ?_
  simp only[go_sem]
  rw[oz (p:=fun x=>Sig.so x==s_) fun k hk=>hR k hk hk]
def K12b:List (Nat×Spec):=[(166,Nd),(180,ZR),(181,ZQ)]
theorem E4:KS K12b:=tc F2.sound<|tc PH.sound<|tc PG.sound<|tn
attribute [go_sem] K12b
@[go_sem] def P170:PSpec:=p2 (cW iR) er (fun _ g=>g.1=171) (fun l g=>.bool (l.any fun x=>Rec.so x==g.2)) true
@[go_sem] def ZU:Spec:=P170.toSpec
theorem PO:aT Tryz.prog 170 P170:=by
 refine cV (rs:=[.tmp 4]) Tryz.func170 Tryz.ntmps170 fun l g hp hw=>?_
 simp only[er,iR,cW,encR]at hw |-
 have hΓ:=E4
 obtain⟨g,s⟩:=g
 try simp only[er]at hw hp |-
 repeat refine sq ?_
 refine rx hΓ [0,1] [] (fun K' hK=>by simp only[go_sem];exact an) ?_
 repeat refine sq ?_
 refine rx hΓ [4] [] (fun K' hK=>by simp only[go_sem,hp,true_or,pH];exact an) ?_
 refine av ?_
 simp only[go_sem]
 all_goals exact dp
@[go_sem] def P172:PSpec:=p2 (cW iT) er (fun _ g=>g.1=173) (fun l g=>.bool (l.any fun x=>Ret.so x==g.2)) true
@[go_sem] def ZT:Spec:=P172.toSpec
theorem PM:aT Tryz.prog 172 P172:=by
 refine cV (rs:=[.tmp 4]) Tryz.func172 Tryz.ntmps172 fun l g hp hw=>?_
 simp only[er,cW,iT,encT]at hw |-
 have hΓ:=E4
 obtain⟨g,s⟩:=g
 try simp only[er]at hw hp |-
 repeat refine sq ?_
 refine rx hΓ [0,1] [] (fun K' hK=>by simp only[go_sem];exact an) ?_
 repeat refine sq ?_
 refine rx hΓ [4] [] (fun K' hK=>by simp only[go_sem,hp,true_or,pH];exact an) ?_
 refine av ?_
 simp only[go_sem]
 all_goals exact dp
@[go_sem] def P174:PSpec:=p2 (cW iS) er (fun _ g=>g.1=175) (fun l g=>.bool (l.any fun x=>Sig.so x==g.2)) true
@[go_sem] def ZS:Spec:=P174.toSpec
theorem PK:aT Tryz.prog 174 P174:=by
 refine cV (rs:=[.tmp 4]) Tryz.func174 Tryz.ntmps174 fun l g hp hw=>?_
 simp only[er,iS,cW,encS]at hw |-
 have hΓ:=E4
 obtain⟨g,s⟩:=g
 try simp only[er]at hw hp |-
 repeat refine sq ?_
 refine rx hΓ [0,1] [] (fun K' hK=>by simp only[go_sem];exact an) ?_
 repeat refine sq ?_
 refine rx hΓ [4] [] (fun K' hK=>by simp only[go_sem,hp,true_or,pH];exact an) ?_
 refine av ?_
 simp only[go_sem]
 all_goals exact dp
def K12:List (Nat×Spec):=[(170,ZU),(172,ZT),(174,ZS)]
theorem aba:KS K12:=tc PO.sound<|tc PM.sound<|tc PK.sound<|tn
attribute [go_sem] K12
def hasB(l:Led)(s:Int):Bool:=l.rs.any (fun r=>r.so==s)||l.ts.any (fun r=>r.so==s)||l.ss.any (fun r=>r.so==s)
@[go_sem] def P85:PSpec:=p2 jT iI (fun _ _=>True) (fun l s=>.bool (hasB l s)) true
@[go_sem] def M3:Spec:=P85.toSpec
theorem Pd:aT Tryz.prog 85 P85:=by
 refine cV (rs:=[.tmp 4]) Tryz.func85 Tryz.ntmps85 fun l s hp hw=>?_
 simp only[iI,jT,ey]at hw |-
 have hΓ:=aba
 repeat refine sq ?_
 refine rx hΓ [0,3] [[3,0]] (fun K' hK=>by simp only[go_sem];exact an) ?_
 repeat refine sq ?_
 refine rx hΓ [4] [] (fun K' hK=>by simp only[go_sem];exact an) ?_
 refine av ?_
 simp only[go_sem]
 all_goals first | rfl | (simp;done) | (grind [hasB];done)
end
noncomputable section
attribute [go_sem] Vg
def K13:List (Nat×Spec):=[(37,EI),(67,M7),(79,wQ),(85,M3),(86,S86)]
attribute [go_sem] K13
theorem GX{l:Led}(h:bS l):xn l:=by
 refine⟨h.psn,h.rsn,h.tsn,h.ssn,fun r hr=>?_,fun r hr=>?_⟩
 ·obtain⟨j,hj,rfl⟩:=List.getElem_of_mem hr
  exact(ot.1 (QE (lN h.rs hj))).2.1
 ·obtain⟨j,hj,rfl⟩:=List.getElem_of_mem hr
  have :=lN h.ts hj
  unfold jo at this
  simp only[Bool.and_eq_true]at this
  exact(ot.1 this.1.1.1.2).2.1
end
noncomputable section
def K14:List (Nat×Spec):=[(15,uj),(95,M1)]
attribute [go_sem] K14
end
end Go.Eng
