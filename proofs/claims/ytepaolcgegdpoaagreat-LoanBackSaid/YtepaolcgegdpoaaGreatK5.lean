import Derived.Test.YtepaolcgegdpoaaGreatK4
import Derived.Test.YtepaolcgegdpoaaGreatProg
import Derived.KernelRfl
/- Texts L0 to LM1. -/
set_option linter.all false
namespace Go.Eng
open Go Go.Proofs
abbrev KS (K:List (Nat×Spec)):Prop:=∀ f s,tbl K f=some s->aN Tryz.prog f s
@[go_sem] theorem ta0:bh Tryz.prog 0=some (false,1):=by kernel_rfl
@[go_sem] theorem ta1:bh Tryz.prog 1=some (false,1):=by kernel_rfl
@[go_sem] theorem tz1:br Tryz.prog 1=some .nilFunc:=by kernel_rfl
@[go_sem] theorem ta2:bh Tryz.prog 2=some (false,1):=by kernel_rfl
@[go_sem] theorem ti2:mS Tryz.prog 2=some .i64:=by kernel_rfl
@[go_sem] theorem tz2:br Tryz.prog 2=some (.int .i64 0):=by kernel_rfl
@[go_sem] theorem yJ:bh Tryz.prog 3=some (false,1):=by kernel_rfl
@[go_sem] theorem ti3:mS Tryz.prog 3=some .i64:=by kernel_rfl
@[go_sem] theorem tz3:br Tryz.prog 3=some (.int .i64 0):=by kernel_rfl
@[go_sem] theorem ta4:bh Tryz.prog 4=some (false,1):=by kernel_rfl
@[go_sem] theorem tz4:br Tryz.prog 4=some (.bool false):=by kernel_rfl
@[go_sem] theorem agb:bh Tryz.prog 18=some (true,1):=by kernel_rfl
@[go_sem] theorem aer:ie Tryz.prog 18=some [(0,1)]:=by kernel_rfl
@[go_sem] theorem adX:br Tryz.prog 18=some (.agg #[(.pointer none)]):=by kernel_rfl
@[go_sem] theorem afl:bT Tryz.prog 18 0=some (0,1,false):=by kernel_rfl
@[go_sem] theorem af6:bh Tryz.prog 22=some (false,1):=by kernel_rfl
@[go_sem] theorem afE:cl Tryz.prog 22=some (100,5,40):=by kernel_rfl
@[go_sem] theorem aeH:dv Tryz.prog 22=some 0:=by kernel_rfl
@[go_sem] theorem adS:br Tryz.prog 22=some (.slice none 0 0):=by kernel_rfl
@[go_sem] theorem af5:bh Tryz.prog 23=some (false,1):=by kernel_rfl
@[go_sem] theorem afD:cl Tryz.prog 23=some (131,7,56):=by kernel_rfl
@[go_sem] theorem aeG:dv Tryz.prog 23=some 0:=by kernel_rfl
@[go_sem] theorem adR:br Tryz.prog 23=some (.slice none 0 0):=by kernel_rfl
@[go_sem] theorem af4:bh Tryz.prog 25=some (true,3):=by kernel_rfl
@[go_sem] theorem aeq:ie Tryz.prog 25=some [(0,1),(1,1),(2,1)]:=by kernel_rfl
@[go_sem] theorem adQ:br Tryz.prog 25=some (.agg #[(.slice none 0 0),(.slice none 0 0),(.slice none 0 0)]):=by kernel_rfl
@[go_sem] theorem afk:bT Tryz.prog 25 0=some (0,1,false):=by kernel_rfl
@[go_sem] theorem afj:bT Tryz.prog 25 1=some (1,1,false):=by kernel_rfl
@[go_sem] theorem afi:bT Tryz.prog 25 2=some (2,1,false):=by kernel_rfl
@[go_sem] theorem af3:bh Tryz.prog 26=some (false,1):=by kernel_rfl
@[go_sem] theorem afC:cl Tryz.prog 26=some (46,2,16):=by kernel_rfl
@[go_sem] theorem aeF:dv Tryz.prog 26=some 0:=by kernel_rfl
@[go_sem] theorem adP:br Tryz.prog 26=some (.slice none 0 0):=by kernel_rfl
@[go_sem] theorem af2:bh Tryz.prog 27=some (false,1):=by kernel_rfl
@[go_sem] theorem afB:cl Tryz.prog 27=some (36,7,72):=by kernel_rfl
@[go_sem] theorem aeE:dv Tryz.prog 27=some 0:=by kernel_rfl
@[go_sem] theorem adO:br Tryz.prog 27=some (.slice none 0 0):=by kernel_rfl
@[go_sem] theorem af1:bh Tryz.prog 28=some (false,1):=by kernel_rfl
@[go_sem] theorem afA:cl Tryz.prog 28=some (40,8,80):=by kernel_rfl
@[go_sem] theorem aeD:dv Tryz.prog 28=some 0:=by kernel_rfl
@[go_sem] theorem adN:br Tryz.prog 28=some (.slice none 0 0):=by kernel_rfl
@[go_sem] theorem af0:bh Tryz.prog 29=some (false,1):=by kernel_rfl
@[go_sem] theorem Hu:cl Tryz.prog 29=some (81,7,56):=by kernel_rfl
@[go_sem] theorem aeC:dv Tryz.prog 29=some 0:=by kernel_rfl
@[go_sem] theorem adM:br Tryz.prog 29=some (.slice none 0 0):=by kernel_rfl
@[go_sem] theorem afZ:bh Tryz.prog 31=some (true,4):=by kernel_rfl
@[go_sem] theorem aep:ie Tryz.prog 31=some [(0,1),(1,1),(2,1),(3,1)]:=by kernel_rfl
@[go_sem] theorem adL:br Tryz.prog 31=some (.agg #[(.slice none 0 0),(.slice none 0 0),(.slice none 0 0),(.slice none 0 0)]):=by kernel_rfl
@[go_sem] theorem afh:bT Tryz.prog 31 0=some (0,1,false):=by kernel_rfl
@[go_sem] theorem afg:bT Tryz.prog 31 1=some (1,1,false):=by kernel_rfl
@[go_sem] theorem aff:bT Tryz.prog 31 2=some (2,1,false):=by kernel_rfl
@[go_sem] theorem afe:bT Tryz.prog 31 3=some (3,1,false):=by kernel_rfl
@[go_sem] theorem afY:bh Tryz.prog 32=some (false,1):=by kernel_rfl
@[go_sem] theorem afz:cl Tryz.prog 32=some (3,1,8):=by kernel_rfl
@[go_sem] theorem aeB:dv Tryz.prog 32=some 0:=by kernel_rfl
@[go_sem] theorem adK:br Tryz.prog 32=some (.slice none 0 0):=by kernel_rfl
@[go_sem] theorem afX:bh Tryz.prog 33=some (false,1):=by kernel_rfl
@[go_sem] theorem afW:bh Tryz.prog 36=some (true,7):=by kernel_rfl
@[go_sem] theorem aeo:ie Tryz.prog 36=some [(0,1),(1,1),(2,1),(3,1),(4,1),(5,1),(6,1)]:=by kernel_rfl
@[go_sem] theorem adJ:br Tryz.prog 36=some (.agg #[(.int .i64 0),(.int .i64 0),(.int .i64 0),(.slice none 0 0),(.int .i64 0),(.int .i64 0),(.int .i64 0)]):=by kernel_rfl
@[go_sem] theorem afd:bT Tryz.prog 36 0=some (0,1,false):=by kernel_rfl
@[go_sem] theorem afc:bT Tryz.prog 36 1=some (1,1,false):=by kernel_rfl
@[go_sem] theorem afb:bT Tryz.prog 36 2=some (2,1,false):=by kernel_rfl
@[go_sem] theorem afa:bT Tryz.prog 36 3=some (3,1,false):=by kernel_rfl
@[go_sem] theorem ae':bT Tryz.prog 36 4=some (4,1,false):=by kernel_rfl
@[go_sem] theorem ae9:bT Tryz.prog 36 5=some (5,1,false):=by kernel_rfl
@[go_sem] theorem ae8:bT Tryz.prog 36 6=some (6,1,false):=by kernel_rfl
@[go_sem] theorem afV:bh Tryz.prog 38=some (true,2):=by kernel_rfl
@[go_sem] theorem aen:ie Tryz.prog 38=some [(0,1),(1,1)]:=by kernel_rfl
@[go_sem] theorem adI:br Tryz.prog 38=some (.agg #[(.int .i64 0),(.int .i64 0)]):=by kernel_rfl
@[go_sem] theorem ae7:bT Tryz.prog 38 0=some (0,1,false):=by kernel_rfl
@[go_sem] theorem ae6:bT Tryz.prog 38 1=some (1,1,false):=by kernel_rfl
@[go_sem] theorem afU:bh Tryz.prog 40=some (true,8):=by kernel_rfl
@[go_sem] theorem aem:ie Tryz.prog 40=some [(0,1),(1,1),(2,1),(3,1),(4,2),(6,1),(7,1)]:=by kernel_rfl
@[go_sem] theorem adH:br Tryz.prog 40=some (.agg #[(.int .i64 0),(.int .i64 0),(.int .i64 0),(.slice none 0 0),(.int .i64 0),(.int .i64 0),(.int .i64 0),(.int .i64 0)]):=by kernel_rfl
@[go_sem] theorem ae5:bT Tryz.prog 40 0=some (0,1,false):=by kernel_rfl
@[go_sem] theorem ae4:bT Tryz.prog 40 1=some (1,1,false):=by kernel_rfl
@[go_sem] theorem ae3:bT Tryz.prog 40 2=some (2,1,false):=by kernel_rfl
@[go_sem] theorem ae2:bT Tryz.prog 40 3=some (3,1,false):=by kernel_rfl
@[go_sem] theorem ae1:bT Tryz.prog 40 4=some (4,2,true):=by kernel_rfl
@[go_sem] theorem ae0:bT Tryz.prog 40 5=some (6,1,false):=by kernel_rfl
@[go_sem] theorem aeZ:bT Tryz.prog 40 6=some (7,1,false):=by kernel_rfl
@[go_sem] theorem afT:bh Tryz.prog 42=some (false,1):=by kernel_rfl
@[go_sem] theorem aeM:mS Tryz.prog 42=some .i64:=by kernel_rfl
@[go_sem] theorem adG:br Tryz.prog 42=some (.int .i64 0):=by kernel_rfl
@[go_sem] theorem afS:bh Tryz.prog 43=some (false,1):=by kernel_rfl
@[go_sem] theorem afR:bh Tryz.prog 46=some (true,2):=by kernel_rfl
@[go_sem] theorem ael:ie Tryz.prog 46=some [(0,1),(1,1)]:=by kernel_rfl
@[go_sem] theorem adF:br Tryz.prog 46=some (.agg #[(.int .i64 0),(.int .i64 0)]):=by kernel_rfl
@[go_sem] theorem aeY:bT Tryz.prog 46 0=some (0,1,false):=by kernel_rfl
@[go_sem] theorem aeX:bT Tryz.prog 46 1=some (1,1,false):=by kernel_rfl
@[go_sem] theorem afQ:bh Tryz.prog 51=some (false,1):=by kernel_rfl
@[go_sem] theorem afy:cl Tryz.prog 51=some (56,2,16):=by kernel_rfl
@[go_sem] theorem aeA:dv Tryz.prog 51=some 0:=by kernel_rfl
@[go_sem] theorem adE:br Tryz.prog 51=some (.slice none 0 0):=by kernel_rfl
@[go_sem] theorem afP:bh Tryz.prog 52=some (false,1):=by kernel_rfl
@[go_sem] theorem afO:bh Tryz.prog 56=some (true,2):=by kernel_rfl
@[go_sem] theorem aek:ie Tryz.prog 56=some [(0,1),(1,1)]:=by kernel_rfl
@[go_sem] theorem adD:br Tryz.prog 56=some (.agg #[(.int .i64 0),(.int .i64 0)]):=by kernel_rfl
@[go_sem] theorem aeW:bT Tryz.prog 56 0=some (0,1,false):=by kernel_rfl
@[go_sem] theorem aeV:bT Tryz.prog 56 1=some (1,1,false):=by kernel_rfl
@[go_sem] theorem afN:bh Tryz.prog 57=some (false,1):=by kernel_rfl
@[go_sem] theorem afM:bh Tryz.prog 65=some (false,1):=by kernel_rfl
@[go_sem] theorem afL:bh Tryz.prog 77=some (true,2):=by kernel_rfl
@[go_sem] theorem aef:jP Tryz.prog 77=some (2,1,false):=by kernel_rfl
@[go_sem] theorem aej:ie Tryz.prog 77=some [(0,1),(1,1)]:=by kernel_rfl
@[go_sem] theorem adC:br Tryz.prog 77=some (.agg #[(.int .i64 0),(.int .i64 0)]):=by kernel_rfl
@[go_sem] theorem afK:bh Tryz.prog 81=some (true,7):=by kernel_rfl
@[go_sem] theorem aei:ie Tryz.prog 81=some [(0,1),(1,1),(2,1),(3,1),(4,1),(5,1),(6,1)]:=by kernel_rfl
@[go_sem] theorem QK:br Tryz.prog 81=some (.agg #[(.int .i64 0),(.int .i64 0),(.int .i64 0),(.int .i64 0),(.int .i64 0),(.int .i64 0),(.int .i64 0)]):=by kernel_rfl
@[go_sem] theorem aeU:bT Tryz.prog 81 0=some (0,1,false):=by kernel_rfl
@[go_sem] theorem aeT:bT Tryz.prog 81 1=some (1,1,false):=by kernel_rfl
@[go_sem] theorem aeS:bT Tryz.prog 81 2=some (2,1,false):=by kernel_rfl
@[go_sem] theorem aeR:bT Tryz.prog 81 3=some (3,1,false):=by kernel_rfl
@[go_sem] theorem aeQ:bT Tryz.prog 81 4=some (4,1,false):=by kernel_rfl
@[go_sem] theorem aeP:bT Tryz.prog 81 5=some (5,1,false):=by kernel_rfl
@[go_sem] theorem aeO:bT Tryz.prog 81 6=some (6,1,false):=by kernel_rfl
@[go_sem] theorem afJ:bh Tryz.prog 95=some (false,1):=by kernel_rfl
@[go_sem] theorem adB:br Tryz.prog 95=some .nilFunc:=by kernel_rfl
@[go_sem] theorem afI:bh Tryz.prog 96=some (false,1):=by kernel_rfl
@[go_sem] theorem adA:br Tryz.prog 96=some .nilFunc:=by kernel_rfl
@[go_sem] theorem afH:bh Tryz.prog 97=some (false,1):=by kernel_rfl
@[go_sem] theorem adz:br Tryz.prog 97=some .nilFunc:=by kernel_rfl
@[go_sem] theorem afG:bh Tryz.prog 98=some (false,1):=by kernel_rfl
@[go_sem] theorem ady:br Tryz.prog 98=some .nilFunc:=by kernel_rfl
@[go_sem] theorem agz:bh Tryz.prog 100=some (true,5):=by kernel_rfl
@[go_sem] theorem aeh:jP Tryz.prog 100=some (5,1,false):=by kernel_rfl
@[go_sem] theorem aew:ie Tryz.prog 100=some [(0,1),(1,1),(2,1),(3,1),(4,1)]:=by kernel_rfl
@[go_sem] theorem aee:br Tryz.prog 100=some (.agg #[(.int .i64 0),(.int .i64 0),(.int .i64 0),(.int .i64 0),(.int .i64 0)]):=by kernel_rfl
@[go_sem] theorem agy:bh Tryz.prog 103=some (false,1):=by kernel_rfl
@[go_sem] theorem afF:cl Tryz.prog 103=some (4,1,1):=by kernel_rfl
@[go_sem] theorem aeL:dv Tryz.prog 103=some 0:=by kernel_rfl
@[go_sem] theorem aed:br Tryz.prog 103=some (.slice none 0 0):=by kernel_rfl
@[go_sem] theorem agx:bh Tryz.prog 108=some (true,7):=by kernel_rfl
@[go_sem] theorem aev:ie Tryz.prog 108=some [(0,4),(4,1),(5,1),(6,1)]:=by kernel_rfl
@[go_sem] theorem aec:br Tryz.prog 108=some (.agg #[(.slice none 0 0),(.slice none 0 0),(.slice none 0 0),(.slice none 0 0),(.int .i64 0),(.slice none 0 0),(.slice none 0 0)]):=by kernel_rfl
@[go_sem] theorem afw:bT Tryz.prog 108 0=some (0,4,true):=by kernel_rfl
@[go_sem] theorem afv:bT Tryz.prog 108 1=some (4,1,false):=by kernel_rfl
@[go_sem] theorem afu:bT Tryz.prog 108 2=some (5,1,false):=by kernel_rfl
@[go_sem] theorem aft:bT Tryz.prog 108 3=some (6,1,false):=by kernel_rfl
@[go_sem] theorem agw:bh Tryz.prog 112=some (false,1):=by kernel_rfl
@[go_sem] theorem agv:bh Tryz.prog 113=some (false,1):=by kernel_rfl
@[go_sem] theorem aeb:br Tryz.prog 113=some (.pointer none):=by kernel_rfl
@[go_sem] theorem agu:bh Tryz.prog 115=some (false,1):=by kernel_rfl
@[go_sem] theorem aea:br Tryz.prog 115=some (.pointer none):=by kernel_rfl
@[go_sem] theorem agt:bh Tryz.prog 117=some (false,1):=by kernel_rfl
@[go_sem] theorem ags:bh Tryz.prog 119=some (false,1):=by kernel_rfl
@[go_sem] theorem agq:bh Tryz.prog 120=some (false,1):=by kernel_rfl
@[go_sem] theorem aeK:dv Tryz.prog 120=some 2:=by kernel_rfl
@[go_sem] theorem aez:ky Tryz.prog 120=some (2,3):=by kernel_rfl
@[go_sem] theorem ad':br Tryz.prog 120=some (.map none):=by kernel_rfl
@[go_sem] theorem agp:bh Tryz.prog 121=some (false,1):=by kernel_rfl
@[go_sem] theorem aeJ:dv Tryz.prog 121=some 2:=by kernel_rfl
@[go_sem] theorem aey:ky Tryz.prog 121=some (0,38):=by kernel_rfl
@[go_sem] theorem ad9:br Tryz.prog 121=some (.map none):=by kernel_rfl
@[go_sem] theorem ago:bh Tryz.prog 123=some (true,5):=by kernel_rfl
@[go_sem] theorem aeu:ie Tryz.prog 123=some [(0,1),(1,1),(2,1),(3,1),(4,1)]:=by kernel_rfl
@[go_sem] theorem ad8:br Tryz.prog 123=some (.agg #[(.pointer none),(.slice none 0 0),(.slice none 0 0),(.map none),(.map none)]):=by kernel_rfl
@[go_sem] theorem afs:bT Tryz.prog 123 0=some (0,1,false):=by kernel_rfl
@[go_sem] theorem afr:bT Tryz.prog 123 1=some (1,1,false):=by kernel_rfl
@[go_sem] theorem afq:bT Tryz.prog 123 2=some (2,1,false):=by kernel_rfl
@[go_sem] theorem afp:bT Tryz.prog 123 3=some (3,1,false):=by kernel_rfl
@[go_sem] theorem afo:bT Tryz.prog 123 4=some (4,1,false):=by kernel_rfl
@[go_sem] theorem agn:bh Tryz.prog 125=some (true,2):=by kernel_rfl
@[go_sem] theorem aet:ie Tryz.prog 125=some [(0,1),(1,1)]:=by kernel_rfl
@[go_sem] theorem ad7:br Tryz.prog 125=some (.agg #[(.int .i64 0),(.int .i64 0)]):=by kernel_rfl
@[go_sem] theorem afn:bT Tryz.prog 125 0=some (0,1,false):=by kernel_rfl
@[go_sem] theorem afm:bT Tryz.prog 125 1=some (1,1,false):=by kernel_rfl
@[go_sem] theorem agm:bh Tryz.prog 131=some (true,7):=by kernel_rfl
@[go_sem] theorem aeg:jP Tryz.prog 131=some (7,1,false):=by kernel_rfl
@[go_sem] theorem aes:ie Tryz.prog 131=some [(0,1),(1,1),(2,1),(3,1),(4,1),(5,1),(6,1)]:=by kernel_rfl
@[go_sem] theorem ad6:br Tryz.prog 131=some (.agg #[(.int .i64 0),(.int .i64 0),(.int .i64 0),(.int .i64 0),(.int .i64 0),(.int .i64 0),(.int .i64 0)]):=by kernel_rfl
@[go_sem] theorem agl:bh Tryz.prog 135=some (false,1):=by kernel_rfl
@[go_sem] theorem ad5:br Tryz.prog 135=some .nilFunc:=by kernel_rfl
@[go_sem] theorem agk:bh Tryz.prog 139=some (false,1):=by kernel_rfl
@[go_sem] theorem ad4:br Tryz.prog 139=some .nilFunc:=by kernel_rfl
@[go_sem] theorem agj:bh Tryz.prog 153=some (false,1):=by kernel_rfl
@[go_sem] theorem ad3:br Tryz.prog 153=some .nilFunc:=by kernel_rfl
@[go_sem] theorem agi:bh Tryz.prog 155=some (false,1):=by kernel_rfl
@[go_sem] theorem ad2:br Tryz.prog 155=some .nilFunc:=by kernel_rfl
@[go_sem] theorem agh:bh Tryz.prog 157=some (false,1):=by kernel_rfl
@[go_sem] theorem ad1:br Tryz.prog 157=some .nilFunc:=by kernel_rfl
@[go_sem] theorem agf:bh Tryz.prog 159=some (false,1):=by kernel_rfl
@[go_sem] theorem ad0:br Tryz.prog 159=some .nilFunc:=by kernel_rfl
@[go_sem] theorem age:bh Tryz.prog 160=some (false,1):=by kernel_rfl
@[go_sem] theorem aeI:dv Tryz.prog 160=some 2:=by kernel_rfl
@[go_sem] theorem aex:ky Tryz.prog 160=some (0,4):=by kernel_rfl
@[go_sem] theorem adZ:br Tryz.prog 160=some (.map none):=by kernel_rfl
@[go_sem] theorem agd:bh Tryz.prog 161=some (false,1):=by kernel_rfl
@[go_sem] theorem adY:br Tryz.prog 161=some .nilFunc:=by kernel_rfl
@[go_sem] theorem agc:bh Tryz.prog 164=some (false,1):=by kernel_rfl
@[go_sem] theorem aga:bh Tryz.prog 186=some (false,1):=by kernel_rfl
@[go_sem] theorem adW:br Tryz.prog 186=some .nilFunc:=by kernel_rfl
@[go_sem] theorem af':bh Tryz.prog 188=some (false,1):=by kernel_rfl
@[go_sem] theorem adV:br Tryz.prog 188=some .nilFunc:=by kernel_rfl
@[go_sem] theorem af9:bh Tryz.prog 191=some (false,1):=by kernel_rfl
@[go_sem] theorem adU:br Tryz.prog 191=some .nilFunc:=by kernel_rfl
@[go_sem] theorem af8:bh Tryz.prog 205=some (false,1):=by kernel_rfl
@[go_sem] theorem af7:bh Tryz.prog 208=some (false,1):=by kernel_rfl
@[go_sem] theorem aeN:mS Tryz.prog 208=some .u64:=by kernel_rfl
@[go_sem] theorem adT:br Tryz.prog 208=some (.int .u64 0):=by kernel_rfl
theorem fU:Tryz.prog.follows .mixedOrders=true:=by kernel_rfl
structure Pap where
 (id lv:Int)
 deriving Inhabited,DecidableEq
structure Rec where
 (so bo pa:Int)
 lv:List Int
 (da kn un:Int)
 deriving Inhabited,DecidableEq
structure Ret where
 (so re pe:Int)
 lv:List Int
 (lo hi kn un:Int)
 deriving Inhabited,DecidableEq
structure Sig where
 (so pe pa le da kn un:Int)
 deriving Inhabited,DecidableEq
structure Led where
 ps:List Pap
 rs:List Rec
 ts:List Ret
 ss:List Sig
 deriving Inhabited,DecidableEq
def km:V->Int
 | .int _ n=>n
 |_=>0
def AW:V->Bool
 | .bool b=>b
 |_=>false
def Om:V->List Int
 | .sl l=>l.map km
 |_=>[]
def c9(p:Pap):V:=.agg [vInt p.id,vInt p.lv]
def qS:V->Pap
 | .agg [.int _ a,.int _ b]=>⟨a,b⟩
 |_=>default
def encR(r:Rec):V:=.agg [vInt r.so,vInt r.bo,vInt r.pa,.sl (r.lv.map vInt),vInt r.da,vInt r.kn,vInt r.un]
def kU:V->Rec
 | .agg [.int _ a,.int _ b,.int _ c,.sl l,.int _ d,.int _ e,.int _ f]=>⟨a,b,c,l.map km,d,e,f⟩
 |_=>default
def cT(r:Ret):V:=.agg [vInt r.so,vInt r.re,vInt r.pe,.sl (r.lv.map vInt),vInt r.lo,vInt r.hi,vInt r.kn,vInt r.un]
def mr:V->Ret
 | .agg [.int _ a,.int _ b,.int _ c,.sl l,.int _ d,.int _ g,.int _ e,.int _ f]=>⟨a,b,c,l.map km,d,g,e,f⟩
 |_=>default
def encS(s:Sig):V:=.agg [vInt s.so,vInt s.pe,vInt s.pa,vInt s.le,vInt s.da,vInt s.kn,vInt s.un]
def jD:V->Sig
 | .agg [.int _ a,.int _ b,.int _ c,.int _ d,.int _ e,.int _ f,.int _ g]=>⟨a,b,c,d,e,f,g⟩
 |_=>default
def gM(l:Led):V:=.agg [.sl (l.ps.map c9),.sl (l.rs.map encR),.sl (l.ts.map cT),.sl (l.ss.map encS)]
def Oj:V->Led
 | .agg [.sl a,.sl b,.sl c,.sl d]=>⟨a.map qS,b.map kU,c.map mr,d.map jD⟩
 |_=>default
def kj(l:Led):V:=.ptr [.sl (l.ps.map c9),.sl (l.rs.map encR),.sl (l.ts.map cT),.sl (l.ss.map encS)]
def AU:V->Led
 | .ptr [.sl a,.sl b,.sl c,.sl d]=>⟨a.map qS,b.map kU,c.map mr,d.map jD⟩
 |_=>default
@[go_sem] theorem qU(l:List Int):(l.map vInt).map km=l:=by rw[List.map_map];exact List.map_id _
@[go_sem] theorem ag1(l:List Bool):(l.map V.bool).map AW=l:=by rw[List.map_map];exact List.map_id _
theorem aam(p:Pap):qS (c9 p)=p:=rfl
theorem aah(r:Rec):kU (encR r)=r:=by
 cases r;simp only[encR,kU,qU]
theorem aac(r:Ret):mr (cT r)=r:=by
 cases r;simp only[cT,mr,qU]
theorem aae(r:Sig):jD (encS r)=r:=rfl
theorem rY{α:Type}{e:α->V}{d:V->α}(h:∀ a,d (e a)=a)(l:List α):(l.map e).map d=l:=by
 rw[List.map_map]
 have :d∘e=id:=funext h
 rw[this,List.map_id]
@[go_sem] theorem Og(l:List Pap):(l.map c9).map qS=l:=rY aam l
@[go_sem] theorem AS(l:List Rec):(l.map encR).map kU=l:=rY aah l
@[go_sem] theorem Oe(l:List Ret):(l.map cT).map mr=l:=rY aac l
@[go_sem] theorem vv(l:List Sig):(l.map encS).map jD=l:=rY aae l
@[go_sem] theorem agV(p:Pap):(⟨p.id,p.lv⟩:Pap)=p:=rfl
@[go_sem] theorem agU(r:Rec):(⟨r.so,r.bo,r.pa,r.lv,r.da,r.kn,r.un⟩:Rec)=r:=rfl
@[go_sem] theorem agP(r:Ret):(⟨r.so,r.re,r.pe,r.lv,r.lo,r.hi,r.kn,r.un⟩:Ret)=r:=rfl
@[go_sem] theorem agQ(r:Sig):(⟨r.so,r.pe,r.pa,r.le,r.da,r.kn,r.un⟩:Sig)=r:=rfl
@[go_sem] theorem agY(l:Led):(⟨l.ps,l.rs,l.ts,l.ss⟩:Led)=l:=rfl
def iI:En Int:=⟨vInt,km⟩
def iB:En Bool:=⟨.bool,AW⟩
def fw:En (List Int):=⟨fun l=>.sl (l.map vInt),Om⟩
def iP:En Pap:=⟨c9,qS⟩
def iR:En Rec:=⟨encR,kU⟩
def iT:En Ret:=⟨cT,mr⟩
def iS:En Sig:=⟨encS,jD⟩
def iL:En Led:=⟨gM,Oj⟩
def pv:En Led:=⟨kj,AU⟩
attribute [go_sem] iI iB fw iP iR iT iS iL pv km AW Om c9 qS encR kU cT mr encS jD gM Oj kj AU
def cb(n lo hi:Int):Bool:=decide (lo<=n)&&decide (n<=hi)
def dayB(n:Int):Bool:=cb n 0 100000
noncomputable section
@[go_sem] def P96:PSpec:=p3 iI iI iI (fun _ _ _=>True) (fun n lo hi=>.bool (cb n lo hi)) true
@[go_sem] def tG:Spec:=P96.toSpec
theorem yN:aZ Tryz.prog 96 P96:=by
 refine n7 (rs:=[.tmp 6]) Tryz.func96 Tryz.ntmps96 fun n lo hi hp hw=>?_
 simp only[iI]at hw |-
 have hΓ:=@fE Tryz.prog
 repeat refine sq ?_
 refine rs hΓ [0,1,2] [] ?_
 repeat refine sq ?_
 refine rs hΓ [6] [] ?_
 refine aC ?_
 simp only[go_sem]
 all_goals exact e8
@[go_sem] def P189:PSpec:=p1 iI (fun _=>True) (fun _=>.bool false) true
@[go_sem] def ab2:Spec:=P189.toSpec
theorem R0:aZ Tryz.prog 189 P189:=by
 refine fQ (rs:=[.tmp 2]) Tryz.func189 Tryz.ntmps189 fun n hp hw=>?_
 simp only[iI]at hw |-
 have hΓ:=@fE Tryz.prog
 repeat refine sq ?_
 refine rs hΓ [0] [] ?_
 repeat refine sq ?_
 refine rs hΓ [2] [] ?_
 refine aC ?_
 simp only[go_sem]
 all_goals exact e8
def K1:List (Nat×Spec):=[(96,tG),(189,ab2)]
theorem vN:KS K1:=tc yN.sound<|tc R0.sound<|tn
attribute [go_sem] K1
@[go_sem] def P144:PSpec:=p1 iI (fun _=>True) (fun n=>.bool (cb n 1 999)) true
@[go_sem] def P4:Spec:=P144.toSpec
theorem H9:aZ Tryz.prog 144 P144:=by
 refine fQ (rs:=[.tmp 2]) Tryz.func144 Tryz.ntmps144 fun n hp hw=>?_
 simp only[iI]at hw |-
 have hΓ:=vN
 repeat refine sq ?_
 refine rs hΓ [0] [] ?_
 repeat refine sq ?_
 refine rs hΓ [2] [] ?_
 refine aC ?_
 simp only[go_sem]
 all_goals exact e8
@[go_sem] def P145:PSpec:=p1 iI (fun _=>True) (fun n=>.bool (cb n 1 30)) true
@[go_sem] def GM:Spec:=P145.toSpec
theorem Cd:aZ Tryz.prog 145 P145:=by
 refine fQ (rs:=[.tmp 2]) Tryz.func145 Tryz.ntmps145 fun n hp hw=>?_
 simp only[iI]at hw |-
 have hΓ:=vN
 repeat refine sq ?_
 refine rs hΓ [0] [] ?_
 repeat refine sq ?_
 refine rs hΓ [2] [] ?_
 refine aC ?_
 simp only[go_sem]
 all_goals exact e8
@[go_sem] def P147:PSpec:=p1 iI (fun _=>True) (fun n=>.bool (cb n 1 99999)) true
@[go_sem] def P2:Spec:=P147.toSpec
theorem H8:aZ Tryz.prog 147 P147:=by
 refine fQ (rs:=[.tmp 2]) Tryz.func147 Tryz.ntmps147 fun n hp hw=>?_
 simp only[iI]at hw |-
 have hΓ:=vN
 repeat refine sq ?_
 refine rs hΓ [0] [] ?_
 repeat refine sq ?_
 refine rs hΓ [2] [] ?_
 refine aC ?_
 simp only[go_sem]
 all_goals exact e8
@[go_sem] def P148:PSpec:=p1 iI (fun _=>True) (fun n=>.bool (cb n 1 99)) true
@[go_sem] def P1:Spec:=P148.toSpec
theorem H7:aZ Tryz.prog 148 P148:=by
 refine fQ (rs:=[.tmp 2]) Tryz.func148 Tryz.ntmps148 fun n hp hw=>?_
 simp only[iI]at hw |-
 have hΓ:=vN
 repeat refine sq ?_
 refine rs hΓ [0] [] ?_
 repeat refine sq ?_
 refine rs hΓ [2] [] ?_
 refine aC ?_
 simp only[go_sem]
 all_goals exact e8
@[go_sem] def P150:PSpec:=p1 iI (fun _=>True) (fun n=>.bool (dayB n)) true
@[go_sem] def GL:Spec:=P150.toSpec
theorem Cc:aZ Tryz.prog 150 P150:=by
 refine fQ (rs:=[.tmp 2]) Tryz.func150 Tryz.ntmps150 fun n hp hw=>?_
 simp only[iI]at hw |-
 have hΓ:=vN
 repeat refine sq ?_
 refine rs hΓ [0] [] ?_
 repeat refine sq ?_
 refine rs hΓ [2] [] ?_
 refine aC ?_
 simp only[go_sem]
 all_goals exact e8
def mu(a b:Int):Int:=if a<b then -1 else if b<a then 1 else 0
@[go_sem] def P140:PSpec:=p2 iI iI (fun _ _=>True) (fun a b=>vInt (mu a b)) true
@[go_sem] def ab':Spec:=P140.toSpec
theorem Sl:aZ Tryz.prog 140 P140:=by
 refine fD (rs:=[.tmp 4]) Tryz.func140 Tryz.ntmps140 fun a b hp hw=>?_
 simp only[iI]at hw |-
 have hΓ:=vN
 repeat refine sq ?_
 refine rs hΓ [0,1] [] ?_
 repeat refine sq ?_
 refine rs hΓ [0,1,5] [] ?_
 repeat refine sq ?_
 refine rs hΓ [0,1,5,6] [] ?_
 repeat refine sq ?_
 refine rs hΓ [0,1,6,11] [] ?_
 repeat refine eK ?_
 refine aB (fun hb=>?_) fun hb=>?_
 ·repeat refine eK ?_
  repeat refine sq ?_
  refine rs hΓ [12] [] ?_
  repeat refine eK ?_
  refine aB (fun hb=>?_) fun hb=>?_
  ·repeat refine eK ?_
   repeat refine sq ?_
   refine rs hΓ [4] [] ?_
   refine aC ?_
   simp only[go_sem]
   all_goals first | rfl | (simp;done) | (grind [mu];done)
  ·repeat refine eK ?_
   refine aJ ?_
   repeat refine sq ?_
   refine rs hΓ [4] [] ?_
   refine aC ?_
   simp only[go_sem]
   all_goals first | rfl | (simp;done) | (grind [mu];done)
 ·repeat refine eK ?_
  refine aJ ?_
  repeat refine sq ?_
  refine rs hΓ [0,1,13] [] ?_
  repeat refine eK ?_
  refine aB (fun hb=>?_) fun hb=>?_
  ·repeat refine eK ?_
   repeat refine sq ?_
   refine rs hΓ [4] [] ?_
   refine aC ?_
   simp only[go_sem]
   all_goals first | rfl | (simp;done) | (grind [mu];done)
  ·repeat refine eK ?_
   refine aJ ?_
   repeat refine sq ?_
   refine rs hΓ [0,1,16] [] ?_
   repeat refine eK ?_
   refine aB (fun hb=>?_) fun hb=>?_
   ·repeat refine eK ?_
    repeat refine sq ?_
    refine rs hΓ [4] [] ?_
    refine aC ?_
    simp only[go_sem]
    all_goals first | rfl | (simp;done) | (grind [mu];done)
   ·repeat refine eK ?_
    refine aJ ?_
    repeat refine sq ?_
    refine rs hΓ [19] [] ?_
    repeat refine eK ?_
    refine aB (fun hb=>?_) fun hb=>?_
    ·repeat refine eK ?_
     repeat refine sq ?_
     refine rs hΓ [4] [] ?_
     refine aC ?_
     simp only[go_sem]
     all_goals first | rfl | (simp;done) | (grind [mu];done)
    ·repeat refine eK ?_
     refine aJ ?_
     repeat refine sq ?_
     refine rs hΓ [4] [] ?_
     refine aC ?_
     simp only[go_sem]
     all_goals first | rfl | (simp;done) | (grind [mu];done)
def bG(since Hl known:Int):Bool:=decide (since<=known)&&(Hl==0||decide (known<Hl))
@[go_sem] def P157:PSpec:=p3 iI iI iI (fun _ _ _=>True) (fun a b c=>.bool (bG a b c)) true
@[go_sem] def BE:Spec:=P157.toSpec
theorem Cb:aZ Tryz.prog 157 P157:=by
 refine n7 (rs:=[.tmp 6]) Tryz.func157 Tryz.ntmps157 fun a b c hp hw=>?_
 simp only[iI]at hw |-
 have hΓ:=@fE Tryz.prog
 repeat refine sq ?_
 refine rs hΓ [0,1,2] [] ?_
 repeat refine sq ?_
 refine rs hΓ [6] [] ?_
 refine aC ?_
 simp only[go_sem]
 all_goals first | rfl | (simp;done) | (grind [bG];done)
@[go_sem] def P162:PSpec:=p3 iI iI iI (fun _ _ _=>True) (fun a b c=>.bool (bG a b c)) true
@[go_sem] def S162:Spec:=P162.toSpec
theorem Sd:aZ Tryz.prog 162 P162:=by
 refine n7 (rs:=[.tmp 6]) Tryz.func162 Tryz.ntmps162 fun a b c hp hw=>?_
 simp only[iI]at hw |-
 have hΓ:=@fE Tryz.prog
 repeat refine sq ?_
 refine rs hΓ [0,1,2] [] ?_
 repeat refine sq ?_
 refine rs hΓ [6] [] ?_
 refine aC ?_
 simp only[go_sem]
 all_goals first | rfl | (simp;done) | (grind [bG];done)
theorem LV:aN Tryz.prog 162 S162:=Sd.sound
end
noncomputable section
def kZ(k u:Int):Bool:=dayB k&&(u==0||(decide (k<u)&&decide (u<=100000)))
def K2:List (Nat×Spec):=[(96,tG),(145,GM),(150,GL),(144,P4),(147,P2),(148,P1)]
theorem ac':KS K2:=tc yN.sound<|tc Cd.sound<|tc Cc.sound<|tc H9.sound<|tc H8.sound<|tc H7.sound<|tn
attribute [go_sem] K2
theorem QQ(k u:Int):(dayB k&&(u==0||cb u (IntKind.i64.wrap (k+1)) 100000))=kZ k u:=by
 unfold kZ
 cases h:dayB k with
 |false=>rfl
 |true=>
  unfold dayB cb at h
  simp only[Bool.and_eq_true,decide_eq_true_eq]at h
  rw[wrap_i64 (by omega) (by omega)]
  unfold cb
  simp only[Bool.true_and]
  congr 2
@[go_sem] def P151:PSpec:=p2 iI iI (fun _ _=>True) (fun a b=>.bool (kZ a b)) true
@[go_sem] def ab8:Spec:=P151.toSpec
theorem Sj:aZ Tryz.prog 151 P151:=by
 refine fD (rs:=[.tmp 4]) Tryz.func151 Tryz.ntmps151 fun k u hp hw=>?_
 simp only[iI]at hw |-
 have hΓ:=ac'
 repeat refine sq ?_
 refine rs hΓ [0,1] [] ?_
 repeat refine sq ?_
 refine rs hΓ [4] [] ?_
 refine aC ?_
 simp only[go_sem]
 all_goals first | rfl | (simp;done) | (exact congrArg V.bool (QQ _ _);done)
open Classical in
def p6(l:List Int):Bool:=decide (∀ j (h:j<l.length),0<j->l[j-1] <l[j])
theorem wk{l:List Int}:p6 l=true↔∀ j (h:j<l.length),0<j->l[j-1] <l[j]:=by unfold p6;exact decide_eq_true_iff
theorem SM{l:List Int}{j:Nat}(h:j<l.length)(h0:0<j)(hb:l[j-1]>=l[j]):p6 l=false:=by
 rw[Bool.eq_false_iff]
 intro k
 have :=wk.1 k j h h0
 omega
theorem Qm{i n:Nat}(h0:0<i)(h:i<=n)(hn:n<=maxLen):IntKind.i64.wrap ((i:Int)-1)=((i-1:Nat):Int):=BM (by omega) (Nat.le_trans h hn)
@[go_sem] def P130:PSpec:=p1 fw (fun _=>True) (fun l=>.bool (p6 l)) true
@[go_sem] def P5:Spec:=P130.toSpec
set_option maxHeartbeats 4000000 in
theorem Sn:aZ Tryz.prog 130 P130:=by
 refine fQ (rs:=[.tmp 2]) Tryz.func130 Tryz.ntmps130 fun l hp hw=>?_
 have hP:=fU
 simp only[fw]at hw |-
 have hΓ:=@fE Tryz.prog
 have hl:l.length<=maxLen:=by have:=hw.1.1;simpa using this
 repeat refine sq ?_
 refine rs hΓ [0] [] ?_
 repeat refine sq ?_
 refine rs hΓ [0,3] [] ?_
 repeat refine sq ?_
 refine aR ?_
 repeat refine sq ?_
 refine cr (fun i:Nat=>[(3,⟨true,.v (vInt i)⟩)]) (fun i=>[]) (fun i=>0<i/\∀ j (h:j<l.length),j<i->0<j->l[j-1] <l[j]) (fun i=>l.length-i) 1 ?_ ?_ ?_ ?_
 ·exact⟨Nat.one_pos,fun j h h1 h2=>by omega⟩
 ·rfl
 ·rfl
 rintro i ⟨h0,hz⟩
 simp only[go_sem]
 repeat refine sq ?_
 refine rs hΓ [0,3,7] [] ?_
 repeat refine sq ?_
 refine aB (fun hb=>?_) fun hb=>?_
 ·have ab:i<l.length:=by simpa using hb
  have ao:(i:Int)<l.length:=by omega
  have w5:=Qm h0 (Nat.le_of_lt ab) hl
  have Eb:(0:Int)<=((i-1:Nat):Int):=by omega
  have qw:((i-1:Nat):Int)<l.length:=by omega
  have Ea:i-1<l.length:=by omega
  repeat refine sq ?_
  refine aJ ?_
  repeat refine sq ?_
  refine aR ?_
  repeat refine sq ?_
  refine dx hΓ hP [[],[],[1],[0,1,2],u4,[],[],[5,6],[5,6,7],u9] [0,3,19] [] (by kernel_rfl) (fun K' hK=>by simp only[go_sem,w5,ah ab,ah Ea,ai,aj,ao,qw];exact fd) ?_
  repeat refine sq ?_
  refine aB (fun hb=>?_) fun hb=>?_
  ·repeat refine sq ?_
   refine rs hΓ [2] [] ?_
   refine aC ?_
   simp only[go_sem]
   rw[SM ab h0 (by simpa using hb)]
  ·replace hb:l[i-1] <l[i]:=by simpa using hb
   repeat refine sq ?_
   refine aJ ?_
   refine bV ?_
   simp only[go_sem]
   refine kp [0,3] [] ?_
   repeat refine sq ?_
   refine aS hΓ fun K' hK=>?_
   simp only[go_sem]
   repeat (refine⟨ob,?_⟩)
   refine hK _ ?_
   clear K' hK
   simp only[go_sem]
   refine⟨i+1,⟨by omega,fun j h h1 h2=>?_⟩,by omega,?_⟩
   ·rcases Nat.lt_succ_iff_lt_or_eq.1 h1 with h3 | rfl
    ·exact hz j h h3 h2
    ·exact hb
   refine bg [0,3] [] ?_ ?_<;>simp only[go_sem,a7 ab hl,bb]
 ·have bF:l.length<=i:=by
    have :¬ (i:Int)<l.length:=by simpa using hb
    omega
  repeat refine sq ?_
  refine bR ?_
  simp only[go_sem]
  refine kp [] [] ?_
  repeat refine sq ?_
  refine rs hΓ [2] [] ?_
  refine aC ?_
  simp only[go_sem]
  rw[wk.2 fun j h h0=>hz j h (by omega) h0]
end
noncomputable section
def K3:List (Nat×Spec):=[(130,P5),(145,GM),(96,tG)]
theorem acU:KS K3:=tc Sn.sound<|tc Cd.sound<|tc yN.sound<|tn
attribute [go_sem] K3
def lr(l:List Int):Bool:=decide (0<l.length)&&p6 l&&cb (l.getD 0 0) 1 30&&cb (l.getD (l.length-1) 0) 1 30
@[go_sem] def P149:PSpec:=p1 fw (fun _=>True) (fun l=>.bool (lr l)) true
@[go_sem] def ab9:Spec:=P149.toSpec
set_option maxHeartbeats 4000000 in
theorem Sk:aZ Tryz.prog 149 P149:=by
 refine fQ (rs:=[.tmp 2]) Tryz.func149 Tryz.ntmps149 fun l hp hw=>?_
 simp only[fw]at hw |-
 have hΓ:=acU
 have hl:l.length<=maxLen:=by have:=hw.1.1;simpa using this
 by_cases h0:l.length=0
 ·have e0:l=[]:=List.length_eq_zero_iff.1 h0
  subst e0
  repeat refine sq ?_
  refine rs hΓ [0] [] ?_
  repeat refine sq ?_
  refine rs hΓ [2] [] ?_
  refine aC ?_
  simp only[go_sem]
  rfl
 ·have hq:0<l.length:=by omega
  have bO:(0:Int)<l.length:=by omega
  have oC:=BM h0 hl
  have zX:((l.length-1:Nat):Int)<l.length:=by omega
  have ly:l.length-1<l.length:=by omega
  have hp3:(0:Int)<=((l.length-1:Nat):Int):=by omega
  have Ys:(l.map vInt).getD 0 default=vInt (l.getD 0 0):=by rw[ah hq,cz hq]
  have eZ:(l.map vInt).getD (l.length-1) default=vInt (l.getD (l.length-1) 0):=by rw[ah ly,cz ly]
  have hd:decide ((l.length:Int)>0)=true:=by simpa using hq
  repeat refine sq ?_
  refine rs hΓ [0] [] ?_
  repeat refine sq ?_
  refine rx hΓ [2] [] (fun K' hK=>by simp only[go_sem,oC,Ys,eZ,ai,Int.toNat_zero,aj,bO,zX,hd,decide_true];exact fn) ?_
  refine aC ?_
  simp only[go_sem]
  have Ea:decide (0<l.length)=true:=by simpa using hq
  simp only[lr,Ea,Bool.true_and,Bool.decide_and,Bool.decide_eq_true]
theorem y8{i n:Nat}(h:i<n)(hn:n<=maxLen):∃ p:Nat,(IntKind.i64.wrap ((i:Int)-1)).toNat=p/\p<n/\(0<i->p=i-1/\0<=IntKind.i64.wrap ((i:Int)-1)/\IntKind.i64.wrap ((i:Int)-1)<n):=by
 unfold maxLen at hn
 rcases Nat.eq_zero_or_pos i with rfl | hp
 ·exact⟨0,by decide,h,fun h=>by omega⟩
 ·have:IntKind.i64.wrap ((i:Int)-1)=((i-1:Nat):Int):=by rw[wrap_i64 (by omega) (by omega)];omega
  exact⟨i-1,by rw[this];rfl,by omega,fun _=>⟨rfl,by omega,by omega⟩⟩
theorem Cn{l:List Int}(hr:p6 l=true):∀ (k j:Nat) (h:j+k<l.length),l[j]+k<=l[j+k]
 | 0,j,h=>by simp
 |k+1,j,h=>by
  have h1:=Cn hr k j (by omega)
  have h2:=wk.1 hr (j+k+1) (by omega) (by omega)
  have e:j+k+1-1=j+k:=by omega
  simp only[e]at h2
  show l[j]+((k+1:Nat):Int)<=l[j+k+1]
  omega
theorem ov{l:List Int}:lr l=true↔0<l.length/\l.length<=30/\p6 l=true/\∀ j (h:j<l.length),cb l[j] 1 30=true:=by
 unfold lr
 simp only[Bool.and_eq_true,decide_eq_true_eq]
 constructor
 ·rintro⟨⟨⟨h1,h2⟩,h3⟩,h4⟩
  have ly:l.length-1<l.length:=by omega
  rw[cz h1]at h3
  rw[cz ly]at h4
  unfold cb at h3 h4 |-
  simp only[Bool.and_eq_true,decide_eq_true_eq]at h3 h4 |-
  have eP:∀ j (h:j<l.length),l[0]+j<=l[j]:=fun j h=>by
   have :=Cn h2 j 0 (by omega)
   simpa using this
  have gu:∀ j (h:j<l.length),l[j]<=l[l.length-1]:=fun j h=>by
   have :=Cn h2 (l.length-1-j) j (by omega)
   have e:j+(l.length-1-j)=l.length-1:=by omega
   simp only[e]at this
   omega
  refine⟨h1,?_,h2,fun j h=>?_⟩
  ·have:=eP _ ly;omega
  ·have a:=eP j h;have b:=gu j h;omega
 ·rintro⟨h1,h2,h3,h4⟩
  have ly:l.length-1<l.length:=by omega
  refine⟨⟨⟨h1,h3⟩,?_⟩,?_⟩
  ·rw[cz h1];exact h4 0 h1
  ·rw[cz ly];exact h4 _ ly
theorem vE{b:Bool}{p:Prop}(h:b=true↔p)(hn:¬ p):b=false:=by
 cases b with
 |false=>rfl
 |true=>exact(hn (h.1 rfl)).elim
end
set_option maxHeartbeats 8000000
noncomputable section
def K4:List (Nat×Spec):=[(96,tG),(144,P4),(145,GM),(147,P2),(148,P1),(149,ab9),(150,GL),(151,ab8)]
theorem BK:KS K4:=tc yN.sound<|tc H9.sound<|tc Cd.sound<|tc H8.sound<|tc H7.sound<|tc Sk.sound<|tc Cc.sound<|tc Sj.sound<|tn
attribute [go_sem] K4
def gY(b:Bool)(n:Int):Int:=if b then 0 else n
theorem AL(b:Bool)(n:Int)(hn:n≠0):(gY b n != 0)=!b:=by cases b<;>simp[gY,hn]
def oe(p:Pap):Bool:=cb p.id 1 999&&cb p.lv 1 30
def dJ(r:Rec):Bool:=cb r.so 1 99999&&cb r.bo 1 99&&cb r.pa 1 999&&lr r.lv&&dayB r.da&&kZ r.kn r.un
def jR(r:Ret):Bool:=cb r.so 1 99999&&cb r.re 1 99999&&cb r.pe 1 99&&lr r.lv&&cb r.lo 0 r.hi&&dayB r.hi&&kZ r.kn r.un
def kC(s:Sig):Bool:=cb s.so 1 99999&&cb s.pe 0 99&&cb s.pa 1 999&&cb s.le 1 30&&dayB s.da&&kZ s.kn s.un
@[go_sem] def P61:PSpec:=p1 iP (fun _=>True) (fun x=>vInt (gY (oe x) 20)) true
@[go_sem] def S61:Spec:=P61.toSpec
theorem RU:aZ Tryz.prog 61 P61:=by
 refine fQ (rs:=[.tmp 2]) Tryz.func61 Tryz.ntmps61 fun x hp hw=>?_
 simp only[iP,c9]at hw |-
 have hΓ:=BK
 repeat refine sq ?_
 refine rs hΓ [1] [[1,0]] ?_
 repeat refine sq ?_
 refine rs hΓ [12] [] ?_
 repeat refine eK ?_
 refine aB (fun hb=>?_) fun hb=>?_
 ·repeat refine eK ?_
  repeat refine sq ?_
  refine rs hΓ [2] [] ?_
  refine aC ?_
  simp only[go_sem]
  all_goals first | rfl | (simp;done) | (grind [oe,gY];done)
 ·repeat refine eK ?_
  refine aJ ?_
  repeat refine sq ?_
  refine rs hΓ [2] [] ?_
  refine aC ?_
  simp only[go_sem]
  all_goals first | rfl | (simp;done) | (grind [oe,gY];done)
@[go_sem] def P63:PSpec:=p1 iR (fun _=>True) (fun x=>vInt (gY (dJ x) 21)) true
@[go_sem] def S63:Spec:=P63.toSpec
theorem RT:aZ Tryz.prog 63 P63:=by
 refine fQ (rs:=[.tmp 2]) Tryz.func63 Tryz.ntmps63 fun x hp hw=>?_
 simp only[iR,encR]at hw |-
 have hΓ:=BK
 repeat refine sq ?_
 refine rs hΓ [1] [[1,0]] ?_
 repeat refine sq ?_
 refine rs hΓ [38] [] ?_
 repeat refine eK ?_
 refine aB (fun hb=>?_) fun hb=>?_
 ·repeat refine eK ?_
  repeat refine sq ?_
  refine rs hΓ [2] [] ?_
  refine aC ?_
  simp only[go_sem]
  all_goals first | rfl | (simp;done) | (grind [dJ,gY];done)
 ·repeat refine eK ?_
  refine aJ ?_
  repeat refine sq ?_
  refine rs hΓ [2] [] ?_
  refine aC ?_
  simp only[go_sem]
  all_goals first | rfl | (simp;done) | (grind [dJ,gY];done)
@[go_sem] def P65:PSpec:=p1 iT (fun _=>True) (fun x=>vInt (gY (jR x) 22)) true
@[go_sem] def S65:Spec:=P65.toSpec
theorem RS:aZ Tryz.prog 65 P65:=by
 refine fQ (rs:=[.tmp 2]) Tryz.func65 Tryz.ntmps65 fun x hp hw=>?_
 simp only[iT,cT]at hw |-
 have hΓ:=BK
 repeat refine sq ?_
 refine rs hΓ [1] [[1,0]] ?_
 repeat refine sq ?_
 refine rs hΓ [49] [] ?_
 repeat refine eK ?_
 refine aB (fun hb=>?_) fun hb=>?_
 ·repeat refine eK ?_
  repeat refine sq ?_
  refine rs hΓ [2] [] ?_
  refine aC ?_
  simp only[go_sem]
  all_goals first | rfl | (simp;done) | (grind [jR,gY];done)
 ·repeat refine eK ?_
  refine aJ ?_
  repeat refine sq ?_
  refine rs hΓ [2] [] ?_
  refine aC ?_
  simp only[go_sem]
  all_goals first | rfl | (simp;done) | (grind [jR,gY];done)
@[go_sem] def P67:PSpec:=p1 iS (fun _=>True) (fun x=>vInt (gY (kC x) 23)) true
@[go_sem] def PU:Spec:=P67.toSpec
theorem RR:aZ Tryz.prog 67 P67:=by
 refine fQ (rs:=[.tmp 2]) Tryz.func67 Tryz.ntmps67 fun x hp hw=>?_
 simp only[iS,encS]at hw |-
 have hΓ:=BK
 repeat refine sq ?_
 refine rs hΓ [1] [[1,0]] ?_
 repeat refine sq ?_
 refine rs hΓ [38] [] ?_
 repeat refine eK ?_
 refine aB (fun hb=>?_) fun hb=>?_
 ·repeat refine eK ?_
  repeat refine sq ?_
  refine rs hΓ [2] [] ?_
  refine aC ?_
  simp only[go_sem]
  all_goals first | rfl | (simp;done) | (grind [kC,gY];done)
 ·repeat refine eK ?_
  refine aJ ?_
  repeat refine sq ?_
  refine rs hΓ [2] [] ?_
  refine aC ?_
  simp only[go_sem]
  all_goals first | rfl | (simp;done) | (grind [kC,gY];done)
@[go_sem] def P110:PSpec:=p1 iP (fun _=>True) (fun x=>vInt x.id) true
@[go_sem] def acj:Spec:=P110.toSpec
theorem Sv:aZ Tryz.prog 110 P110:=by
 refine fQ (rs:=[.tmp 2]) Tryz.func110 Tryz.ntmps110 fun x hp hw=>?_
 simp only[iP,c9]at hw |-
 have hΓ:=@fE Tryz.prog
 repeat refine sq ?_
 refine rs hΓ [1] [[1,0]] ?_
 repeat refine sq ?_
 refine rs hΓ [2] [] ?_
 refine aC ?_
 simp only[go_sem]
 all_goals exact e8
@[go_sem] def P112:PSpec:=p1 iR (fun _=>True) (fun x=>vInt x.so) true
@[go_sem] def ach:Spec:=P112.toSpec
theorem Ss:aZ Tryz.prog 112 P112:=by
 refine fQ (rs:=[.tmp 2]) Tryz.func112 Tryz.ntmps112 fun x hp hw=>?_
 simp only[iR,encR]at hw |-
 have hΓ:=@fE Tryz.prog
 repeat refine sq ?_
 refine rs hΓ [1] [[1,0]] ?_
 repeat refine sq ?_
 refine rs hΓ [2] [] ?_
 refine aC ?_
 simp only[go_sem]
 all_goals exact e8
@[go_sem] def P114:PSpec:=p1 iT (fun _=>True) (fun x=>vInt x.so) true
@[go_sem] def acf:Spec:=P114.toSpec
theorem Sq:aZ Tryz.prog 114 P114:=by
 refine fQ (rs:=[.tmp 2]) Tryz.func114 Tryz.ntmps114 fun x hp hw=>?_
 simp only[iT,cT]at hw |-
 have hΓ:=@fE Tryz.prog
 repeat refine sq ?_
 refine rs hΓ [1] [[1,0]] ?_
 repeat refine sq ?_
 refine rs hΓ [2] [] ?_
 refine aC ?_
 simp only[go_sem]
 all_goals exact e8
@[go_sem] def P116:PSpec:=p1 iS (fun _=>True) (fun x=>vInt x.so) true
@[go_sem] def acd:Spec:=P116.toSpec
theorem So:aZ Tryz.prog 116 P116:=by
 refine fQ (rs:=[.tmp 2]) Tryz.func116 Tryz.ntmps116 fun x hp hw=>?_
 simp only[iS,encS]at hw |-
 have hΓ:=@fE Tryz.prog
 repeat refine sq ?_
 refine rs hΓ [1] [[1,0]] ?_
 repeat refine sq ?_
 refine rs hΓ [2] [] ?_
 refine aC ?_
 simp only[go_sem]
 all_goals exact e8
end
set_option maxHeartbeats 8000000
noncomputable section
def K5:List (Nat×Spec):=[(61,S61),(63,S63),(65,S65),(67,PU),(110,acj),(112,ach),(114,acf),(116,acd)]
theorem BJ:KS K5:=tc RU.sound<|tc RT.sound<|tc RS.sound<|tc RR.sound<|tc Sv.sound<|tc Ss.sound<|tc Sq.sound<|tc So.sound<|tn
attribute [go_sem] K5
def oq{α:Type}(fj:α->Bool)(num:α->Int)(l:List α)(n:Nat):Prop:=∀ j (h:j<l.length),j<n->fj l[j]=true/\(0<j->num l[j-1] <num l[j])
open Classical in
def jd{α:Type}(fj:α->Bool)(num:α->Int)(l:List α):Bool:=decide (oq fj num l l.length)
theorem kq{α:Type}{fj:α->Bool}{num:α->Int}{l:List α}:jd fj num l=true↔oq fj num l l.length:=by unfold jd;exact @decide_eq_true_iff _ (Classical.propDecidable _)
theorem zf{α:Type}{fj:α->Bool}{num:α->Int}{l:List α}:oq fj num l 0:=fun j _ h=>by omega
theorem zg{α:Type}{fj:α->Bool}{num:α->Int}{l:List α}{i:Nat}(h:oq fj num l i)(hi:i<l.length)(hc:fj l[i]=true/\(0<i->num l[i-1] <num l[i])):oq fj num l (i+1):=by
 intro j hj fh
 rcases Nat.lt_succ_iff_lt_or_eq.1 fh with h1 | rfl
 ·exact h j hj h1
 ·exact hc
@[go_sem] def P109:PSpec:=p4 (fW iP) iI (iF 61) (iF 110) (fun _ _ _ _=>True) (fun l m _ _=>.bool (jd oe Pap.id l&&decide ((l.length:Int)<=m))) true
@[go_sem] def ack:Spec:=P109.toSpec
theorem Sw:aZ Tryz.prog 109 P109:=by
 refine rC (rs:=[.tmp 8]) Tryz.func109 Tryz.ntmps109 fun l m _ _ hp hw=>?_
 have hP:=fU
 simp only[iF,iI,iP,fW,iC,c9]at hw |-
 have hΓ:=BJ
 have hl:l.length<=maxLen:=by have:=hw.1.1;simpa using this
 repeat refine sq ?_
 refine rs hΓ [0,1,2,3] [] ?_
 repeat refine sq ?_
 refine rs hΓ [0,1,2,3,11,12,13] [] ?_
 repeat refine sq ?_
 refine aR ?_
 repeat refine sq ?_
 refine cr (fun s:Nat=>[(13,⟨true,.v (vInt s)⟩)]) (fun s=>[]) (fun s=>s<=l.length/\oq oe Pap.id l s) (fun s=>l.length-s) 0 ?_ ?_ ?_ ?_
 ·exact⟨Nat.zero_le _,zf⟩
 ·rfl
 ·rfl
 rintro i ⟨hi,hR⟩
 simp only[go_sem]
 repeat refine sq ?_
 refine rs hΓ [0,1,2,3,11,12,13,14] [] ?_
 repeat refine sq ?_
 refine aB (fun hb=>?_) fun hb=>?_
 ·have ab:i<l.length:=by simpa using hb
  have ao:(i:Int)<l.length:=by omega
  clear hb
  obtain⟨p,hp,qx,cL⟩:=y8 ab hl
  repeat refine sq ?_
  refine aJ ?_
  repeat refine sq ?_
  refine aR ?_
  repeat refine sq ?_
  refine rx hΓ [0,1,2,3,9,10,11,12,13] [[10,0]] (fun K' hK=>by simp only[go_sem,ah ab,ai,aj,ao];exact fn) ?_
  repeat refine sq ?_
  refine dx hΓ hP [[],[],[0,1],[0,1,2],u4,u5,u6,u7,u8,u8,u8,[0,1,2,3,4,5,6,7,10],[0,1,2,3,4,5,6,7,9,10,11],[0,1,2,3,4,5,6,7,9,10,11,12],jK,u8,u8,lR,iA,mQ,oZ] [0,1,2,3,11,12,13,38] [] (by kernel_rfl) (fun K' hK=>by simp only[go_sem,ah ab,ai,aj,ao,hp,ah qx,fun b=>AL b 20 (by decide)];(repeat (refine⟨by first | exact ob | (intro h;have:=cL (by simp_all);simp_all;done),?_⟩));exact fM) ?_
  repeat refine sq ?_
  refine aB (fun hb=>?_) fun hb=>?_
  ·repeat refine sq ?_
   have kh:jd oe Pap.id l=false:=by
    rw[vE kq]
    intro h
    obtain⟨h1,h2⟩:=h i ab ab
    simp only[h1,Bool.not_true,Bool.false_or,Bool.and_eq_true,decide_eq_true_eq]at hb
    obtain⟨e,_⟩:=cL (by omega)
    subst e
    have :=h2 (by omega)
    have :=hb.2
    omega
   repeat refine sq ?_
   refine rx hΓ [8] [] (fun K' hK=>by simp only[go_sem,ah ab,ai,aj,ao];exact fn) ?_
   refine aC ?_
   simp only[go_sem]
   rw[kh];rfl
  ·repeat refine sq ?_
   have hn:oe l[i]=true/\(0<i->Pap.id l[i-1] <Pap.id l[i]):=by
    simp only[Bool.or_eq_false_iff,Bool.not_eq_false',Bool.and_eq_false_iff,decide_eq_false_iff_not]at hb
    refine⟨hb.1,fun h=>?_⟩
    obtain⟨e,_⟩:=cL h
    subst e
    omega
   refine aJ ?_
   refine bV ?_
   simp only[go_sem]
   refine kp [0,1,2,3,11,12,13] [] ?_
   repeat refine sq ?_
   refine aS hΓ fun K' hK=>?_
   simp only[go_sem,ah ab,ai,aj,ao]
   repeat (refine⟨ob,?_⟩)
   refine hK _ ?_
   clear K' hK
   simp only[go_sem]
   refine⟨i+1,⟨ab,?_⟩,by(show l.length-(i+1)<l.length-i;omega),?_⟩
   ·exact zg hR ab hn
   refine bg [0,1,2,3,11,12,13] [] ?_ ?_<;>simp only[go_sem,a7 ab hl,bb]
 ·have bF:i=l.length:=by
   have :¬ (i:Int)<l.length:=by simpa using hb
   omega
  clear hb
  subst bF
  repeat refine sq ?_
  refine bR ?_
  simp only[go_sem]
  refine kp [0,1] [] ?_
  repeat refine sq ?_
  refine rs hΓ [8] [] ?_
  refine aC ?_
  simp only[go_sem]
  rw[kq.2 hR];rfl
@[go_sem] def P111:PSpec:=p4 (fW iR) iI (iF 63) (iF 112) (fun _ _ _ _=>True) (fun l m _ _=>.bool (jd dJ Rec.so l&&decide ((l.length:Int)<=m))) true
@[go_sem] def aci:Spec:=P111.toSpec
theorem Su:aZ Tryz.prog 111 P111:=by
 refine rC (rs:=[.tmp 8]) Tryz.func111 Tryz.ntmps111 fun l m _ _ hp hw=>?_
 have hP:=fU
 simp only[iF,iI,iR,fW,iC,encR]at hw |-
 have hΓ:=BJ
 have hl:l.length<=maxLen:=by have:=hw.1.1;simpa using this
 repeat refine sq ?_
 refine rs hΓ [0,1,2,3] [] ?_
 repeat refine sq ?_
 refine rs hΓ [0,1,2,3,11,12,13] [] ?_
 repeat refine sq ?_
 refine aR ?_
 repeat refine sq ?_
 refine cr (fun s:Nat=>[(13,⟨true,.v (vInt s)⟩)]) (fun s=>[]) (fun s=>s<=l.length/\oq dJ Rec.so l s) (fun s=>l.length-s) 0 ?_ ?_ ?_ ?_
 ·exact⟨Nat.zero_le _,zf⟩
 ·rfl
 ·rfl
 rintro i ⟨hi,hR⟩
 simp only[go_sem]
 repeat refine sq ?_
 refine rs hΓ [0,1,2,3,11,12,13,14] [] ?_
 repeat refine sq ?_
 refine aB (fun hb=>?_) fun hb=>?_
 ·have ab:i<l.length:=by simpa using hb
  have ao:(i:Int)<l.length:=by omega
  clear hb
  obtain⟨p,hp,qx,cL⟩:=y8 ab hl
  repeat refine sq ?_
  refine aJ ?_
  repeat refine sq ?_
  refine aR ?_
  repeat refine sq ?_
  refine rx hΓ [0,1,2,3,9,10,11,12,13] [[10,0]] (fun K' hK=>by simp only[go_sem,ah ab,ai,aj,ao];exact fn) ?_
  repeat refine sq ?_
  refine dx hΓ hP [[],[],[0,1],[0,1,2],u4,u5,u6,u7,u8,u8,u8,[0,1,2,3,4,5,6,7,10],[0,1,2,3,4,5,6,7,9,10,11],[0,1,2,3,4,5,6,7,9,10,11,12],jK,u8,u8,lR,iA,mQ,oZ] [0,1,2,3,11,12,13,38] [] (by kernel_rfl) (fun K' hK=>by simp only[go_sem,ah ab,ai,aj,ao,hp,ah qx,fun b=>AL b 21 (by decide)];(repeat (refine⟨by first | exact ob | (intro h;have:=cL (by simp_all);simp_all;done),?_⟩));exact fM) ?_
  repeat refine sq ?_
  refine aB (fun hb=>?_) fun hb=>?_
  ·repeat refine sq ?_
   have kh:jd dJ Rec.so l=false:=by
    rw[vE kq]
    intro h
    obtain⟨h1,h2⟩:=h i ab ab
    simp only[h1,Bool.not_true,Bool.false_or,Bool.and_eq_true,decide_eq_true_eq]at hb
    obtain⟨e,_⟩:=cL (by omega)
    subst e
    have :=h2 (by omega)
    have :=hb.2
    omega
   repeat refine sq ?_
   refine rx hΓ [8] [] (fun K' hK=>by simp only[go_sem,ah ab,ai,aj,ao];exact fn) ?_
   refine aC ?_
   simp only[go_sem]
   rw[kh];rfl
  ·repeat refine sq ?_
   have hn:dJ l[i]=true/\(0<i->Rec.so l[i-1] <Rec.so l[i]):=by
    simp only[Bool.or_eq_false_iff,Bool.not_eq_false',Bool.and_eq_false_iff,decide_eq_false_iff_not]at hb
    refine⟨hb.1,fun h=>?_⟩
    obtain⟨e,_⟩:=cL h
    subst e
    omega
   refine aJ ?_
   refine bV ?_
   simp only[go_sem]
   refine kp [0,1,2,3,11,12,13] [] ?_
   repeat refine sq ?_
   refine aS hΓ fun K' hK=>?_
   simp only[go_sem,ah ab,ai,aj,ao]
   repeat (refine⟨ob,?_⟩)
   refine hK _ ?_
   clear K' hK
   simp only[go_sem]
   refine⟨i+1,⟨ab,?_⟩,by(show l.length-(i+1)<l.length-i;omega),?_⟩
   ·exact zg hR ab hn
   refine bg [0,1,2,3,11,12,13] [] ?_ ?_<;>simp only[go_sem,a7 ab hl,bb]
 ·have bF:i=l.length:=by
   have :¬ (i:Int)<l.length:=by simpa using hb
   omega
  clear hb
  subst bF
  repeat refine sq ?_
  refine bR ?_
  simp only[go_sem]
  refine kp [0,1] [] ?_
  repeat refine sq ?_
  refine rs hΓ [8] [] ?_
  refine aC ?_
  simp only[go_sem]
  rw[kq.2 hR];rfl
@[go_sem] def P113:PSpec:=p4 (fW iT) iI (iF 65) (iF 114) (fun _ _ _ _=>True) (fun l m _ _=>.bool (jd jR Ret.so l&&decide ((l.length:Int)<=m))) true
@[go_sem] def acg:Spec:=P113.toSpec
theorem Sr:aZ Tryz.prog 113 P113:=by
 refine rC (rs:=[.tmp 8]) Tryz.func113 Tryz.ntmps113 fun l m _ _ hp hw=>?_
 have hP:=fU
 simp only[iF,iI,fW,iT,iC,cT]at hw |-
 have hΓ:=BJ
 have hl:l.length<=maxLen:=by have:=hw.1.1;simpa using this
 repeat refine sq ?_
 refine rs hΓ [0,1,2,3] [] ?_
 repeat refine sq ?_
 refine rs hΓ [0,1,2,3,11,12,13] [] ?_
 repeat refine sq ?_
 refine aR ?_
 repeat refine sq ?_
 refine cr (fun s:Nat=>[(13,⟨true,.v (vInt s)⟩)]) (fun s=>[]) (fun s=>s<=l.length/\oq jR Ret.so l s) (fun s=>l.length-s) 0 ?_ ?_ ?_ ?_
 ·exact⟨Nat.zero_le _,zf⟩
 ·rfl
 ·rfl
 rintro i ⟨hi,hR⟩
 simp only[go_sem]
 repeat refine sq ?_
 refine rs hΓ [0,1,2,3,11,12,13,14] [] ?_
 repeat refine sq ?_
 refine aB (fun hb=>?_) fun hb=>?_
 ·have ab:i<l.length:=by simpa using hb
  have ao:(i:Int)<l.length:=by omega
  clear hb
  obtain⟨p,hp,qx,cL⟩:=y8 ab hl
  repeat refine sq ?_
  refine aJ ?_
  repeat refine sq ?_
  refine aR ?_
  repeat refine sq ?_
  refine rx hΓ [0,1,2,3,9,10,11,12,13] [[10,0]] (fun K' hK=>by simp only[go_sem,ah ab,ai,aj,ao];exact fn) ?_
  repeat refine sq ?_
  refine dx hΓ hP [[],[],[0,1],[0,1,2],u4,u5,u6,u7,u8,u8,u8,[0,1,2,3,4,5,6,7,10],[0,1,2,3,4,5,6,7,9,10,11],[0,1,2,3,4,5,6,7,9,10,11,12],jK,u8,u8,lR,iA,mQ,oZ] [0,1,2,3,11,12,13,38] [] (by kernel_rfl) (fun K' hK=>by simp only[go_sem,ah ab,ai,aj,ao,hp,ah qx,fun b=>AL b 22 (by decide)];(repeat (refine⟨by first | exact ob | (intro h;have:=cL (by simp_all);simp_all;done),?_⟩));exact fM) ?_
  repeat refine sq ?_
  refine aB (fun hb=>?_) fun hb=>?_
  ·repeat refine sq ?_
   have kh:jd jR Ret.so l=false:=by
    rw[vE kq]
    intro h
    obtain⟨h1,h2⟩:=h i ab ab
    simp only[h1,Bool.not_true,Bool.false_or,Bool.and_eq_true,decide_eq_true_eq]at hb
    obtain⟨e,_⟩:=cL (by omega)
    subst e
    have :=h2 (by omega)
    have :=hb.2
    omega
   repeat refine sq ?_
   refine rx hΓ [8] [] (fun K' hK=>by simp only[go_sem,ah ab,ai,aj,ao];exact fn) ?_
   refine aC ?_
   simp only[go_sem]
   rw[kh];rfl
  ·repeat refine sq ?_
   have hn:jR l[i]=true/\(0<i->Ret.so l[i-1] <Ret.so l[i]):=by
    simp only[Bool.or_eq_false_iff,Bool.not_eq_false',Bool.and_eq_false_iff,decide_eq_false_iff_not]at hb
    refine⟨hb.1,fun h=>?_⟩
    obtain⟨e,_⟩:=cL h
    subst e
    omega
   refine aJ ?_
   refine bV ?_
   simp only[go_sem]
   refine kp [0,1,2,3,11,12,13] [] ?_
   repeat refine sq ?_
   refine aS hΓ fun K' hK=>?_
   simp only[go_sem,ah ab,ai,aj,ao]
   repeat (refine⟨ob,?_⟩)
   refine hK _ ?_
   clear K' hK
   simp only[go_sem]
   refine⟨i+1,⟨ab,?_⟩,by(show l.length-(i+1)<l.length-i;omega),?_⟩
   ·exact zg hR ab hn
   refine bg [0,1,2,3,11,12,13] [] ?_ ?_<;>simp only[go_sem,a7 ab hl,bb]
 ·have bF:i=l.length:=by
   have :¬ (i:Int)<l.length:=by simpa using hb
   omega
  clear hb
  subst bF
  repeat refine sq ?_
  refine bR ?_
  simp only[go_sem]
  refine kp [0,1] [] ?_
  repeat refine sq ?_
  refine rs hΓ [8] [] ?_
  refine aC ?_
  simp only[go_sem]
  rw[kq.2 hR];rfl
@[go_sem] def P115:PSpec:=p4 (fW iS) iI (iF 67) (iF 116) (fun _ _ _ _=>True) (fun l m _ _=>.bool (jd kC Sig.so l&&decide ((l.length:Int)<=m))) true
@[go_sem] def ace:Spec:=P115.toSpec
theorem Sp:aZ Tryz.prog 115 P115:=by
 refine rC (rs:=[.tmp 8]) Tryz.func115 Tryz.ntmps115 fun l m _ _ hp hw=>?_
 have hP:=fU
 simp only[iF,iI,iS,fW,iC,encS]at hw |-
 have hΓ:=BJ
 have hl:l.length<=maxLen:=by have:=hw.1.1;simpa using this
 repeat refine sq ?_
 refine rs hΓ [0,1,2,3] [] ?_
 repeat refine sq ?_
 refine rs hΓ [0,1,2,3,11,12,13] [] ?_
 repeat refine sq ?_
 refine aR ?_
 repeat refine sq ?_
 refine cr (fun s:Nat=>[(13,⟨true,.v (vInt s)⟩)]) (fun s=>[]) (fun s=>s<=l.length/\oq kC Sig.so l s) (fun s=>l.length-s) 0 ?_ ?_ ?_ ?_
 ·exact⟨Nat.zero_le _,zf⟩
 ·rfl
 ·rfl
 rintro i ⟨hi,hR⟩
 simp only[go_sem]
 repeat refine sq ?_
 refine rs hΓ [0,1,2,3,11,12,13,14] [] ?_
 repeat refine sq ?_
 refine aB (fun hb=>?_) fun hb=>?_
 ·have ab:i<l.length:=by simpa using hb
  have ao:(i:Int)<l.length:=by omega
  clear hb
  obtain⟨p,hp,qx,cL⟩:=y8 ab hl
  repeat refine sq ?_
  refine aJ ?_
  repeat refine sq ?_
  refine aR ?_
  repeat refine sq ?_
  refine rx hΓ [0,1,2,3,9,10,11,12,13] [[10,0]] (fun K' hK=>by simp only[go_sem,ah ab,ai,aj,ao];exact fn) ?_
  repeat refine sq ?_
  refine dx hΓ hP [[],[],[0,1],[0,1,2],u4,u5,u6,u7,u8,u8,u8,[0,1,2,3,4,5,6,7,10],[0,1,2,3,4,5,6,7,9,10,11],[0,1,2,3,4,5,6,7,9,10,11,12],jK,u8,u8,lR,iA,mQ,oZ] [0,1,2,3,11,12,13,38] [] (by kernel_rfl) (fun K' hK=>by simp only[go_sem,ah ab,ai,aj,ao,hp,ah qx,fun b=>AL b 23 (by decide)];(repeat (refine⟨by first | exact ob | (intro h;have:=cL (by simp_all);simp_all;done),?_⟩));exact fM) ?_
  repeat refine sq ?_
  refine aB (fun hb=>?_) fun hb=>?_
  ·repeat refine sq ?_
   have kh:jd kC Sig.so l=false:=by
    rw[vE kq]
    intro h
    obtain⟨h1,h2⟩:=h i ab ab
    simp only[h1,Bool.not_true,Bool.false_or,Bool.and_eq_true,decide_eq_true_eq]at hb
    obtain⟨e,_⟩:=cL (by omega)
    subst e
    have :=h2 (by omega)
    have :=hb.2
    omega
   repeat refine sq ?_
   refine rx hΓ [8] [] (fun K' hK=>by simp only[go_sem,ah ab,ai,aj,ao];exact fn) ?_
   refine aC ?_
   simp only[go_sem]
   rw[kh];rfl
  ·repeat refine sq ?_
   have hn:kC l[i]=true/\(0<i->Sig.so l[i-1] <Sig.so l[i]):=by
    simp only[Bool.or_eq_false_iff,Bool.not_eq_false',Bool.and_eq_false_iff,decide_eq_false_iff_not]at hb
    refine⟨hb.1,fun h=>?_⟩
    obtain⟨e,_⟩:=cL h
    subst e
    omega
   refine aJ ?_
   refine bV ?_
   simp only[go_sem]
   refine kp [0,1,2,3,11,12,13] [] ?_
   repeat refine sq ?_
   refine aS hΓ fun K' hK=>?_
   simp only[go_sem,ah ab,ai,aj,ao]
   repeat (refine⟨ob,?_⟩)
   refine hK _ ?_
   clear K' hK
   simp only[go_sem]
   refine⟨i+1,⟨ab,?_⟩,by(show l.length-(i+1)<l.length-i;omega),?_⟩
   ·exact zg hR ab hn
   refine bg [0,1,2,3,11,12,13] [] ?_ ?_<;>simp only[go_sem,a7 ab hl,bb]
 ·have bF:i=l.length:=by
   have :¬ (i:Int)<l.length:=by simpa using hb
   omega
  clear hb
  subst bF
  repeat refine sq ?_
  refine bR ?_
  simp only[go_sem]
  refine kp [0,1] [] ?_
  repeat refine sq ?_
  refine rs hΓ [8] [] ?_
  refine aC ?_
  simp only[go_sem]
  rw[kq.2 hR];rfl
end
set_option maxHeartbeats 8000000
noncomputable section
theorem Un{i j:Nat}(hi:i<=maxLen)(hj:j<=maxLen):IntKind.i64.wrap ((IntKind.u64.wrap (IntKind.i64.wrap ((i:Int)+(j:Int)))).fdiv (2 ^ min (Int.toNat 1) 64))=(((i+j) / 2:Nat):Int):=by
 unfold maxLen at hi hj
 have h1:min (Int.toNat 1) 64=1:=by decide
 have h2:IntKind.u64.wrap (IntKind.i64.wrap ((i:Int)+(j:Int)))=((i+j:Nat):Int):=by
  rw[IntKind.wrap_u64,IntKind.wrap_i64]
  omega
 rw[h1,h2]
 have h3:(((i+j:Nat):Int)).fdiv (2 ^ 1)=(((i+j) / 2:Nat):Int):=by
  rw[Int.fdiv_eq_ediv_of_nonneg _ (by decide)]
  omega
 rw[h3,wrap_i64 (by omega) (by omega)]
theorem OK{a b:Int}:mu a b<0↔a<b:=by
 unfold mu
 split
 ·simp[*]
 ·split<;>simp<;>omega
theorem aaE{a b:Int}:(mu a b==0)=(a==b):=by
 unfold mu
 split
 ·have:a≠b:=by omega
  simp[this]
 ·split
  ·have:a≠b:=by omega
   simp[this]
  ·have:a=b:=by omega
   simp[this]
def srt{α:Type}(num:α->Int)(l:List α):Prop:=∀ i j (hi:i<l.length) (hj:j<l.length),i<j->num l[i] <num l[j]
theorem QZ{α:Type}{num:α->Int}{l:List α}(h:∀ j (h:j<l.length),0<j->num l[j-1] <num l[j]):srt num l:=by
 intro i j hi hj bD
 induction j with
 |zero=>omega
 |succ j ih=>
  have h1:=h (j+1) hj (by omega)
  simp only[Nat.add_sub_cancel]at h1
  rcases Nat.lt_succ_iff_lt_or_eq.1 bD with h2 | rfl
  ·have:=ih (by omega) h2;omega
  ·exact h1
theorem wy{α:Type}{fj:α->Bool}{num:α->Int}{l:List α}(h:oq fj num l l.length):srt num l:=QZ fun j hj h0=>(h j hj hj).2 h0
def rZ{α:Type}(num:α->Int)(l:List α)(x:Int):Nat:=(l.takeWhile fun y=>decide (num y<x)).length
def pD{α:Type}(num:α->Int)(l:List α)(x:Int):Bool:=l.any fun y=>num y==x
theorem Dh{α:Type}{num:α->Int}{l:List α}{x:Int}{i:Nat}(hi:i<=l.length)(h1:∀ k (h:k<l.length),k<i->num l[k] <x)(h2:∀ k (h:k<l.length),i<=k->x<=num l[k]):rZ num l x=i:=by
 unfold rZ
 induction l generalizing i with
 |nil=>simp at hi |-;omega
 |cons a r ih=>
  cases i with
  |zero=>
   have :=h2 0 (by simp) (Nat.le_refl _)
   simp only[List.getElem_cons_zero]at this
   have hd:decide (num a<x)=false:=by simp;omega
   simp[hd]
  |succ i=>
   have :=h1 0 (by simp) (by omega)
   simp only[List.getElem_cons_zero]at this
   have hd:decide (num a<x)=true:=by simp;omega
   simp only[List.takeWhile_cons,hd,if_true,List.length_cons]
   rw[ih (by simpa using hi) (fun k hk dH=>by have:=h1 (k+1) (by simpa using hk) (by omega);simpa using this) (fun k hk dH=>by have:=h2 (k+1) (by simpa using hk) (by omega);simpa using this)]
theorem Ax{α:Type}{num:α->Int}{l:List α}{x:Int}:pD num l x=true↔∃ k,∃ (h:k<l.length),num l[k]=x:=by
 unfold pD
 rw[List.any_eq_true]
 constructor
 ·rintro⟨y,hy,h⟩
  obtain⟨k,hk,rfl⟩:=List.getElem_of_mem hy
  exact⟨k,hk,by simpa using h⟩
 ·rintro⟨k,hk,h⟩
  exact⟨_,List.getElem_mem hk,by simpa using h⟩
theorem Y5{α:Type}{num:α->Int}{l:List α}{x:Int}{i:Nat}(hs:srt num l)(hi:i<l.length)(h1:∀ k (h:k<l.length),k<i->num l[k] <x)(h2:∀ k (h:k<l.length),i<=k->x<=num l[k]):pD num l x=(num l[i]==x):=by
 rw[Bool.eq_iff_iff,Ax]
 simp only[beq_iff_eq]
 constructor
 ·rintro⟨k,hk,e⟩
  rcases Nat.lt_trichotomy k i with h3 | h3 | h3
  ·have:=h1 k hk h3;omega
  ·subst h3;exact e
  ·have:=hs i k hi hk h3
   have :=h2 i hi (Nat.le_refl _)
   omega
 ·intro e
  exact⟨i,hi,e⟩
theorem Y4{α:Type}{num:α->Int}{l:List α}{x:Int}(h1:∀ k (h:k<l.length),num l[k] <x):pD num l x=false:=by
 rw[Bool.eq_false_iff]
 intro h
 obtain⟨k,hk,e⟩:=Ax.1 h
 have :=h1 k hk
 omega
def K6a:List (Nat×Spec):=[(140,ab')]
theorem acH:KS K6a:=tc Sl.sound<|tn
attribute [go_sem] K6a
@[go_sem] def P169:PSpec:=p2 iP iI (fun _ _=>True) (fun p x=>vInt (mu p.id x)) true
@[go_sem] def ab6:Spec:=P169.toSpec
theorem R':aZ Tryz.prog 169 P169:=by
 refine fD (rs:=[.tmp 4]) Tryz.func169 Tryz.ntmps169 fun p x hp hw=>?_
 simp only[iI,iP,c9]at hw |-
 have hΓ:=acH
 repeat refine sq ?_
 refine rs hΓ [1,2] [[2,0]] ?_
 repeat refine sq ?_
 refine rs hΓ [4] [] ?_
 refine aC ?_
 simp only[go_sem]
 all_goals exact e8
def K6b:List (Nat×Spec):=[(169,ab6)]
theorem acG:KS K6b:=tc R'.sound<|tn
attribute [go_sem] K6b
@[go_sem] def P168:PSpec:=p3 (fW iP) iI (iF 169) (fun l _ _=>srt Pap.id l) (fun l x _=>.tup [vInt (rZ Pap.id l x),.bool (pD Pap.id l x)]) true
@[go_sem] def ab7:Spec:=P168.toSpec
set_option maxRecDepth 10000 in
theorem Sa:aZ Tryz.prog 168 P168:=by
 refine n7 (rs:=[.tmp 6,.tmp 7]) Tryz.func168 Tryz.ntmps168 fun l x _ hp hw=>?_
 simp only[iF,iI,iP,fW,iC,c9]at hw |-
 have hΓ:=acG
 have hs:=hp
 have hl:l.length<=maxLen:=by have:=hw.1.1;simpa using this
 repeat refine sq ?_
 refine rs hΓ [0,1,2] [] ?_
 repeat refine sq ?_
 refine rs hΓ [0,1,2,8] [] ?_
 repeat refine sq ?_
 refine rs hΓ [0,1,2,8,9,10] [] ?_
 repeat refine sq ?_
 refine aR ?_
 repeat refine sq ?_
 refine cr (fun ij:Nat×Nat=>[(9,⟨true,.v (vInt ij.1)⟩),(10,⟨true,.v (vInt ij.2)⟩)]) (fun i=>[]) (fun ij=>ij.1<=ij.2/\ij.2<=l.length/\(∀ k (h:k<l.length),k<ij.1->Pap.id l[k] <x)/\(∀ k (h:k<l.length),ij.2<=k->x<=Pap.id l[k])) (fun ij=>ij.2-ij.1) (0,l.length) ?_ ?_ ?_ ?_
 ·exact⟨Nat.zero_le _,Nat.le_refl _,fun k h hk=>by omega,fun k h hk=>by omega⟩
 ·rfl
 ·rfl
 rintro⟨i,j⟩ ⟨bD,gJ,eP,gu⟩
 simp only[go_sem]
 repeat refine sq ?_
 refine rs hΓ [0,1,2,8,9,10,17] [] ?_
 repeat refine sq ?_
 refine aB (fun hb=>?_) fun hb=>?_
 ·have ab:i<j:=by simpa using hb
  repeat refine sq ?_
  refine aJ ?_
  repeat refine sq ?_
  refine aR ?_
  repeat refine sq ?_
  refine rx hΓ [0,1,2,8,9,10,11] [] (fun K' hK=>by simp only[go_sem,Un (show i<=maxLen by omega) (show j<=maxLen by omega)];exact fn) ?_
  obtain⟨h,hh⟩:∃ h,h=(i+j) / 2:=⟨_,rfl⟩
  rw[<-hh]
  have h1:i<=h:=by omega
  have h2:h<j:=by omega
  have h3:h<l.length:=by omega
  have ZF:(h:Int)<l.length:=by omega
  repeat refine sq ?_
  refine rx hΓ [0,1,2,8,9,10,11,31] [] (fun K' hK=>by simp only[go_sem,ah h3,ai,aj,ZF];exact fn) ?_
  repeat refine sq ?_
  refine aB (fun hb=>?_) fun hb=>?_
  ·have hx:Pap.id l[h] <x:=by simpa[OK]using hb
   repeat refine sq ?_
   refine aS hΓ fun K' hK=>?_
   simp only[go_sem]
   repeat (refine⟨ob,?_⟩)
   refine hK _ ?_
   clear K' hK
   simp only[go_sem]
   refine⟨(h+1,j),⟨by omega,gJ,fun k hk EE=>?_,gu⟩,by omega,?_⟩
   ·rcases Nat.lt_succ_iff_lt_or_eq.1 EE with h5 | h5
    ·have:=hs k h hk h3 h5;omega
    ·subst h5;exact hx
   ·refine bg [0,1,2,8,9,10] [] ?_ ?_<;>simp only[go_sem,a7 h3 hl,bb]
  ·have hx:x<=Pap.id l[h]:=by
     have :¬ Pap.id l[h] <x:=by simpa[OK]using hb
     omega
   repeat refine sq ?_
   refine aS hΓ fun K' hK=>?_
   simp only[go_sem]
   repeat (refine⟨ob,?_⟩)
   refine hK _ ?_
   clear K' hK
   simp only[go_sem]
   refine⟨(i,h),⟨by omega,by omega,eP,fun k hk EE=>?_⟩,by omega,?_⟩
   ·rcases Nat.lt_or_eq_of_le EE with h5 | h5
    ·have:=hs h k h3 hk h5;omega
    ·subst h5;exact hx
   ·refine bg [0,1,2,8,9,10] [] ?_ ?_<;>simp only[go_sem]
 ·have he:i=j:=by
    have :¬ (i:Int)<j:=by simpa using hb
    omega
  subst he
  repeat refine sq ?_
  refine bR ?_
  simp only[go_sem]
  refine kp [0,1,2,8,9] [] ?_
  by_cases iU:i<l.length
  ·have EL:(i:Int)<l.length:=by omega
   repeat refine sq ?_
   refine rx hΓ [6,7] [] (fun K' hK=>by simp only[go_sem,ah iU,ai,aj,EL];exact fn) ?_
   refine aC ?_
   simp only[go_sem]
   rw[Dh gJ eP gu,Y5 hs iU eP gu]
   simp[aaE]
  ·have Ah:i=l.length:=by omega
   have EL:¬ (i:Int)<l.length:=by omega
   obtain⟨k0,n0,YP⟩:∃ k0 n0,(l.map c9).getD i default=.int k0 n0:=by
    refine⟨default,default,?_⟩
    rw[List.getD_eq_getElem?_getD,List.getElem?_eq_none (by simp;omega)]
    rfl
   repeat refine sq ?_
   refine rx hΓ [6,7] [] (fun K' hK=>by simp only[go_sem,YP,ai,aj,EL];exact fn) ?_
   refine aC ?_
   simp only[go_sem]
   rw[Dh gJ eP gu,Y4 fun k hk=>eP k hk (by omega)]
   simp
def bW(l:List Pap)(id:Int):Int:=match l.find? fun p=>p.id==id with
 |some p=>p.lv
 |none=>0
theorem JG{l:List Pap}{x:Int}{i:Nat}(hi:i<l.length)(h:l[i].id=x)(h1:∀ k (h:k<l.length),k<i->l[k].id≠x):bW l x=l[i].lv:=by
 unfold bW
 have :(l.find? fun p=>p.id==x)=some l[i]:=by
  rw[List.find?_eq_some_iff_getElem]
  exact⟨by simpa using h,i,hi,rfl,fun j hj=>by simpa using h1 j (by omega) hj⟩
 rw[this]
theorem JF{l:List Pap}{x:Int}(h1:∀ k (h:k<l.length),l[k].id≠x):bW l x=0:=by
 unfold bW
 have :(l.find? fun p=>p.id==x)=none:=by
  rw[List.find?_eq_none]
  intro p hp
  obtain⟨k,hk,rfl⟩:=List.getElem_of_mem hp
  simpa using h1 k hk
 rw[this]
theorem Ur{l:List Pap}{x:Int}(hs:srt Pap.id l)(h:pD Pap.id l x=true):∃ (h:rZ Pap.id l x<l.length),l[rZ Pap.id l x].lv=bW l x:=by
 obtain⟨k,hk,e⟩:=Ax.1 h
 have e2:rZ Pap.id l x=k:=Dh (Nat.le_of_lt hk) (fun j hj nA=>by have:=hs j k hj hk nA;omega) (fun j hj nA=>by
  rcases Nat.lt_or_eq_of_le nA with h | rfl
  ·have:=hs k j hk hj h;omega
  ·omega)
 refine⟨e2▸hk,?_⟩
 rw[JG hk e fun j hj nA=>by have:=hs j k hj hk nA;omega]
 congr
theorem Uq{l:List Pap}{x:Int}(h:pD Pap.id l x=false):bW l x=0:=JF fun k hk e=>by
 rw[Ax.2 ⟨k,hk,e⟩]at h;cases h
def K6:List (Nat×Spec):=[(168,ab7)]
theorem acI:KS K6:=tc Sa.sound<|tn
attribute [go_sem] K6
@[go_sem] def P79:PSpec:=p2 pv iI (fun l _=>srt Pap.id l.ps) (fun l x=>vInt (bW l.ps x)) true
@[go_sem] def yl:Spec:=P79.toSpec
theorem HX:aZ Tryz.prog 79 P79:=by
 refine fD (rs:=[.tmp 4]) Tryz.func79 Tryz.ntmps79 fun l x hp hw=>?_
 simp only[iI,pv,kj]at hw |-
 have hΓ:=acI
 repeat refine sq ?_
 refine rs hΓ [0,1] [] ?_
 repeat refine sq ?_
 refine rx hΓ [0,5,6] [] (fun K' hK=>by simp only[go_sem,hp];exact fn) ?_
 repeat refine sq ?_
 refine rs hΓ [0,5,17] [] ?_
 repeat refine sq ?_
 refine aB (fun hb=>?_) fun hb=>?_
 ·repeat refine sq ?_
  have hf:pD Pap.id l.ps x=false:=by simpa using hb
  repeat refine sq ?_
  refine rs hΓ [4] [] ?_
  refine aC ?_
  simp only[go_sem]
  rw[Uq hf]
 ·repeat refine sq ?_
  have hf:pD Pap.id l.ps x=true:=by simpa using hb
  obtain⟨X3,ka⟩:=Ur hp hf
  have X2:(rZ Pap.id l.ps x:Int)<l.ps.length:=by omega
  refine aJ ?_
  repeat refine sq ?_
  refine rx hΓ [4] [] (fun K' hK=>by simp only[go_sem,ah X3,ai,aj,X2];exact fn) ?_
  refine aC ?_
  simp only[go_sem]
  rw[ka]
@[go_sem] def P84:PSpec:=p2 iL iI (fun _ _=>True) (fun l x=>vInt (bW l.ps x)) true
@[go_sem] def BC:Spec:=P84.toSpec
theorem RK:aZ Tryz.prog 84 P84:=by
 refine fD (rs:=[.tmp 4]) Tryz.func84 Tryz.ntmps84 fun l x hp hw=>?_
 simp only[iI,iL,gM]at hw |-
 have hΓ:=@fE Tryz.prog
 have hl:l.ps.length<=maxLen:=by have:=hw.1;simp[V.wfL,V.wf]at this;omega
 repeat refine sq ?_
 refine rs hΓ [1,2] [[2,0]] ?_
 repeat refine sq ?_
 refine rs hΓ [1,2,5] [[2,0]] ?_
 repeat refine sq ?_
 refine aR ?_
 repeat refine sq ?_
 refine cr (fun s:Nat=>[(5,⟨true,.v (vInt s)⟩)]) (fun s=>[]) (fun s=>s<=l.ps.length/\∀ k (h:k<l.ps.length),k<s->l.ps[k].id≠x) (fun s=>l.ps.length-s) 0 ?_ ?_ ?_ ?_
 ·exact⟨Nat.zero_le _,by simp⟩
 ·rfl
 ·rfl
 rintro i ⟨hi,hR⟩
 simp only[go_sem]
 repeat refine sq ?_
 refine rs hΓ [1,2,5,10] [[2,0]] ?_
 repeat refine sq ?_
 refine aB (fun hb=>?_) fun hb=>?_
 ·have ab:i<l.ps.length:=by simpa using hb
  have ao:(i:Int)<l.ps.length:=by omega
  clear hb
  repeat refine sq ?_
  refine aJ ?_
  repeat refine sq ?_
  refine aR ?_
  repeat refine sq ?_
  refine rx hΓ [1,2,5,20] [[2,0]] (fun K' hK=>by simp only[go_sem,ah ab,ai,aj,ao];exact fn) ?_
  repeat refine sq ?_
  refine aB (fun hb=>?_) fun hb=>?_
  ·repeat refine sq ?_
   refine rx hΓ [4] [] (fun K' hK=>by simp only[go_sem,ah ab,ai,aj,ao];exact fn) ?_
   refine aC ?_
   simp only[go_sem]
   rw[JG ab (by simpa using hb) hR]
  ·repeat refine sq ?_
   refine aJ ?_
   refine bV ?_
   simp only[go_sem]
   refine kp [1,2,5] [[2,0]] ?_
   repeat refine sq ?_
   refine aS hΓ fun K' hK=>?_
   simp only[go_sem,ah ab,ai,aj,ao]
   repeat (refine⟨ob,?_⟩)
   refine hK _ ?_
   clear K' hK
   simp only[go_sem]
   refine⟨i+1,⟨ab,?_⟩,by(show l.ps.length-(i+1)<l.ps.length-i;omega),?_⟩
   ·intro k hk dH
    rcases Nat.lt_succ_iff_lt_or_eq.1 dH with h5 | rfl
    ·exact hR k hk h5
    ·simpa using hb
   refine bg [1,2,5] [[2,0]] ?_ ?_<;>simp only[go_sem,a7 ab hl,bb]
 ·have bF:i=l.ps.length:=by
   have :¬ (i:Int)<l.ps.length:=by simpa using hb
   omega
  clear hb
  subst bF
  repeat refine sq ?_
  refine bR ?_
  simp only[go_sem]
  refine kp [] [] ?_
  repeat refine sq ?_
  refine rs hΓ [4] [] ?_
  refine aC ?_
  simp only[go_sem]
  rw[JF fun k hk=>hR k hk hk]
end
end Go.Eng
set_option linter.unusedVariables false
namespace Go.Eng
open Go Go.Proofs Go.RowKit Go.Lib Go.Shelf
end Go.Eng
set_option linter.unusedVariables false
namespace Go.Eng
open Go Go.Proofs Go.RowKit Go.Lib Go.Shelf
set_option maxHeartbeats 2000000 in
set_option maxRecDepth 100000 in
theorem aaZ(n c:Nat)(w:World):Calls Tryz.prog 132 #[.slice none n c] w fun e w'=>e=.returned (.slice none 0 0)/\w'=w:=by
 have mixed:Tryz.prog.follows Departure.mixedOrders=true:=by kernel_rfl
 have qT:∀ (w:World) (a:Option Addr) (n c n' c':Nat),(binOp .eql 29 (.slice a n c) (.slice none n' c')).run Tryz.prog w=.ok (.bool a.isNone) w:=fun w a n c n' c'=>Lib.run_eql_slice_nil w _ _ a n c n' c' Tryz.underlying29
 go_enter Tryz.func132,Tryz.ntmps132
 go_wp2
 go_ret
 exact⟨rfl,rfl⟩
set_option maxHeartbeats 2000000 in
set_option maxRecDepth 100000 in
theorem aaY(a:Addr)(n c:Nat)(w:World)(v':Value)(w':World)
 (cR:∀ ty,(Builtin.append_ #[29,29] ty #[.slice (some ⟨w.heap.size,0,none⟩) 0 0,.slice (some a) n c]).run Tryz.prog (w.alloc (.cells #[] 81))=.ok v' w'):
 Calls Tryz.prog 132 #[.slice (some a) n c] w fun e w1=>e=.returned v'/\w1=w':=by
 have mixed:Tryz.prog.follows Departure.mixedOrders=true:=by kernel_rfl
 have qT:∀ (w:World) (a:Option Addr) (n c n' c':Nat),(binOp .eql 29 (.slice a n c) (.slice none n' c')).run Tryz.prog w=.ok (.bool a.isNone) w:=fun w a n c n' c'=>Lib.run_eql_slice_nil w _ _ a n c n' c' Tryz.underlying29
 go_enter Tryz.func132,Tryz.ntmps132
 go_wp2_with (at_builtin;refine Lib.wpList_append_run _ rfl _ _ _ _ rfl _ _ rfl rfl _ _ (cR _) ?_)
 go_ret
 exact⟨rfl,rfl⟩
set_option maxHeartbeats 2000000 in
set_option maxRecDepth 100000 in
theorem aaW(n c:Nat)(w:World):Calls Tryz.prog 176 #[.slice none n c] w fun e w'=>e=.returned (.slice none 0 0)/\w'=w:=by
 have mixed:Tryz.prog.follows Departure.mixedOrders=true:=by kernel_rfl
 have qT:∀ (w:World) (a:Option Addr) (n c n' c':Nat),(binOp .eql 26 (.slice a n c) (.slice none n' c')).run Tryz.prog w=.ok (.bool a.isNone) w:=fun w a n c n' c'=>Lib.run_eql_slice_nil w _ _ a n c n' c' Tryz.underlying26
 go_enter Tryz.func176,Tryz.ntmps176
 go_wp2
 go_ret
 exact⟨rfl,rfl⟩
set_option maxHeartbeats 2000000 in
set_option maxRecDepth 100000 in
theorem aaV(a:Addr)(n c:Nat)(w:World)(v':Value)(w':World)
 (cR:∀ ty,(Builtin.append_ #[26,26] ty #[.slice (some ⟨w.heap.size,0,none⟩) 0 0,.slice (some a) n c]).run Tryz.prog (w.alloc (.cells #[] 46))=.ok v' w'):
 Calls Tryz.prog 176 #[.slice (some a) n c] w fun e w1=>e=.returned v'/\w1=w':=by
 have mixed:Tryz.prog.follows Departure.mixedOrders=true:=by kernel_rfl
 have qT:∀ (w:World) (a:Option Addr) (n c n' c':Nat),(binOp .eql 26 (.slice a n c) (.slice none n' c')).run Tryz.prog w=.ok (.bool a.isNone) w:=fun w a n c n' c'=>Lib.run_eql_slice_nil w _ _ a n c n' c' Tryz.underlying26
 go_enter Tryz.func176,Tryz.ntmps176
 go_wp2_with (at_builtin;refine Lib.wpList_append_run _ rfl _ _ _ _ rfl _ _ rfl rfl _ _ (cR _) ?_)
 go_ret
 exact⟨rfl,rfl⟩
set_option maxHeartbeats 2000000 in
set_option maxRecDepth 100000 in
theorem aaT(n c:Nat)(w:World):Calls Tryz.prog 177 #[.slice none n c] w fun e w'=>e=.returned (.slice none 0 0)/\w'=w:=by
 have mixed:Tryz.prog.follows Departure.mixedOrders=true:=by kernel_rfl
 have qT:∀ (w:World) (a:Option Addr) (n c n' c':Nat),(binOp .eql 27 (.slice a n c) (.slice none n' c')).run Tryz.prog w=.ok (.bool a.isNone) w:=fun w a n c n' c'=>Lib.run_eql_slice_nil w _ _ a n c n' c' Tryz.underlying27
 go_enter Tryz.func177,Tryz.ntmps177
 go_wp2
 go_ret
 exact⟨rfl,rfl⟩
set_option maxHeartbeats 2000000 in
set_option maxRecDepth 100000 in
theorem aaS(a:Addr)(n c:Nat)(w:World)(v':Value)(w':World)
 (cR:∀ ty,(Builtin.append_ #[27,27] ty #[.slice (some ⟨w.heap.size,0,none⟩) 0 0,.slice (some a) n c]).run Tryz.prog (w.alloc (.cells #[] 36))=.ok v' w'):
 Calls Tryz.prog 177 #[.slice (some a) n c] w fun e w1=>e=.returned v'/\w1=w':=by
 have mixed:Tryz.prog.follows Departure.mixedOrders=true:=by kernel_rfl
 have qT:∀ (w:World) (a:Option Addr) (n c n' c':Nat),(binOp .eql 27 (.slice a n c) (.slice none n' c')).run Tryz.prog w=.ok (.bool a.isNone) w:=fun w a n c n' c'=>Lib.run_eql_slice_nil w _ _ a n c n' c' Tryz.underlying27
 go_enter Tryz.func177,Tryz.ntmps177
 go_wp2_with (at_builtin;refine Lib.wpList_append_run _ rfl _ _ _ _ rfl _ _ rfl rfl _ _ (cR _) ?_)
 go_ret
 exact⟨rfl,rfl⟩
set_option maxHeartbeats 2000000 in
set_option maxRecDepth 100000 in
theorem aaQ(n c:Nat)(w:World):Calls Tryz.prog 178 #[.slice none n c] w fun e w'=>e=.returned (.slice none 0 0)/\w'=w:=by
 have mixed:Tryz.prog.follows Departure.mixedOrders=true:=by kernel_rfl
 have qT:∀ (w:World) (a:Option Addr) (n c n' c':Nat),(binOp .eql 28 (.slice a n c) (.slice none n' c')).run Tryz.prog w=.ok (.bool a.isNone) w:=fun w a n c n' c'=>Lib.run_eql_slice_nil w _ _ a n c n' c' Tryz.underlying28
 go_enter Tryz.func178,Tryz.ntmps178
 go_wp2
 go_ret
 exact⟨rfl,rfl⟩
set_option maxHeartbeats 2000000 in
set_option maxRecDepth 100000 in
theorem aaP(a:Addr)(n c:Nat)(w:World)(v':Value)(w':World)
 (cR:∀ ty,(Builtin.append_ #[28,28] ty #[.slice (some ⟨w.heap.size,0,none⟩) 0 0,.slice (some a) n c]).run Tryz.prog (w.alloc (.cells #[] 40))=.ok v' w'):
 Calls Tryz.prog 178 #[.slice (some a) n c] w fun e w1=>e=.returned v'/\w1=w':=by
 have mixed:Tryz.prog.follows Departure.mixedOrders=true:=by kernel_rfl
 have qT:∀ (w:World) (a:Option Addr) (n c n' c':Nat),(binOp .eql 28 (.slice a n c) (.slice none n' c')).run Tryz.prog w=.ok (.bool a.isNone) w:=fun w a n c n' c'=>Lib.run_eql_slice_nil w _ _ a n c n' c' Tryz.underlying28
 go_enter Tryz.func178,Tryz.ntmps178
 go_wp2_with (at_builtin;refine Lib.wpList_append_run _ rfl _ _ _ _ rfl _ _ rfl rfl _ _ (cR _) ?_)
 go_ret
 exact⟨rfl,rfl⟩
set_option maxHeartbeats 2000000 in
set_option maxRecDepth 100000 in
theorem aaN(n c:Nat)(w:World):Calls Tryz.prog 179 #[.slice none n c] w fun e w'=>e=.returned (.slice none 0 0)/\w'=w:=by
 have mixed:Tryz.prog.follows Departure.mixedOrders=true:=by kernel_rfl
 have qT:∀ (w:World) (a:Option Addr) (n c n' c':Nat),(binOp .eql 32 (.slice a n c) (.slice none n' c')).run Tryz.prog w=.ok (.bool a.isNone) w:=fun w a n c n' c'=>Lib.run_eql_slice_nil w _ _ a n c n' c' Tryz.underlying32
 go_enter Tryz.func179,Tryz.ntmps179
 go_wp2
 go_ret
 exact⟨rfl,rfl⟩
set_option maxHeartbeats 2000000 in
set_option maxRecDepth 100000 in
theorem aaM(a:Addr)(n c:Nat)(w:World)(v':Value)(w':World)
 (cR:∀ ty,(Builtin.append_ #[32,32] ty #[.slice (some ⟨w.heap.size,0,none⟩) 0 0,.slice (some a) n c]).run Tryz.prog (w.alloc (.cells #[] 3))=.ok v' w'):
 Calls Tryz.prog 179 #[.slice (some a) n c] w fun e w1=>e=.returned v'/\w1=w':=by
 have mixed:Tryz.prog.follows Departure.mixedOrders=true:=by kernel_rfl
 have qT:∀ (w:World) (a:Option Addr) (n c n' c':Nat),(binOp .eql 32 (.slice a n c) (.slice none n' c')).run Tryz.prog w=.ok (.bool a.isNone) w:=fun w a n c n' c'=>Lib.run_eql_slice_nil w _ _ a n c n' c' Tryz.underlying32
 go_enter Tryz.func179,Tryz.ntmps179
 go_wp2_with (at_builtin;refine Lib.wpList_append_run _ rfl _ _ _ _ rfl _ _ rfl rfl _ _ (cR _) ?_)
 go_ret
 exact⟨rfl,rfl⟩
def Z81:Value:=.agg #[.int .i64 0,.int .i64 0,.int .i64 0,.int .i64 0,.int .i64 0,.int .i64 0,.int .i64 0]
def Z46:Value:=.agg #[.int .i64 0,.int .i64 0]
def Z36:Value:=.agg #[.int .i64 0,.int .i64 0,.int .i64 0,.slice none 0 0,.int .i64 0,.int .i64 0,.int .i64 0]
def Z40:Value:=.agg #[.int .i64 0,.int .i64 0,.int .i64 0,.slice none 0 0,.int .i64 0,.int .i64 0,.int .i64 0,.int .i64 0]
theorem nc(n:Nat)(h:n<1000000000):n≠yid:=by unfold yid;omega
theorem OL:rv Tryz.prog 132 29 81 7 56 Z81:=
 ⟨by kernel_rfl,by kernel_rfl,nc _ (by decide),i6 Tryz.func132 (by rfl) (by kernel_rfl),aaZ,aaY⟩
theorem aaX:rv Tryz.prog 176 26 46 2 16 Z46:=
 ⟨by kernel_rfl,by kernel_rfl,nc _ (by decide),i6 Tryz.func176 (by rfl) (by kernel_rfl),aaW,aaV⟩
theorem aaU:rv Tryz.prog 177 27 36 7 72 Z36:=
 ⟨by kernel_rfl,by kernel_rfl,nc _ (by decide),i6 Tryz.func177 (by rfl) (by kernel_rfl),aaT,aaS⟩
theorem aaR:rv Tryz.prog 178 28 40 8 80 Z40:=
 ⟨by kernel_rfl,by kernel_rfl,nc _ (by decide),i6 Tryz.func178 (by rfl) (by kernel_rfl),aaQ,aaP⟩
theorem aaO:rv Tryz.prog 179 32 3 1 8 (.int .i64 0):=
 ⟨by kernel_rfl,by kernel_rfl,nc _ (by decide),i6 Tryz.func179 (by rfl) (by kernel_rfl),aaN,aaM⟩
open Go Go.Proofs
def fi(l:List Int):List (V×V):=l.map fun s=>(vInt s,.bool true)
def oJ(es:List (V×V)):List Int:=es.map fun q=>km q.1
@[go_sem] theorem aad(l:List Int):oJ (fi l)=l:=by
  unfold oJ fi
  rw[List.map_map]
  exact List.map_id _
def rk(l:List Int)(s:Int):List Int:=if l.contains s then l else l++[s]
theorem Uo(l:List Int)(s:Int):eW (fi l) (vInt s)=if l.contains s then some (.bool true)else none:=by
 induction l with
 |nil=>rfl
 |cons a r ih=>
  show (if fv (vInt a) (vInt s)=true then some (V.bool true)else eW (fi r) (vInt s))=_
  rw[ih]
  by_cases h:a=s
  ·subst h;simp[fv]
  ·have h':(a==s)=false:=by simpa using h
   have gL:(s==a)=false:=by simpa using fun e=>h e.symm
   have h3:¬ s=a:=fun e=>h e.symm
   simp[fv,h',h3]
theorem De(l:List Int)(s:Int):(eW (fi l) (vInt s)).getD (.bool false)=.bool (l.contains s):=by
 rw[Uo]
 cases l.contains s<;>rfl
theorem Db(l:List Int)(s:Int):dW (fi l) (vInt s) (.bool true)=fi (rk l s):=by
 induction l with
 |nil=>rfl
 |cons a r ih=>
  show (if fv (vInt a) (vInt s)=true then(vInt s,V.bool true)::fi r else(vInt a,V.bool true)::dW (fi r) (vInt s) (.bool true))=_
  rw[ih]
  unfold rk
  by_cases h:a=s
  ·subst h;simp[fv,fi]
  ·have h':(a==s)=false:=by simpa using h
   have gL:(s==a)=false:=by simpa using fun e=>h e.symm
   simp only[fv,h',Bool.false_eq_true,if_false,List.contains_cons,gL,Bool.false_or]
   split<;>rfl
def CO(obj:Name->Option O)(_:Name):List D->List Name
 |[_,.ref nm _]=>nm::(match obj nm with | some (.box [.map mm])=>[mm] | _=>[])
 |_=>[]
def qe(obj:Name->Option O)(_:Name):List D->R
 |[.v (.int .i64 s),.ref nm 0]=>match obj nm with
  |some (.box [.map mm])=>match obj mm with
   |some (.map 0 es)=>⟨(mm==nm)=false/\fi (oJ es)=es,.v (.bool (!(oJ es).contains s)),upd obj mm (some (.map 0 (fi (rk (oJ es) s))))⟩
   |_=>.bad obj
  |_=>.bad obj
 |_=>.bad obj
def onceS:Spec:=⟨qe,CO,CO⟩
theorem TF:onceS.Near:=by
 refine wC fun obj obj2 t ds ha=>?_
 unfold CO at ha |-
 split
 ·rename_i d nm off
  simp only at ha
  have h1:obj2 nm=obj nm:=ha nm (by simp)
  refine⟨by rw[h1],?_⟩
  have gG:∀ wr,bQ wr obj obj2->bX (R.bad obj) (R.bad obj2) obj obj2 wr:=fun wr h=>.none wr h
  unfold qe
  split
  ·rename_i s kF e
   simp only[List.cons.injEq,D.ref.injEq,and_true]at e
   obtain⟨_,rfl,rfl⟩:=e
   simp only[h1]
   split at ha
   ·rename_i mm hm
    have h2:obj2 mm=obj mm:=ha mm (by simp)
    simp only[h2,hm]
    split
    ·exact .one (by simp) ha
    ·exact gG _ ha
   ·exact gG _ ha
  ·exact gG _ ha
 ·refine⟨rfl,?_⟩
  rename_i kP
  unfold qe
  split
  ·exact(kP _ _ _ rfl).elim
  ·exact .none _ (fun _ h=>by cases h)
attribute [go_sem] onceS qe
def wx:CSpec where
 pre:=fun os ds=>∃ (ss:List Int) (s:Int),os=[.box [.map [1,1]],.map 0 (fi ss)]/\ds=[.v (vInt s),.ref [0,1] 0]
 out:=fun os ds=>match os,ds with
  |[_,.map _ es],[.v (.int _ s),_]=>⟨[(1,.map 0 (fi (rk (oJ es) s)))],[],.v (.bool (!(oJ es).contains s))⟩
  |_,_=>⟨[],[],.any⟩
theorem TE{f:FuncId}(h:aN Tryz.prog f wx.toSpec)(aG:f≠yid):aN Tryz.prog f onceS:=by
 refine v7 h TF aG fun obj t ds aa=>?_
 change (qe obj t ds).ok at aa
 refine⟨ds,rfl,fun _ _ _ _ h=>h,?_⟩
 show _/\_=(qe obj t ds).d/\_=(qe obj t ds).obj
 unfold qe at aa |-
 split at aa
 ·rename_i s nm
  split at aa
  ·rename_i mm hb
   split at aa
   ·rename_i es hm
    obtain⟨mf,YD⟩:=aa
    have Eu:mm≠nm:=by simpa using mf
    have Y3:(nm==mm)=false:=by simpa using fun e=>Eu e.symm
    have hr:reach obj [.v (.int .i64 s),.ref nm 0]=[nm,mm]:=by
     unfold reach
     show dC obj (2997+1+1+1) [nm] []=[nm,mm]
     simp only[dC,cX,List.any_nil,Bool.false_eq_true,if_false,hb,lY,de,lZ,List.nil_append,List.append_nil,List.any_cons,Y3,Bool.or_false,hm,List.cons_append]
    have i0:idx [nm,mm] nm=0:=by simp[idx]
    have i1:idx [nm,mm] mm=1:=by simp[idx,Ne.symm Eu]
    have e1:cD obj [.v (.int .i64 s),.ref nm 0]=[.box [.map [1,1]],.map 0 es]:=by
     unfold cD
     rw[hr]
     simp only[List.map_cons,List.map_nil,cH,hb,hm,O.ren,D.renL,D.ren,cin,i1]
    have e2:dd obj [.v (.int .i64 s),.ref nm 0]=[.v (.int .i64 s),.ref [0,1] 0]:=by
     unfold dd
     rw[hr]
     simp only[D.renL,D.ren,cin,i0]
    have ju:wx.out [.box [.map [1,1]],.map 0 es] [.v (.int .i64 s),.ref [0,1] 0]=⟨[(1,.map 0 (fi (rk (oJ es) s)))],[],.v (.bool (!(oJ es).contains s))⟩:=rfl
    have dT:wx.pre [.box [.map [1,1]],.map 0 es] [.v (.int .i64 s),.ref [0,1] 0]:=⟨oJ es,s,by rw[YD],rfl⟩
    have e3:(shut obj [nm,mm]&&D.closL (cX [nm,mm]) [.v (.int .i64 s),.ref nm 0]&&fresh obj t [])=true:=by
     simp[shut,hb,hm,O.clos,D.closL,D.clos,cX,fresh]
    simp only[CSpec.toSpec,e1,e2,hr,ju,e3,dT,hb,hm,and_self,dz,cF,D.ren,D.renL,O.ren,cout,List.getD_cons_zero,List.getD_cons_succ]
   ·exact aa.elim
  ·exact aa.elim
 ·exact aa.elim
set_option maxHeartbeats 8000000
noncomputable section
def S117:Spec:=onceS
attribute [go_sem] S117
theorem WL:aN Tryz.prog 117 S117:=by
 refine TE ?_ (nc _ (by decide))
 refine oK (nt:=12) (rs:=[.tmp 3]) Tryz.func117 rfl (by rfl) (by kernel_rfl) (i6 Tryz.func117 rfl (by kernel_rfl)) (nc _ (by decide)) ?_
 rintro os ds ⟨ss,s,rfl,rfl⟩
 refine⟨Nat.le_of_ble_eq_true rfl,?_⟩
 have ju:wx.out [.box [.map [1,1]],.map 0 (fi ss)] [.v (vInt s),.ref [0,1] 0]=⟨[(1,.map 0 (fi (rk ss s)))],[],.v (.bool (!ss.contains s))⟩:=by
  simp only[wx,aad]
 rw[ju]
 refine jE ?_
 have hΓ:=@fE Tryz.prog
 have dN:∀ hs,ck [0] (b8 [0] hs) (aX [.box [.map [1,1]],.map 0 (fi ss)])=True:=fun hs=>eq_true (o8 (by
  intro o ho dom hd
  simp only[List.mem_cons,List.not_mem_nil,or_false]at ho
  rcases ho with rfl | rfl
  ·simp[O.clos,D.closL,D.clos,hd]
  ·rfl) hs)
 have h0:aX [.box [.map [1,1]],.map 0 (fi ss)] [0,1]=some (.box [.map [1,1]]):=rfl
 have h1:aX [.box [.map [1,1]],.map 0 (fi ss)] [1,1]=some (.map 0 (fi ss)):=rfl
 generalize hH:aX [.box [.map [1,1]],.map 0 (fi ss)]=H at *
 have ae:∀ hs es,ck [0] (b8 [0] hs) (upd H [1,1] (some (.map 0 es)))=True:=fun hs es=>eq_true (tJ rfl (by rw[dN];trivial))
 have bq:∀ hs es,ck [0] (b8 [0] hs) (fun nm=>if nm=[1,1]then some (.map 0 es)else H nm)=True:=ae
 repeat refine sq ?_
 refine rx hΓ [0,1] [] (fun K' hK=>by simp only[go_sem,dN];(repeat (refine⟨ob,?_⟩));exact hK _ (by simp only[go_sem,dN]) (by simp only[go_sem,dN]<;>rfl)) ?_
 repeat refine sq ?_
 refine rx hΓ [0,1,4] [] (fun K' hK=>by simp only[go_sem,dN,h0,h1,De];(repeat (refine⟨ob,?_⟩));exact hK _ (by simp only[go_sem,dN,h0,h1,De]) (by simp only[go_sem,dN,h0,h1,De]<;>rfl)) ?_
 repeat refine sq ?_
 refine rx hΓ [4] [] (fun K' hK=>by simp only[go_sem,dN,ae,bq,h0,h1,Db];(repeat (refine⟨ob,?_⟩));exact hK _ (by simp only[go_sem,dN,ae,bq,h0,h1,Db]) (by simp only[go_sem,dN,ae,bq,h0,h1,Db]<;>rfl)) ?_
 repeat refine sq ?_
 refine rx hΓ [3] [] (fun K' hK=>by simp only[go_sem,dN,ae,bq];(repeat (refine⟨ob,?_⟩));exact hK _ (by simp only[go_sem,dN,ae,bq]) (by simp only[go_sem,dN,ae,bq]<;>rfl)) ?_
 refine aC ?_
 simp only[go_sem]
 exact⟨h0,rfl⟩
def K7:List (Nat×Spec):=[(109,ack),(111,aci),(113,acg),(115,ace),(117,S117),(79,yl)]
theorem acB:KS K7:=tc Sw.sound<|tc Su.sound<|tc Sr.sound<|tc Sp.sound<|tc WL<|tc HX.sound<|tn
attribute [go_sem] K7
def sn{α:Type}(pre:List Int)(f:α->Int)(l:List α)(i:Nat):List Int:=(l.take i).foldl (fun a x=>a++[f x]) pre
theorem o0{α:Type}(pre:List Int)(f:α->Int)(l:List α)(i:Nat):sn pre f l i=pre++(l.take i).map f:=by
 unfold sn
 generalize l.take i=k
 induction k generalizing pre with
 |nil=>simp
 |cons a r ih=>simp[ih]
theorem B5{α:Type}{pre:List Int}{f:α->Int}{l:List α}{i:Nat}(h:i<l.length)(hc:(sn pre f l i).contains (f l[i])=false):rk (sn pre f l i) (f l[i])=sn pre f l (i+1):=by
 unfold rk
 rw[hc,o0,o0,List.take_add_one,List.getElem?_eq_getElem h]
 simp only[Bool.false_eq_true,if_false,Option.toList_some,List.map_append,List.map_cons,List.map_nil,List.append_assoc]
def ow(l:List Int):Int:=l.getD (l.length-1) 0
def tX(l:Led):List Int:=l.rs.map Rec.so++l.ts.map Ret.so++l.ss.map Sig.so
structure bE (l:Led):Prop where
 ps:jd oe Pap.id l.ps=true
 psn:l.ps.length<=12
 rs:jd dJ Rec.so l.rs=true
 rsn:l.rs.length<=60
 ts:jd jR Ret.so l.ts=true
 tsn:l.ts.length<=60
 ss:jd kC Sig.so l.ss=true
 ssn:l.ss.length<=60
 rl:∀ j (h:j<l.rs.length),ow l.rs[j].lv<=bW l.ps l.rs[j].pa
 sl:∀ j (h:j<l.ss.length),l.ss[j].le<=bW l.ps l.ss[j].pa
 nd:(tX l).Nodup
open Classical in
def wz(l:Led):Bool:=decide (bE l)
theorem CS{l:Led}:wz l=true↔bE l:=by unfold wz;exact @decide_eq_true_iff _ (Classical.propDecidable _)
def oN(l:Led):Int:=gY (wz l) 24
theorem xU{l:Led}(h:¬ bE l):oN l=24:=by unfold oN;rw[vE CS h];rfl
theorem aa4{l:Led}(h:bE l):oN l=0:=by unfold oN;rw[CS.2 h];rfl
def lX{α:Type}(pre:List Int)(f:α->Int)(l:List α)(i:Nat):Prop:=∀ j (h:j<l.length),j<i->(sn pre f l j).contains (f l[j])=false
theorem C6{α:Type}{pre:List Int}{f:α->Int}{l:List α}{i:Nat}(h:lX pre f l i)(hi:i<l.length)(hc:(sn pre f l i).contains (f l[i])=false):lX pre f l (i+1):=by
 intro j hj fh
 rcases Nat.lt_succ_iff_lt_or_eq.1 fh with h1 | rfl
 ·exact h j hj h1
 ·exact hc
theorem uF{α:Type}{pre:List Int}{f:α->Int}{l:List α}(hp:pre.Nodup):lX pre f l l.length↔(pre++l.map f).Nodup:=by
 constructor
 ·intro h
  rw[List.nodup_append]
  refine⟨hp,?_,?_⟩
  ·rw[List.nodup_iff_pairwise_ne,List.pairwise_map,List.pairwise_iff_getElem]
   intro i j hi hj bD e
   have :=h j hj hj
   rw[o0]at this
   simp only[List.contains_append,Bool.or_eq_false_iff]at this
   have h2:=this.2
   have :(List.map f (List.take j l)).contains (f l[j])=true:=by
    rw[List.contains_iff_mem,List.mem_map]
    exact⟨l[i],by rw[List.mem_take_iff_getElem];exact⟨i,by omega,rfl⟩,e⟩
   rw[h2]at this;cases this
  ·intro a ha b hb e
   subst e
   obtain⟨x,hx,rfl⟩:=List.mem_map.1 hb
   obtain⟨j,hj,rfl⟩:=List.getElem_of_mem hx
   have :=h j hj hj
   rw[o0]at this
   simp only[List.contains_append,Bool.or_eq_false_iff]at this
   have h2:=this.1
   rw[List.contains_iff_mem.2 ha]at h2;cases h2
 ·intro h j hj _
  rw[List.nodup_append]at h
  obtain⟨_,h1,h2⟩:=h
  rw[o0,Bool.eq_false_iff]
  intro hc
  rw[List.contains_iff_mem,List.mem_append]at hc
  rcases hc with hc | hc
  ·exact h2 _ hc _ (List.mem_map_of_mem (List.getElem_mem hj)) rfl
  ·obtain⟨x,hx,e⟩:=List.mem_map.1 hc
   obtain⟨i,hi,rfl⟩:=List.mem_take_iff_getElem.1 hx
   rw[List.nodup_iff_pairwise_ne,List.pairwise_map,List.pairwise_iff_getElem]at h1
   exact h1 i j (by omega) hj (by omega) e
theorem Jq{α:Type}{pre:List Int}{f:α->Int}{l:List α}(h:(pre++l.map f).Nodup):pre.Nodup:=(List.nodup_append.1 h).1
def S0(l:Led)(i:Nat):Prop:=∀ j (h:j<l.rs.length),j<i->ow l.rs[j].lv<=bW l.ps l.rs[j].pa
def Q3(l:Led)(i:Nat):Prop:=∀ j (h:j<l.ss.length),j<i->l.ss[j].le<=bW l.ps l.ss[j].pa
theorem GQ{l:Led}(h:bE l):lX [] Rec.so l.rs l.rs.length/\lX (sn [] Rec.so l.rs l.rs.length) Ret.so l.ts l.ts.length/\lX (sn (sn [] Rec.so l.rs l.rs.length) Ret.so l.ts l.ts.length) Sig.so l.ss l.ss.length:=by
 have hn:=h.nd
 unfold tX at hn
 have e1:sn [] Rec.so l.rs l.rs.length=l.rs.map Rec.so:=by rw[o0,List.take_length];rfl
 have e2:sn (sn [] Rec.so l.rs l.rs.length) Ret.so l.ts l.ts.length=l.rs.map Rec.so++l.ts.map Ret.so:=by rw[o0,e1,List.take_length]
 have n2:=Jq hn
 have n1:=Jq n2
 refine⟨(uF (by simp)).2 (by simpa using n1),?_,?_⟩
 ·rw[e1];exact(uF n1).2 n2
 ·rw[e2];exact(uF n2).2 hn
theorem acu{l:Led}(h1:lX [] Rec.so l.rs l.rs.length)(h2:lX (sn [] Rec.so l.rs l.rs.length) Ret.so l.ts l.ts.length)(h3:lX (sn (sn [] Rec.so l.rs l.rs.length) Ret.so l.ts l.ts.length) Sig.so l.ss l.ss.length):(tX l).Nodup:=by
 have e1:sn [] Rec.so l.rs l.rs.length=l.rs.map Rec.so:=by rw[o0,List.take_length];rfl
 have e2:sn (sn [] Rec.so l.rs l.rs.length) Ret.so l.ts l.ts.length=l.rs.map Rec.so++l.ts.map Ret.so:=by rw[o0,e1,List.take_length]
 have n1:(l.rs.map Rec.so).Nodup:=by simpa using(uF (pre:=[]) (by simp)).1 h1
 have n2:=(uF n1).1 (by rw[e1]at h2;exact h2)
 exact(uF n2).1 (by rw[e2]at h3;exact h3)
theorem abf{a b c d:Bool}{p q r s:Prop}[Decidable p][Decidable q][Decidable r][Decidable s](h:(!(a&&decide p)||!(b&&decide q)||!(c&&decide r)||!(d&&decide s))=false):a=true/\p/\b=true/\q/\c=true/\r/\d=true/\s:=by
 simp only[Bool.or_eq_false_iff,Bool.not_eq_false',Bool.and_eq_true,decide_eq_true_eq]at h
 obtain⟨⟨⟨⟨h1,h2⟩,h3,h4⟩,h5,h6⟩,h7,h8⟩:=h
 exact⟨h1,h2,h3,h4,h5,h6,h7,h8⟩
theorem mA{α:Type}{fj:α->Bool}{num:α->Int}{l:List α}(h:jd fj num l=true){j:Nat}(hj:j<l.length):fj l[j]=true:=(kq.1 h j hj hj).1
theorem S1{r:Rec}(h:dJ r=true):0<r.lv.length:=by
 unfold dJ at h
 simp only[Bool.and_eq_true]at h
 exact(ov.1 h.1.1.2).1
@[go_sem] def P37:PSpec:=p1 iL (fun _=>True) (fun l=>vInt (oN l)) true
@[go_sem] def GF:Spec:=P37.toSpec
theorem RW:aZ Tryz.prog 37 P37:=by
 refine fQ (rs:=[.tmp 2]) Tryz.func37 Tryz.ntmps37 fun l hp hw=>?_
 have hP:=fU
 simp only[iL,gM]at hw |-
 have hΓ:=acB
 repeat refine sq ?_
 refine rs hΓ [1] [[1,0]] ?_
 repeat refine sq ?_
 refine rs hΓ [1,32] [[1,0]] ?_
 repeat refine sq ?_
 refine aB (fun hb=>?_) fun hb=>?_
 ·repeat refine sq ?_
  have kh:¬ bE l:=by
   intro h
   rw[h.ps,h.rs,h.ts,h.ss]at hb
   have h1:=h.psn
   have h2:=h.rsn
   have h3:=h.tsn
   have h4:=h.ssn
   simp only[Bool.true_and,Bool.or_eq_true,Bool.not_eq_true',decide_eq_false_iff_not]at hb
   omega
  repeat refine sq ?_
  refine rs hΓ [2] [] ?_
  refine aC ?_
  simp only[go_sem]
  rw[xU kh]
 ·repeat refine sq ?_
  obtain⟨gF,Mu,cf,nx,si,DX,sk,zT⟩:=abf hb
  have zR:srt Pap.id l.ps:=wy (kq.1 gF)
  have Ad:l.rs.length<=maxLen:=by unfold maxLen;omega
  have kb:l.ts.length<=maxLen:=by unfold maxLen;omega
  have X1:l.ss.length<=maxLen:=by unfold maxLen;omega
  refine aJ ?_
  repeat refine sq ?_
  refine rs hΓ [1,3] [[1,0],[3,0],[33,0]] ?_
  repeat refine sq ?_
  refine rs hΓ [1,4] [[1,0],[3,0],[33,0]] ?_
  repeat refine sq ?_
  refine rs hΓ [1,4,36,37,38] [[1,0],[3,0],[33,0]] ?_
  repeat refine sq ?_
  refine aR ?_
  repeat refine sq ?_
  refine cr (fun s:Nat=>[(38,⟨true,.v (vInt s)⟩)]) (fun s=>[([33,0],.map 0 (fi (sn [] Rec.so l.rs s)))]) (fun s=>s<=l.rs.length/\lX [] Rec.so l.rs s/\S0 l s) (fun s=>l.rs.length-s) 0 ?_ ?_ ?_ ?_
  ·exact⟨Nat.zero_le _,fun j _ h=>by omega,fun j _ h=>by omega⟩
  ·rfl
  ·rfl
  rintro i ⟨hi,hR,Nn⟩
  simp only[go_sem]
  repeat refine sq ?_
  refine rs hΓ [1,4,36,37,38,39] [[1,0],[3,0],[33,0]] ?_
  repeat refine sq ?_
  refine aB (fun hb=>?_) fun hb=>?_
  ·have ab:i<l.rs.length:=by simpa using hb
   have ao:(i:Int)<l.rs.length:=by omega
   clear hb
   have hv:=S1 (mA cf ab)
   have zM:l.rs[i].lv.length<=maxLen:=by have h0:=(ov.1 (by have h:=mA cf ab;unfold dJ at h;simp only[Bool.and_eq_true]at h;exact h.1.1.2:lr l.rs[i].lv=true)).2.1;unfold maxLen;omega
   have w6:=BM (by omega:¬ l.rs[i].lv.length=0) zM
   have Eb:((l.rs[i].lv.length-1:Nat):Int)<l.rs[i].lv.length:=by omega
   have qw:l.rs[i].lv.length-1<l.rs[i].lv.length:=by omega
   have Yo:(l.rs[i].lv.map vInt).getD (l.rs[i].lv.length-1) default=vInt (ow l.rs[i].lv):=by unfold ow;rw[ah qw,cz qw]
   repeat refine sq ?_
   refine aJ ?_
   repeat refine sq ?_
   refine aR ?_
   repeat refine sq ?_
   refine rx hΓ [1,4,6,36,37,38] [[1,0],[3,0],[6,0],[33,0]] (fun K' hK=>by simp only[go_sem,ah ab,ai,aj,ao];exact fn) ?_
   repeat refine sq ?_
   refine dx hΓ hP [[],[],[1],[0,1,2],u4,u5,u6,u7,u6,[0,1,2,3,4,5,8],[0,1,2,3,4,5,8,9],[0,1,2,3,4,5,8,9,10],dO,kx,u6,[0,1,2,3,4,5,14],[0,1,2,3,4,5,14,15],lR,iA] [1,4,36,37,38,60] [[1,0],[3,0],[33,0]] (by kernel_rfl) (fun K' hK=>by simp only[go_sem,ah ab,ai,aj,ao,zR,w6,Yo,Eb];exact fd) ?_
   repeat refine sq ?_
   refine aB (fun hb=>?_) fun hb=>?_
   ·repeat refine sq ?_
    have kh:¬ bE l:=by
     intro h
     have h1:=(GQ h).1 i ab ab
     have h2:=h.rl i ab
     rw[h1]at hb
     simp only[Bool.not_false,Bool.not_true,Bool.false_or,decide_eq_true_eq]at hb
     omega
    repeat refine sq ?_
    refine rx hΓ [2] [] (fun K' hK=>by simp only[go_sem,ah ab,ai,aj,ao];exact fn) ?_
    refine aC ?_
    simp only[go_sem]
    rw[xU kh]
   ·repeat refine sq ?_
    have qC:(sn [] Rec.so l.rs i).contains l.rs[i].so=false:=by
     simp only[Bool.or_eq_false_iff,Bool.not_not]at hb
     exact hb.1
    have Aa:ow l.rs[i].lv<=bW l.ps l.rs[i].pa:=by
     simp only[Bool.or_eq_false_iff,decide_eq_false_iff_not]at hb
     omega
    rw[B5 ab qC]
    refine aJ ?_
    refine bV ?_
    simp only[go_sem]
    refine kp [1,4,36,37,38] [[1,0],[3,0],[33,0]] ?_
    repeat refine sq ?_
    refine aS hΓ fun K' hK=>?_
    simp only[go_sem,ah ab,ai,aj,ao]
    repeat (refine⟨ob,?_⟩)
    refine hK _ ?_
    clear K' hK
    simp only[go_sem]
    refine⟨i+1,⟨ab,?_⟩,by(show l.rs.length-(i+1)<l.rs.length-i;omega),?_⟩
    ·exact⟨C6 hR ab qC,fun j hj fh=>by
      rcases Nat.lt_succ_iff_lt_or_eq.1 fh with h1 | rfl
      ·exact Nn j hj h1
      ·exact Aa⟩
    refine bg [1,4,36,37,38] [[1,0],[3,0],[33,0]] ?_ ?_<;>simp only[go_sem,a7 ab Ad,bb]
  ·have bF:i=l.rs.length:=by
    have :¬ (i:Int)<l.rs.length:=by simpa using hb
    omega
   clear hb
   subst bF
   repeat refine sq ?_
   refine bR ?_
   simp only[go_sem]
   refine kp [1,4] [[1,0],[3,0],[33,0]] ?_
   repeat refine sq ?_
   refine rs hΓ [1,4,63,64,65] [[1,0],[3,0],[33,0]] ?_
   repeat refine sq ?_
   refine aR ?_
   repeat refine sq ?_
   refine cr (fun s:Nat=>[(65,⟨true,.v (vInt s)⟩)]) (fun s=>[([33,0],.map 0 (fi (sn (sn [] Rec.so l.rs l.rs.length) Ret.so l.ts s)))]) (fun s=>s<=l.ts.length/\lX (sn [] Rec.so l.rs l.rs.length) Ret.so l.ts s) (fun s=>l.ts.length-s) 0 ?_ ?_ ?_ ?_
   ·exact⟨Nat.zero_le _,fun j _ h=>by omega⟩
   ·rfl
   ·rfl
   rintro i ⟨hi1,Nm⟩
   simp only[go_sem]
   repeat refine sq ?_
   refine rs hΓ [1,4,63,64,65,66] [[1,0],[3,0],[33,0]] ?_
   repeat refine sq ?_
   refine aB (fun hb=>?_) fun hb=>?_
   ·have aK:i<l.ts.length:=by simpa using hb
    have ba:(i:Int)<l.ts.length:=by omega
    clear hb
    repeat refine sq ?_
    refine aJ ?_
    repeat refine sq ?_
    refine aR ?_
    repeat refine sq ?_
    refine rx hΓ [1,4,8,63,64,65] [[1,0],[3,0],[8,0],[33,0]] (fun K' hK=>by simp only[go_sem,ah aK,ai,aj,ba];exact fn) ?_
    repeat refine sq ?_
    refine rx hΓ [1,4,63,64,65,73] [[1,0],[3,0],[33,0]] (fun K' hK=>by simp only[go_sem,ah aK,ai,aj,ba];exact fn) ?_
    repeat refine sq ?_
    refine aB (fun hb=>?_) fun hb=>?_
    ·repeat refine sq ?_
     have kh:¬ bE l:=by
      intro h
      have h1:=(GQ h).2.1 i aK aK
      rw[h1]at hb
      cases hb
     repeat refine sq ?_
     refine rx hΓ [2] [] (fun K' hK=>by simp only[go_sem,ah aK,ai,aj,ba];exact fn) ?_
     refine aC ?_
     simp only[go_sem]
     rw[xU kh]
    ·repeat refine sq ?_
     have qC:(sn (sn [] Rec.so l.rs l.rs.length) Ret.so l.ts i).contains l.ts[i].so=false:=by
      simpa only[Bool.not_not]using hb
     rw[B5 aK qC]
     refine aJ ?_
     refine bV ?_
     simp only[go_sem]
     refine kp [1,4,63,64,65] [[1,0],[3,0],[33,0]] ?_
     repeat refine sq ?_
     refine aS hΓ fun K' hK=>?_
     simp only[go_sem,ah aK,ai,aj,ba]
     repeat (refine⟨ob,?_⟩)
     refine hK _ ?_
     clear K' hK
     simp only[go_sem]
     refine⟨i+1,⟨aK,?_⟩,by(show l.ts.length-(i+1)<l.ts.length-i;omega),?_⟩
     ·exact C6 Nm aK qC
     refine bg [1,4,63,64,65] [[1,0],[3,0],[33,0]] ?_ ?_<;>simp only[go_sem,a7 aK kb,bb]
   ·have ke:i=l.ts.length:=by
     have :¬ (i:Int)<l.ts.length:=by simpa using hb
     omega
    clear hb
    subst ke
    repeat refine sq ?_
    refine bR ?_
    simp only[go_sem]
    refine kp [1,4] [[1,0],[3,0],[33,0]] ?_
    repeat refine sq ?_
    refine rs hΓ [1,4,76,77,78] [[1,0],[3,0],[33,0]] ?_
    repeat refine sq ?_
    refine aR ?_
    repeat refine sq ?_
    refine cr (fun s:Nat=>[(78,⟨true,.v (vInt s)⟩)]) (fun s=>[([33,0],.map 0 (fi (sn (sn (sn [] Rec.so l.rs l.rs.length) Ret.so l.ts l.ts.length) Sig.so l.ss s)))]) (fun s=>s<=l.ss.length/\lX (sn (sn [] Rec.so l.rs l.rs.length) Ret.so l.ts l.ts.length) Sig.so l.ss s/\Q3 l s) (fun s=>l.ss.length-s) 0 ?_ ?_ ?_ ?_
    ·exact⟨Nat.zero_le _,fun j _ h=>by omega,fun j _ h=>by omega⟩
    ·rfl
    ·rfl
    rintro i ⟨lA,Nl,Nk⟩
    simp only[go_sem]
    repeat refine sq ?_
    refine rs hΓ [1,4,76,77,78,79] [[1,0],[3,0],[33,0]] ?_
    repeat refine sq ?_
    refine aB (fun hb=>?_) fun hb=>?_
    ·have bN:i<l.ss.length:=by simpa using hb
     have dZ:(i:Int)<l.ss.length:=by omega
     clear hb
     repeat refine sq ?_
     refine aJ ?_
     repeat refine sq ?_
     refine aR ?_
     repeat refine sq ?_
     refine rx hΓ [1,4,10,76,77,78] [[1,0],[3,0],[10,0],[33,0]] (fun K' hK=>by simp only[go_sem,ah bN,ai,aj,dZ];exact fn) ?_
     repeat refine sq ?_
     refine dx hΓ hP [[],[],[1],[0,1,2],u4,u5,u6,u7,u6,[0,1,2,3,4,5,8],[0,1,2,3,4,5,8,9],fm,dO] [1,4,76,77,78,94] [[1,0],[3,0],[33,0]] (by kernel_rfl) (fun K' hK=>by simp only[go_sem,ah bN,ai,aj,dZ,zR];exact fd) ?_
     repeat refine sq ?_
     refine aB (fun hb=>?_) fun hb=>?_
     ·repeat refine sq ?_
      have kh:¬ bE l:=by
       intro h
       have h1:=(GQ h).2.2 i bN bN
       have h2:=h.sl i bN
       rw[h1]at hb
       simp only[Bool.not_false,Bool.not_true,Bool.false_or,decide_eq_true_eq]at hb
       omega
      repeat refine sq ?_
      refine rx hΓ [2] [] (fun K' hK=>by simp only[go_sem,ah bN,ai,aj,dZ];exact fn) ?_
      refine aC ?_
      simp only[go_sem]
      rw[xU kh]
     ·repeat refine sq ?_
      have qC:(sn (sn (sn [] Rec.so l.rs l.rs.length) Ret.so l.ts l.ts.length) Sig.so l.ss i).contains l.ss[i].so=false:=by
       simp only[Bool.or_eq_false_iff,Bool.not_not]at hb
       exact hb.1
      have Aa:l.ss[i].le<=bW l.ps l.ss[i].pa:=by
       simp only[Bool.or_eq_false_iff,decide_eq_false_iff_not]at hb
       omega
      rw[B5 bN qC]
      refine aJ ?_
      refine bV ?_
      simp only[go_sem]
      refine kp [1,4,76,77,78] [[1,0],[3,0],[33,0]] ?_
      repeat refine sq ?_
      refine aS hΓ fun K' hK=>?_
      simp only[go_sem,ah bN,ai,aj,dZ]
      repeat (refine⟨ob,?_⟩)
      refine hK _ ?_
      clear K' hK
      simp only[go_sem]
      refine⟨i+1,⟨bN,?_⟩,by(show l.ss.length-(i+1)<l.ss.length-i;omega),?_⟩
      ·exact⟨C6 Nl bN qC,fun j hj fh=>by
        rcases Nat.lt_succ_iff_lt_or_eq.1 fh with h1 | rfl
        ·exact Nk j hj h1
        ·exact Aa⟩
      refine bg [1,4,76,77,78] [[1,0],[3,0],[33,0]] ?_ ?_<;>simp only[go_sem,a7 bN X1,bb]
    ·have nD:i=l.ss.length:=by
      have :¬ (i:Int)<l.ss.length:=by simpa using hb
      omega
     clear hb
     subst nD
     repeat refine sq ?_
     refine bR ?_
     simp only[go_sem]
     refine kp [] [] ?_
     repeat refine sq ?_
     refine rs hΓ [2] [] ?_
     refine aC ?_
     simp only[go_sem]
     rw[aa4 ⟨gF,by omega,cf,by omega,si,by omega,sk,by omega,fun j h=>Nn j h h,fun j h=>Nk j h h,acu hR Nm Nl⟩]
end
noncomputable section
def K8a:List (Nat×Spec):=[(84,BC)]
attribute [go_sem] K8a
structure Fol where
 (pa le:Int)
 deriving Inhabited,DecidableEq
def qQ(f:Fol):V:=.agg [vInt f.pa,vInt f.le]
def On:V->Fol
 | .agg [.int _ a,.int _ b]=>⟨a,b⟩
 |_=>default
def np:En Fol:=⟨qQ,On⟩
attribute [go_sem] qQ On np
@[go_sem] theorem mn(p:Fol):(⟨p.pa,p.le⟩:Fol)=p:=rfl
end
noncomputable section
def K9:List (Nat×Spec):=[]
attribute [go_sem] K9
end
noncomputable section
theorem AM(d:Nat)(a b:Int):iZ Tryz.prog (d+1) 3 (vInt a) (vInt b)=some (a==b):=by
 simp only[iZ,Tryz.underlying3,if_true]
theorem YG:Tryz.prog.stoodInHeld 46=false:=by kernel_rfl
theorem ZK:Tryz.prog.eqGuardType Tryz.prog.depth 46=false:=by kernel_rfl
theorem ZZ(d:Nat)(a b a' b':Int):iZ Tryz.prog (d+2) 46 (.agg [vInt a,vInt b]) (.agg [vInt a',vInt b'])=some (a==a'&&b==b'):=by
 unfold iZ
 simp only[Tryz.underlying46,YG,Bool.false_eq_true,if_false,oI,qc,yJ,List.getElem?_cons_zero,List.getElem?_cons_succ,AM]
 cases a==a'<;>cases b==b'<;>rfl
@[go_sem] theorem ag4(obj:Name->Option O)(op:BinOp)(a b a' b':Int):jI Tryz.prog obj op 46 (.agg [vInt a,vInt b]) (.agg [vInt a',vInt b'])=
    ⟨op=.eql\/op=.neq,.v (.bool (if op=.eql then(a==a'&&b==b')else !(a==a'&&b==b'))),obj⟩:=by
  unfold jI
  rw[show Op.maxDepth=9998+2 from rfl,ZZ]
  simp only[ZK,true_and]
theorem YF:Tryz.prog.stoodInHeld 56=false:=by kernel_rfl
theorem ZJ:Tryz.prog.eqGuardType Tryz.prog.depth 56=false:=by kernel_rfl
theorem ZY(d:Nat)(a b a' b':Int):iZ Tryz.prog (d+2) 56 (.agg [vInt a,vInt b]) (.agg [vInt a',vInt b'])=some (a==a'&&b==b'):=by
 unfold iZ
 simp only[Tryz.underlying56,YF,Bool.false_eq_true,if_false,oI,qc,yJ,List.getElem?_cons_zero,List.getElem?_cons_succ,AM]
 cases a==a'<;>cases b==b'<;>rfl
@[go_sem] theorem ag3(obj:Name->Option O)(op:BinOp)(a b a' b':Int):jI Tryz.prog obj op 56 (.agg [vInt a,vInt b]) (.agg [vInt a',vInt b'])=
    ⟨op=.eql\/op=.neq,.v (.bool (if op=.eql then(a==a'&&b==b')else !(a==a'&&b==b'))),obj⟩:=by
  unfold jI
  rw[show Op.maxDepth=9998+2 from rfl,ZY]
  simp only[ZJ,true_and]
theorem YH:Tryz.prog.stoodInHeld 38=false:=by kernel_rfl
theorem ZL:Tryz.prog.eqGuardType Tryz.prog.depth 38=false:=by kernel_rfl
theorem Z0(d:Nat)(a b a' b':Int):iZ Tryz.prog (d+2) 38 (.agg [vInt a,vInt b]) (.agg [vInt a',vInt b'])=some (a==a'&&b==b'):=by
 unfold iZ
 simp only[Tryz.underlying38,YH,Bool.false_eq_true,if_false,oI,qc,yJ,List.getElem?_cons_zero,List.getElem?_cons_succ,AM]
 cases a==a'<;>cases b==b'<;>rfl
@[go_sem] theorem ag5(obj:Name->Option O)(op:BinOp)(a b a' b':Int):jI Tryz.prog obj op 38 (.agg [vInt a,vInt b]) (.agg [vInt a',vInt b'])=
    ⟨op=.eql\/op=.neq,.v (.bool (if op=.eql then(a==a'&&b==b')else !(a==a'&&b==b'))),obj⟩:=by
  unfold jI
  rw[show Op.maxDepth=9998+2 from rfl,Z0]
  simp only[ZL,true_and]
theorem YE:Tryz.prog.stoodInHeld 81=false:=by kernel_rfl
theorem ZI:Tryz.prog.eqGuardType Tryz.prog.depth 81=false:=by kernel_rfl
theorem ZX(k:Nat)(a b c d e f g a' b' c' d' e' f' g':Int):iZ Tryz.prog (k+2) 81 (.agg [vInt a,vInt b,vInt c,vInt d,vInt e,vInt f,vInt g]) (.agg [vInt a',vInt b',vInt c',vInt d',vInt e',vInt f',vInt g'])=
 some (a==a'&&(b==b'&&(c==c'&&(d==d'&&(e==e'&&(f==f'&&g==g')))))):=by
 unfold iZ
 simp only[Tryz.underlying81,YE,Bool.false_eq_true,if_false,oI,qc,yJ,List.getElem?_cons_zero,List.getElem?_cons_succ,AM]
 cases a==a'<;>cases b==b'<;>cases c==c'<;>cases d==d'<;>cases e==e'<;>cases f==f'<;>cases g==g'<;>rfl
@[go_sem] theorem ag2(obj:Name->Option O)(op:BinOp)(a b c d e f g a' b' c' d' e' f' g':Int):jI Tryz.prog obj op 81 (.agg [vInt a,vInt b,vInt c,vInt d,vInt e,vInt f,vInt g]) (.agg [vInt a',vInt b',vInt c',vInt d',vInt e',vInt f',vInt g'])=
    ⟨op=.eql\/op=.neq,.v (.bool (if op=.eql then(a==a'&&(b==b'&&(c==c'&&(d==d'&&(e==e'&&(f==f'&&g==g'))))))else !(a==a'&&(b==b'&&(c==c'&&(d==d'&&(e==e'&&(f==f'&&g==g')))))))),obj⟩:=by
  unfold jI
  rw[show Op.maxDepth=9998+2 from rfl,ZX]
  simp only[ZI,true_and]
theorem Nf{l:List Int}{n:Int}:l.contains n=true↔∃ k,∃ (h:k<l.length),l[k]=n:=by
 rw[List.contains_iff_mem]
 constructor
 ·intro h
  obtain⟨k,hk,e⟩:=List.getElem_of_mem h
  exact⟨k,hk,e⟩
 ·rintro⟨k,hk,rfl⟩
  exact List.getElem_mem hk
@[go_sem] def P15:PSpec:=p2 fw iI (fun _ _=>True) (fun l n=>.bool (l.contains n)) true
@[go_sem] def pR:Spec:=P15.toSpec
set_option maxHeartbeats 4000000 in
theorem wh:aZ Tryz.prog 15 P15:=by
 refine fD (rs:=[.tmp 4]) Tryz.func15 Tryz.ntmps15 fun l n hp hw=>?_
 simp only[iI,fw]at hw |-
 have hΓ:=@fE Tryz.prog
 have hl:l.length<=maxLen:=by have:=hw.1.1;simpa using this
 repeat refine sq ?_
 refine rs hΓ [0,1] [] ?_
 repeat refine sq ?_
 refine rs hΓ [0,1,5] [] ?_
 repeat refine sq ?_
 refine aR ?_
 repeat refine sq ?_
 refine cr (fun s:Nat=>[(5,⟨true,.v (vInt s)⟩)]) (fun s=>[]) (fun s=>s<=l.length/\∀ k (h:k<l.length),k<s->l[k]≠n) (fun s=>l.length-s) 0 ?_ ?_ ?_ ?_
 ·exact⟨Nat.zero_le _,by simp⟩
 ·rfl
 ·rfl
 rintro i ⟨hi,hR⟩
 simp only[go_sem]
 repeat refine sq ?_
 refine rs hΓ [0,1,5,9] [] ?_
 repeat refine sq ?_
 refine aB (fun hb=>?_) fun hb=>?_
 ·have ab:i<l.length:=by simpa using hb
  have ao:(i:Int)<l.length:=by omega
  clear hb
  repeat refine sq ?_
  refine aJ ?_
  repeat refine sq ?_
  refine aR ?_
  repeat refine sq ?_
  refine rx hΓ [0,1,5,17] [] (fun K' hK=>by simp only[go_sem,ah ab,ai,aj,ao];exact fn) ?_
  repeat refine sq ?_
  refine aB (fun hb=>?_) fun hb=>?_
  ·repeat refine sq ?_
   refine rx hΓ [4] [] (fun K' hK=>by simp only[go_sem,ah ab,ai,aj,ao];exact fn) ?_
   refine aC ?_
   simp only[go_sem]
   rw[Nf.2 ⟨i,ab,by simpa using hb⟩]
  ·repeat refine sq ?_
   refine aJ ?_
   refine bV ?_
   simp only[go_sem]
   refine kp [0,1,5] [] ?_
   repeat refine sq ?_
   refine aS hΓ fun K' hK=>?_
   simp only[go_sem,ah ab,ai,aj,ao]
   repeat (refine⟨ob,?_⟩)
   refine hK _ ?_
   clear K' hK
   simp only[go_sem]
   refine⟨i+1,⟨ab,?_⟩,by(show l.length-(i+1)<l.length-i;omega),?_⟩
   ·intro k hk dH
    rcases Nat.lt_succ_iff_lt_or_eq.1 dH with h5 | rfl
    ·exact hR k hk h5
    ·simpa using hb
   refine bg [0,1,5] [] ?_ ?_<;>simp only[go_sem,a7 ab hl,bb]
 ·have bF:i=l.length:=by
   have :¬ (i:Int)<l.length:=by simpa using hb
   omega
  clear hb
  subst bF
  repeat refine sq ?_
  refine bR ?_
  simp only[go_sem]
  refine kp [] [] ?_
  repeat refine sq ?_
  refine rs hΓ [4] [] ?_
  refine aC ?_
  simp only[go_sem]
  rw[vE Nf (fun ⟨k,hk,e⟩=>hR k hk hk e)]
def adw:List (Nat×Spec):=[]
attribute [go_sem] adw
def K10:List (Nat×Spec):=[]
attribute [go_sem] K10
end
noncomputable section
theorem aZ.conv{P:Program}{f:FuncId}{s s':PSpec}(h:aZ P f s)(hf:s'.flat=s.flat)(hp:∀ xs,s'.pre xs->s.pre xs/\s'.fn xs=s.fn xs):aZ P f s':=by
 refine⟨h.ne,h.enter,fun du xs hx=>?_,fun m w xs args hm hx dT=>?_⟩
 ·rw[(hp xs hx).2];exact h.flat (hf▸du) xs (hp xs hx).1
 ·rw[(hp xs dT).2];exact h.calls m w xs args hm hx (hp xs dT).1
def S132:Spec:=vC Tryz.prog 29
theorem WE:aN Tryz.prog 132 S132:=aaJ OL
attribute [go_sem] S132
def K11:List (Nat×Spec):=[(132,S132)]
attribute [go_sem] K11
def aaA(l:Led):List (Name×O):=[([8,0],.arr 2 (l.ps.map c9)),([11,0],.arr 7 (l.rs.map encR)),([14,0],.arr 8 (l.ts.map cT)),([17,0],.arr 7 (l.ss.map encS))]
def aaB(l:Led):D:=.agg [.msl [8,0] l.ps.length,.msl [11,0] l.rs.length,.msl [14,0] l.ts.length,.msl [17,0] l.ss.length]
attribute [go_sem] aaA aaB
theorem Jf(l:List Pap):∀ y∈l.map c9,y.cells.length=2/\y.okc=true:=by
 intro y hy;obtain⟨x,_,rfl⟩:=List.mem_map.1 hy;exact⟨rfl,rfl⟩
theorem CQ(l:List Rec):∀ y∈l.map encR,y.cells.length=7/\y.okc=true:=by
 intro y hy;obtain⟨x,_,rfl⟩:=List.mem_map.1 hy;exact⟨rfl,rfl⟩
theorem Jd(l:List Ret):∀ y∈l.map cT,y.cells.length=8/\y.okc=true:=by
 intro y hy;obtain⟨x,_,rfl⟩:=List.mem_map.1 hy;exact⟨rfl,rfl⟩
theorem Je(l:List Sig):∀ y∈l.map encS,y.cells.length=7/\y.okc=true:=by
 intro y hy;obtain⟨x,_,rfl⟩:=List.mem_map.1 hy;exact⟨rfl,rfl⟩
theorem Jh(l:List Int):∀ y∈l.map vInt,y.cells.length=1/\y.okc=true:=by
 intro y hy;obtain⟨x,_,rfl⟩:=List.mem_map.1 hy;exact⟨rfl,rfl⟩
theorem ak{p:Prop}(h:p:=by first | exact Jf _ | exact CQ _ | exact Jd _ | exact Je _ | exact Jh _ | ((repeat' apply And.intro)<;>first | rfl | omega | (unfold maxLen;omega) | trivial | decide | exact Jf _ | exact CQ _ | exact Jd _ | exact Je _ | exact Jh _) | exact ob):p:=h
theorem aq{p:Prop}(h:p:=by(repeat (refine⟨ak,?_⟩));exact hK _ (by simp only[go_sem]) (by simp only[go_sem]<;>rfl)):p:=h
theorem jC{p:Prop}(h:p:=by(repeat (refine⟨ak,?_⟩));(first | refine⟨by rfl,?_⟩ | skip);exact hK _ (by simp only[go_sem]) (by simp only[go_sem]<;>rfl)):p:=h
end
noncomputable section
def qt:En (Nat×Int):=⟨fun g=>.clo (.func g.1) [] [.ptr [vInt g.2]],fun v=>match v with | .clo (.func g) _ [.ptr [.int _ s]]=>(g,s) | _=>default⟩
def pt:En Int:=⟨fun s=>.ptr [vInt s],fun v=>match v with | .ptr [.int _ s]=>s | _=>0⟩
attribute [go_sem] qt pt
@[go_sem] def P171:PSpec:=p2 iR pt (fun _ _=>True) (fun x s=>.bool (x.so==s)) true
@[go_sem] def S171:Spec:=P171.toSpec
theorem R8:aZ Tryz.prog 171 P171:=by
 refine fD (rs:=[.tmp 3]) Tryz.func171 Tryz.ntmps171 fun x s hp hw=>?_
 simp only[pt,iR,encR]at hw |-
 have hΓ:=@fE Tryz.prog
 repeat refine sq ?_
 refine rx hΓ [1,2] [[2,0]] (fun K' hK=>by simp only[go_sem];exact aq) ?_
 repeat refine sq ?_
 refine rx hΓ [3] [] (fun K' hK=>by simp only[go_sem];exact aq) ?_
 refine aC ?_
 simp only[go_sem]
 all_goals exact e8
@[go_sem] def P167:PSpec:=p2 iR pt (fun _ _=>True) (fun x s=>.bool (x.so==s)) true
@[go_sem] def PY:Spec:=P167.toSpec
theorem Sb:aZ Tryz.prog 167 P167:=by
 refine fD (rs:=[.tmp 3]) Tryz.func167 Tryz.ntmps167 fun x s hp hw=>?_
 simp only[pt,iR,encR]at hw |-
 have hΓ:=@fE Tryz.prog
 repeat refine sq ?_
 refine rx hΓ [1,2] [[2,0]] (fun K' hK=>by simp only[go_sem];exact aq) ?_
 repeat refine sq ?_
 refine rx hΓ [3] [] (fun K' hK=>by simp only[go_sem];exact aq) ?_
 refine aC ?_
 simp only[go_sem]
 all_goals exact e8
@[go_sem] def P92:PSpec:=p2 iS pt (fun _ _=>True) (fun x s=>.bool (x.so==s)) true
@[go_sem] def S92:Spec:=P92.toSpec
theorem RJ:aZ Tryz.prog 92 P92:=by
 refine fD (rs:=[.tmp 3]) Tryz.func92 Tryz.ntmps92 fun x s hp hw=>?_
 simp only[pt,iS,encS]at hw |-
 have hΓ:=@fE Tryz.prog
 repeat refine sq ?_
 refine rx hΓ [1,2] [[2,0]] (fun K' hK=>by simp only[go_sem];exact aq) ?_
 repeat refine sq ?_
 refine rx hΓ [3] [] (fun K' hK=>by simp only[go_sem];exact aq) ?_
 refine aC ?_
 simp only[go_sem]
 all_goals exact e8
def dE{α:Type}(p:α->Bool)(l:List α):Int:=if l.any p then(l.findIdx p:Int)else -1
theorem sc{α:Type}{p:α->Bool}{l:List α}{i:Nat}(h:i<l.length)(hp:p l[i]=true)(hn:∀ k (hk:k<l.length),k<i->p l[k]=false):dE p l=i:=by
 unfold dE
 rw[if_pos (List.any_eq_true.2 ⟨_,List.getElem_mem h,hp⟩)]
 congr 1
 rw[List.findIdx_eq h]
 exact⟨hp,fun j hj=>hn j (by omega) hj⟩
theorem wS{α:Type}{p:α->Bool}{l:List α}(hn:∀ k (hk:k<l.length),p l[k]=false):dE p l= -1:=by
 unfold dE
 rw[if_neg]
 intro h
 obtain⟨x,hx,hp⟩:=List.any_eq_true.1 h
 obtain⟨k,hk,rfl⟩:=List.getElem_of_mem hx
 rw[hn k hk]at hp;cases hp
theorem wT{α:Type}(p:α->Bool)(l:List α):decide (dE p l>=0)=l.any p:=by
 unfold dE
 cases l.any p with
 |true=>simp
 |false=>simp
def K12a:List (Nat×Spec):=[(171,S171),(167,PY)]
theorem adv:KS K12a:=tc R8.sound<|tc Sb.sound<|tn
attribute [go_sem] K12a
def Qd:FuncId->Option Spec:=tbl K12a
theorem adt:∀ f s,Qd f=some s->aN Tryz.prog f s:=adv
@[go_sem] theorem ag6:PY=S171:=rfl
@[go_sem] def P166:PSpec:=p2 (fW iR) qt (fun _ g=>g.1=171\/g.1=167) (fun l g=>vInt (dE (fun x=>Rec.so x==g.2) l)) true
@[go_sem] def PZ:Spec:=P166.toSpec
set_option maxHeartbeats 4000000 in
theorem Sc:aZ Tryz.prog 166 P166:=by
 refine fD (rs:=[.tmp 4]) Tryz.func166 Tryz.ntmps166 fun l g hp hw=>?_
 simp only[qt,iR,fW,encR]at hw |-
 have hΓ:=adt
 have hl:l.length<=maxLen:=by have:=hw.1.1;simpa using this
 obtain⟨g,s_⟩:=g
 try simp only[qt]at hw hp |-
 have hg:Qd g=some S171:=by rcases hp with rfl | rfl<;>rfl
 have Ym:¬ g=1000000000:=by omega
 repeat refine sq ?_
 refine rx hΓ [0,1] [] (fun K' hK=>by simp only[go_sem];exact aq) ?_
 repeat refine sq ?_
 refine rx hΓ [0,1,7,8] [] (fun K' hK=>by simp only[go_sem];exact aq) ?_
 repeat refine sq ?_
 refine aR ?_
 repeat refine sq ?_
 refine cr (fun s:Nat=>[(8,⟨true,.v (vInt s)⟩)]) (fun s=>[]) (fun s=>s<=l.length/\∀ k (h:k<l.length),k<s->(fun x:Rec=>Rec.so x==s_) l[k]=false) (fun s=>l.length-s) 0 ?_ ?_ ?_ ?_
 ·exact⟨Nat.zero_le _,by simp⟩
 ·rfl
 ·rfl
 rintro i ⟨hi,hR⟩
 simp only[go_sem]
 repeat refine sq ?_
 refine rx hΓ [0,1,7,8,9] [] (fun K' hK=>by simp only[go_sem];exact aq) ?_
 repeat refine sq ?_
 refine aB (fun hb=>?_) fun hb=>?_
 ·have ab:i<l.length:=by simpa using hb
  have ao:(i:Int)<l.length:=by omega
  clear hb
  repeat refine sq ?_
  refine aJ ?_
  repeat refine sq ?_
  refine aR ?_
  repeat refine sq ?_
  refine rx hΓ [0,1,5,7,8] [] (fun K' hK=>by simp only[go_sem,ah ab,ai,aj,ao];exact aq) ?_
  repeat refine sq ?_
  refine rx hΓ [0,1,5,7,8,16] [] (fun K' hK=>by simp only[go_sem,ah ab,ai,aj,ao,hg,Ym];exact aq) ?_
  repeat refine sq ?_
  refine aB (fun hb=>?_) fun hb=>?_
  ·repeat refine sq ?_
   refine rx hΓ [4] [] (fun K' hK=>by simp only[go_sem,ah ab,ai,aj,ao];exact aq) ?_
   refine aC ?_
   simp only[go_sem]
   rw[sc (p:=fun x=>Rec.so x==s_) ab (by simpa using hb) hR]
  ·repeat refine sq ?_
   refine aJ ?_
   refine bV ?_
   simp only[go_sem]
   refine kp [0,1,7,8] [] ?_
   repeat refine sq ?_
   refine aS hΓ fun K' hK=>?_
   simp only[go_sem,ah ab,ai,aj,ao]
   repeat (refine⟨ak,?_⟩)
   refine hK _ ?_
   clear K' hK
   simp only[go_sem]
   refine⟨i+1,⟨ab,?_⟩,by(show l.length-(i+1)<l.length-i;omega),?_⟩
   ·intro k hk dH
    rcases Nat.lt_succ_iff_lt_or_eq.1 dH with h5 | rfl
    ·exact hR k hk h5
    ·simpa using hb
   refine bg [0,1,7,8] [] ?_ ?_<;>simp only[go_sem,a7 ab hl,bb]
 ·have bF:i=l.length:=by
   have :¬ (i:Int)<l.length:=by simpa using hb
   omega
  clear hb
  subst bF
  repeat refine sq ?_
  refine bR ?_
  simp only[go_sem]
  refine kp [] [] ?_
  repeat refine sq ?_
  refine rx hΓ [4] [] (fun K' hK=>by simp only[go_sem];exact aq) ?_
  refine aC ?_
  simp only[go_sem]
  rw[wS (p:=fun x=>Rec.so x==s_) fun k hk=>hR k hk hk]
@[go_sem] def acn:PSpec:=p2 (fW iS) qt (fun _ g=>g.1=175) (fun l g=>vInt (dE (fun x=>Sig.so x==g.2) l)) true
@[go_sem] def ab5:Spec:=acn.toSpec
def adu:List (Nat×Spec):=[(166,PZ),(181,ab5)]
attribute [go_sem] adu
def K12:List (Nat×Spec):=[]
attribute [go_sem] K12
end
noncomputable section
attribute [go_sem] WV
def K13:List (Nat×Spec):=[(37,GF),(67,PU),(79,yl)]
attribute [go_sem] K13
end
noncomputable section
def K14:List (Nat×Spec):=[(15,pR)]
attribute [go_sem] K14
end
structure Vw where
 l:Led
 rs:List Rec
 ts:List Int
 bk:List ((Int×Int)×Int)
 ds:List (Int×(Int×Int))
 deriving Inhabited
def bY(b:List ((Int×Int)×Int)):List (V×V):=b.map fun q=>(.agg [vInt q.1.1,vInt q.1.2],vInt q.2)
def Ol:V->Int×Int
 | .agg [.int _ a,.int _ b]=>(a,b)
 |_=>(0,0)
def AV(es:List (V×V)):List ((Int×Int)×Int):=es.map fun q=>(Ol q.1,km q.2)
def bL(d:List (Int×(Int×Int))):List (V×V):=d.map fun q=>(vInt q.1,.agg [vInt q.2.1,vInt q.2.2])
def FP(es:List (V×V)):List (Int×(Int×Int)):=es.map fun q=>(km q.1,Ol q.2)
@[go_sem] theorem FQ(b:List ((Int×Int)×Int)):AV (bY b)=b:=by
  unfold AV bY
  rw[List.map_map]
  exact List.map_id _
@[go_sem] theorem FO(b:List (Int×(Int×Int))):FP (bL b)=b:=by
  unfold FP bL
  rw[List.map_map]
  exact List.map_id _
def bC(x:Vw)(nb nd:Name):O:=.box [.v (kj x.l),.v (.sl (x.rs.map encR)),.v (.sl (x.ts.map vInt)),.map nb,.map nd]
def vu(lp:V)(rs ts:List V)(eb ed:List (V×V)):Vw:=⟨AU lp,rs.map kU,ts.map km,AV eb,FP ed⟩
theorem aab(x:Vw):vu (kj x.l) (x.rs.map encR) (x.ts.map vInt) (bY x.bk) (bL x.ds)=x:=by
 obtain⟨⟨p,r,t,s⟩,rs,ts,bk,ds⟩:=x
 simp only[vu,kj,AU,Og,AS,Oe,vv,qU,FQ,FO]
def iW(obj:Name->Option O)(nv:Name):Option (Name×Name×Vw):=match obj nv with
 |some (.box [.v lp,.v (.sl rs),.v (.sl ts),.map nb,.map nd])=>match obj nb,obj nd with
  |some (.map 2 eb),some (.map 0 ed)=>some (nb,nd,vu lp rs ts eb ed)
  |_,_=>none
 |_=>none
def om(obj:Name->Option O)(nv nb nd:Name)(x:Vw):Prop:=
 obj nv=some (bC x nb nd)/\obj nb=some (.map 2 (bY x.bk))/\obj nd=some (.map 0 (bL x.ds))/\(nv==nb)=false/\(nv==nd)=false/\(nb==nd)=false
structure VSpec where
 pre:Vw->List V->Prop
 val:Vw->List V->D
 wr:Option (Vw->List V->List (Int×(Int×Int)))
def VSpec.app(s:VSpec)(obj:Name->Option O)(t:Name)(ds:List D):R:=match ds with
 | .ref nv 0::r=>match iW obj nv,lL r with
   |some (nb,nd,x),some xs=>⟨om obj nv nb nd x/\s.pre x xs,(s.val x xs).ren (cout [nv,nb,nd] t),match s.wr with | none=>obj | some f=>upd obj nd (some (.map 0 (bL (f x xs))))⟩
   |_,_=>.bad obj
 |_=>.bad obj
def VSpec.foot(_:VSpec)(obj:Name->Option O)(_:Name)(ds:List D):List Name:=match ds with
 | .ref nv _::_=>nv::(match obj nv with | some (.box [_,_,_,.map nb,.map nd])=>[nb,nd] | _=>[])
 |_=>[]
def VSpec.toSpec(s:VSpec):Spec:=⟨s.app,s.foot,s.foot⟩
theorem VSpec.near(s:VSpec):s.toSpec.Near:=by
 refine wC fun obj obj2 t ds ha=>?_
 match ds with
 | .ref nv off::r=>
   have h1:obj2 nv=obj nv:=ha nv (by simp[VSpec.foot])
   refine⟨by simp only[VSpec.foot,h1],?_⟩
   cases off with
   |succ k=>exact .none _ ha
   |zero=>
    have gG:bX (R.bad obj) (R.bad obj2) obj obj2 (s.foot obj t (.ref nv 0::r)):=.none _ ha
    by_cases hg:∃ a b c nb nd,obj nv=some (.box [a,b,c,.map nb,.map nd])
    ·obtain⟨a,b,c,nb,nd,hb⟩:=hg
     have mi:obj2 nb=obj nb:=ha nb (by simp[VSpec.foot,hb])
     have nF:obj2 nd=obj nd:=ha nd (by simp[VSpec.foot,hb])
     have Yn:iW obj2 nv=iW obj nv:=by
      unfold iW
      rw[h1,hb]
      split<;>first | rfl | (rename_i e;cases e;rw[mi,nF])
     have cM:∀ uI uH x,iW obj nv=some (uI,uH,x)->uI=nb/\uH=nd:=by
      intro uI uH x h
      unfold iW at h
      rw[hb]at h
      split at h
      ·rename_i e
       cases e
       split at h
       ·cases h;exact⟨rfl,rfl⟩
       ·cases h
      ·cases h
     show bX (s.app obj t (.ref nv 0::r)) (s.app obj2 t (.ref nv 0::r)) obj obj2 _
     unfold VSpec.app
     simp only[Yn]
     split
     ·rename_i uI uH x xs hx zL
      obtain⟨rfl,rfl⟩:=cM _ _ _ hx
      have aa:om obj2 nv uI uH x=om obj nv uI uH x:=by unfold om;rw[h1,mi,nF]
      rw[aa]
      cases s.wr with
      |none=>exact .none _ ha
      |some f=>exact .one (by simp[VSpec.foot,hb]) ha
     ·exact gG
    ·have e1:iW obj nv=none:=by
       unfold iW
       split
       ·rename_i h;exact(hg ⟨_,_,_,_,_,h⟩).elim
       ·rfl
     have e2:iW obj2 nv=none:=by
      unfold iW
      rw[h1]
      split
      ·rename_i h;exact(hg ⟨_,_,_,_,_,h⟩).elim
      ·rfl
     show bX (s.app obj t (.ref nv 0::r)) (s.app obj2 t (.ref nv 0::r)) obj obj2 _
     unfold VSpec.app
     simp only[e1,e2]
     exact gG
 |[]=>exact⟨rfl,.none _ ha⟩
 | .v _::_=>exact⟨rfl,.none _ ha⟩
 | .nilsl::_=>exact⟨rfl,.none _ ha⟩
 | .nilmap::_=>exact⟨rfl,.none _ ha⟩
 | .msl _ _::_=>exact⟨rfl,.none _ ha⟩
 | .aref _ _ _ _::_=>exact⟨rfl,.none _ ha⟩
 | .map _::_=>exact⟨rfl,.none _ ha⟩
 | .yld _::_=>exact⟨rfl,.none _ ha⟩
 | .clo _ _ _::_=>exact⟨rfl,.none _ ha⟩
 | .agg _::_=>exact⟨rfl,.none _ ha⟩
 | .tup _::_=>exact⟨rfl,.none _ ha⟩
 | .any::_=>exact⟨rfl,.none _ ha⟩
def VSpec.c(s:VSpec):CSpec where
 pre:=fun os ds=>∃ (x:Vw) (xs:List V),os=[bC x [1,1] [2,1],.map 2 (bY x.bk),.map 0 (bL x.ds)]/\ds=.ref [0,1] 0::xs.map .v/\s.pre x xs
 out:=fun os ds=>match os,ds with
  |[.box [.v lp,.v (.sl rs),.v (.sl ts),_,_],.map _ eb,.map _ ed],_::r=>match lL r with
   |some xs=>⟨match s.wr with | none=>[] | some f=>[(2,.map 0 (bL (f (vu lp rs ts eb ed) xs)))],[],s.val (vu lp rs ts eb ed) xs⟩
   |none=>⟨[],[],.any⟩
  |_,_=>⟨[],[],.any⟩
theorem VSpec.c_out(s:VSpec)(x:Vw)(xs:List V):s.c.out [bC x [1,1] [2,1],.map 2 (bY x.bk),.map 0 (bL x.ds)] (.ref [0,1] 0::xs.map .v)=
 ⟨match s.wr with | none=>[] | some f=>[(2,.map 0 (bL (f x xs)))],[],s.val x xs⟩:=by
 simp only[VSpec.c,bC,Bw,aab]
theorem IB{obj:Name->Option O}{nv nb nd:Name}{x:Vw}(h:om obj nv nb nd x)(xs:List V):reach obj (.ref nv 0::xs.map .v)=[nv,nb,nd]:=by
 obtain⟨h1,h2,h3,h4,h5,h6⟩:=h
 unfold reach
 have e:de (.ref nv 0::xs.map .v)=[nv]:=by simp only[de,lZ,C8,List.append_nil]
 rw[e]
 show dC obj (2996+1+1+1+1) [nv] []=[nv,nb,nd]
 simp only[dC,cX,List.any_nil,Bool.false_eq_true,if_false,h1,bC,lY,de,lZ,List.nil_append,List.append_nil,List.any_cons,h4,h5,h6,Bool.or_false,h2,h3,List.cons_append]
theorem VSpec.sound{P:Program}{f:FuncId}{s:VSpec}(h:aN P f s.c.toSpec)(aG:f≠yid):aN P f s.toSpec:=by
 refine v7 h s.near aG fun obj t ds aa=>?_
 have ff:(s.app obj t ds).ok:=aa
 show ∃ mq,_/\_/\_/\_=(s.app obj t ds).d/\_=(s.app obj t ds).obj
 unfold VSpec.app at ff |-
 split at ff
 ·rename_i nv r
  split at ff
  ·rename_i nb nd x xs xp zL
   obtain⟨hv,hp⟩:=ff
   have hlen:=Gv zL
   have sh:=hv
   obtain⟨h1,h2,h3,h4,h5,h6⟩:=sh
   have n4:nv≠nb:=by simpa using h4
   have n5:nv≠nd:=by simpa using h5
   have n6:nb≠nd:=by simpa using h6
   have hr:=IB hv xs
   have i0:idx [nv,nb,nd] nv=0:=by simp[idx]
   have i1:idx [nv,nb,nd] nb=1:=by simp[idx,n4]
   have i2:idx [nv,nb,nd] nd=2:=by simp[idx,n5,n6]
   have e1:cD obj (.ref nv 0::xs.map .v)=[bC x [1,1] [2,1],.map 2 (bY x.bk),.map 0 (bL x.ds)]:=by
    unfold cD
    rw[hr]
    simp only[List.map_cons,List.map_nil,cH,h1,h2,h3,bC,O.ren,D.renL,D.ren,cin,i1,i2]
   have e2:dd obj (.ref nv 0::xs.map .v)=.ref [0,1] 0::xs.map .v:=by
    unfold dd
    rw[hr]
    simp only[D.renL,D.ren,cin,i0,Cr]
   have e5:(shut obj [nv,nb,nd]&&D.closL (cX [nv,nb,nd]) (.ref nv 0::xs.map .v)&&fresh obj t [])=true:=by
    simp[shut,h1,h2,h3,bC,O.clos,D.closL,D.clos,cX,fresh,F7]
   refine⟨.ref nv 0::xs.map .v,by simpa using hlen,fun φ m us hl qv i a b=>?_,?_⟩
   ·cases i with
    |zero=>exact qv 0 (by simp) b
    |succ i=>
     simp only[List.length_cons,List.length_map]at a
     simp only[List.getElem_cons_succ,List.getElem_map]
     exact .v _ _ (Gu zL i (by omega) (by omega) _ (by have:=qv (i+1) (by simp;omega) b;simpa using this))
   ·have e4:s.c.pre [bC x [1,1] [2,1],.map 2 (bY x.bk),.map 0 (bL x.ds)] (.ref [0,1] 0::xs.map .v):=⟨x,xs,rfl,rfl,hp⟩
    simp only[CSpec.toSpec,e1,e2,hr,s.c_out,e4,e5,xp,zL,and_self,dz]
    refine⟨trivial,trivial,?_⟩
    cases s.wr with
    |none=>rfl
    |some f=>simp only[cF,O.ren,List.getD_cons_zero,List.getD_cons_succ]
  ·exact ff.elim
 ·exact ff.elim
def wo(P:Program)(rs:List ResultVar)(x:Vw)(d:D)(w:Option (List (Int×(Int×Int)))):Exit->S->Prop
 | .normal,σ=>(bU P σ rs).ok/\(bU P σ rs).d=d/\σ.obj [0,1]=some (bC x [1,1] [2,1])/\σ.obj [1,1]=some (.map 2 (bY x.bk))/\σ.obj [2,1]=some (.map 0 (bL (w.getD x.ds)))
 | .ret,σ=>(bU P σ rs).ok/\(bU P σ rs).d=d/\σ.obj [0,1]=some (bC x [1,1] [2,1])/\σ.obj [1,1]=some (.map 2 (bY x.bk))/\σ.obj [2,1]=some (.map 0 (bL (w.getD x.ds)))
 |_,_=>False
theorem BR{P:Program}{f:FuncId}{fn:Func}{nt:Nat}{rs:List ResultVar}{s:VSpec}(hf:P.funcs[f]?=some fn)(cZ:fn.ntmps=nt)(cf:fn.results.toList=rs)(hn:(fn.name== "runtime.NumGoroutine")=false)(hy:f<1000000000)(cp:∀ x xs,s.pre x xs->D.clos (fun _=>false) (s.val x xs)=true)
 (hb:∃ c,fn.body=some c/\∀ x xs,s.pre x xs->xs.length+1<=nt/\∀ H:Name->Option O,H [0,1]=some (bC x [1,1] [2,1])->H [1,1]=some (.map 2 (bY x.bk))->H [2,1]=some (.map 0 (bL x.ds))->
   (∀ hs,ck [0] (b8 [0] hs) H=True)->(∀ hs es,ck [0] (b8 [0] hs) (fun nm=>if nm=[2,1]then some (.map 0 es)else H nm)=True)->
   CL P [c] (bt nt [0] H (dm 0 (.ref [0,1] 0::xs.map .v)) []) (wo P rs x (s.val x xs) (s.wr.map fun f=>f x xs))):aN P f s.toSpec:=by
 obtain⟨c,hc,h⟩:=hb
 have aG:f≠yid:=Nat.ne_of_lt (show f<yid from hy)
 refine VSpec.sound (oK hf hc cZ cf (i6 hf hc hn) aG ?_) aG
 rintro os ds ⟨x,xs,rfl,rfl,hp⟩
 obtain⟨h1,h2⟩:=h x xs hp
 refine⟨by simpa using h1,?_⟩
 have hO:∀ hs,ck [0] (b8 [0] hs) (aX [bC x [1,1] [2,1],.map 2 (bY x.bk),.map 0 (bL x.ds)]):=fun hs=>o8 (by
  intro o ho dom hd
  simp only[List.mem_cons,List.not_mem_nil,or_false]at ho
  rcases ho with rfl | rfl | rfl
  ·simp[bC,O.clos,D.closL,D.clos,hd]
  ·rfl
  ·rfl) hs
 have :=h2 (aX [bC x [1,1] [2,1],.map 2 (bY x.bk),.map 0 (bL x.ds)]) rfl rfl rfl (fun hs=>eq_true (hO hs)) (fun hs es=>eq_true (tJ (nm:=[2,1]) (o:=.map 0 es) rfl (hO hs)))
 refine CW.mono (jE this) fun e σ hk=>?_
 rw[s.c_out]
 have key:(bU P σ rs).ok/\(bU P σ rs).d=s.val x xs/\σ.obj [0,1]=some (bC x [1,1] [2,1])/\σ.obj [1,1]=some (.map 2 (bY x.bk))/\σ.obj [2,1]=some (.map 0 (bL ((s.wr.map fun f=>f x xs).getD x.ds)))->
     (bU P σ rs).ok/\(bU P σ rs).d=s.val x xs/\gw [bC x [1,1] [2,1],.map 2 (bY x.bk),.map 0 (bL x.ds)] ⟨match s.wr with | none=>[] | some f=>[(2,.map 0 (bL (f x xs)))],[],s.val x xs⟩ σ:=by
  rintro⟨k1,k2,k3,k4,k5⟩
  refine⟨k1,k2,?_⟩
  have hd:=clos_imp (dom:=fun _=>false) (dom':=dj 3 []) (fun _ h=>by cases h) _ (cp x xs hp)
  cases hw:s.wr with
  |none=>
   rw[hw]at k5
   refine⟨⟨k3,k4,k5,trivial⟩,trivial,?_⟩
   show (D.clos (dj 3 []) (s.val x xs)&&_&&_&&_)=true
   rw[hd];rfl
  |some f=>
   rw[hw]at k5
   refine⟨⟨k3,k4,k5,trivial⟩,trivial,?_⟩
   show (D.clos (dj 3 []) (s.val x xs)&&_&&_&&_)=true
   rw[hd];rfl
 cases e with
 |normal=>exact key hk
 |ret=>exact key hk
 |_=>exact hk.elim
def v0(p:Vw->Prop)(g:Vw->D)(w:Option (Vw->List (Int×(Int×Int)))):VSpec:=
 ⟨fun x xs=>match xs with | []=>p x | _=>False,fun x xs=>match xs with | []=>g x | _=>.any,w.map fun w x xs=>match xs with | []=>w x | _=>[]⟩
theorem Ha{p:Vw->Prop}{g:Vw->D}{w:Option (Vw->List (Int×(Int×Int)))}{x:Vw}{xs:List V}(h:(v0 p g w).pre x xs):
 xs=[]/\p x/\(v0 p g w).val x xs=g x/\((v0 p g w).wr.map fun f=>f x xs)=w.map fun w=>w x:=by
 unfold v0 at h
 simp only at h
 split at h
 ·exact⟨rfl,h,rfl,by cases w<;>rfl⟩
 ·exact h.elim
def v1{α:Type}(A:En α)(p:Vw->α->Prop)(g:Vw->α->D)(w:Option (Vw->α->List (Int×(Int×Int)))):VSpec:=
 ⟨fun x xs=>match xs with | [a]=>A.enc (A.dec a)=a/\p x (A.dec a) | _=>False,fun x xs=>match xs with | [a]=>g x (A.dec a) | _=>.any,w.map fun w x xs=>match xs with | [a]=>w x (A.dec a) | _=>[]⟩
theorem G'{α:Type}{A:En α}{p:Vw->α->Prop}{g:Vw->α->D}{w:Option (Vw->α->List (Int×(Int×Int)))}{x:Vw}{xs:List V}(h:(v1 A p g w).pre x xs):
 ∃ a,xs=[A.enc a]/\p x a/\(v1 A p g w).val x xs=g x a/\((v1 A p g w).wr.map fun f=>f x xs)=w.map fun w=>w x a:=by
 unfold v1 at h
 simp only at h
 split at h
 ·exact⟨_,by rw[h.1],h.2,rfl,by cases w<;>rfl⟩
 ·exact h.elim
def v2{α β:Type}(A:En α)(B:En β)(p:Vw->α->β->Prop)(g:Vw->α->β->D)(w:Option (Vw->α->β->List (Int×(Int×Int)))):VSpec:=
 ⟨fun x xs=>match xs with | [a,b]=>A.enc (A.dec a)=a/\B.enc (B.dec b)=b/\p x (A.dec a) (B.dec b) | _=>False,fun x xs=>match xs with | [a,b]=>g x (A.dec a) (B.dec b) | _=>.any,w.map fun w x xs=>match xs with | [a,b]=>w x (A.dec a) (B.dec b) | _=>[]⟩
theorem G9{α β:Type}{A:En α}{B:En β}{p:Vw->α->β->Prop}{g:Vw->α->β->D}{w:Option (Vw->α->β->List (Int×(Int×Int)))}{x:Vw}{xs:List V}(h:(v2 A B p g w).pre x xs):
 ∃ a b,xs=[A.enc a,B.enc b]/\p x a b/\(v2 A B p g w).val x xs=g x a b/\((v2 A B p g w).wr.map fun f=>f x xs)=w.map fun w=>w x a b:=by
 unfold v2 at h
 simp only at h
 split at h
 ·exact⟨_,_,by rw[h.1,h.2.1],h.2.2,rfl,by cases w<;>rfl⟩
 ·exact h.elim
def v3{α β γ:Type}(A:En α)(B:En β)(C:En γ)(p:Vw->α->β->γ->Prop)(g:Vw->α->β->γ->D)(w:Option (Vw->α->β->γ->List (Int×(Int×Int)))):VSpec:=
 ⟨fun x xs=>match xs with | [a,b,c]=>A.enc (A.dec a)=a/\B.enc (B.dec b)=b/\C.enc (C.dec c)=c/\p x (A.dec a) (B.dec b) (C.dec c) | _=>False,fun x xs=>match xs with | [a,b,c]=>g x (A.dec a) (B.dec b) (C.dec c) | _=>.any,w.map fun w x xs=>match xs with | [a,b,c]=>w x (A.dec a) (B.dec b) (C.dec c) | _=>[]⟩
section
variable {P:Program} {f:FuncId} {fn:Func} {nt:Nat} {rs:List ResultVar}
theorem QF{p:Vw->Prop}{g:Vw->D}{w:Option (Vw->List (Int×(Int×Int)))}(hf:P.funcs[f]?=some fn)(cZ:fn.ntmps=nt)(cf:fn.results.toList=rs)(hn:(fn.name== "runtime.NumGoroutine")=false)(hy:f<1000000000)(cp:∀ x,D.clos (fun _=>false) (g x )=true)
 (hb:∃ cc,fn.body=some cc/\1<=nt/\∀ x,p x->∀ H:Name->Option O,H [0,1]=some (bC x [1,1] [2,1])->H [1,1]=some (.map 2 (bY x.bk))->H [2,1]=some (.map 0 (bL x.ds))->
   (∀ hs,ck [0] (b8 [0] hs) H=True)->(∀ hs es,ck [0] (b8 [0] hs) (fun nm=>if nm=[2,1]then some (.map 0 es)else H nm)=True)->
   CL P [cc] (bt nt [0] H (dm 0 (.ref [0,1] 0::[].map .v)) []) (wo P rs x (g x ) (w.map fun w=>w x ))):aN P f (v0 p g w).toSpec:=by
 obtain⟨cc,hc,h1,h⟩:=hb
 refine BR hf cZ cf hn hy (fun x xs hp=>by
  obtain⟨rfl,_,hg,_⟩:=Ha hp
  rw[hg];exact cp x ) ⟨cc,hc,fun x xs hp=>?_⟩
 obtain⟨rfl,hp,hg,hw⟩:=Ha hp
 rw[hg,hw]
 exact⟨h1,h x hp⟩
theorem yy{α:Type}{A:En α}{p:Vw->α->Prop}{g:Vw->α->D}{w:Option (Vw->α->List (Int×(Int×Int)))}(hf:P.funcs[f]?=some fn)(cZ:fn.ntmps=nt)(cf:fn.results.toList=rs)(hn:(fn.name== "runtime.NumGoroutine")=false)(hy:f<1000000000)(cp:∀ x a,D.clos (fun _=>false) (g x a)=true)
 (hb:∃ cc,fn.body=some cc/\2<=nt/\∀ x a,p x a->∀ H:Name->Option O,H [0,1]=some (bC x [1,1] [2,1])->H [1,1]=some (.map 2 (bY x.bk))->H [2,1]=some (.map 0 (bL x.ds))->
   (∀ hs,ck [0] (b8 [0] hs) H=True)->(∀ hs es,ck [0] (b8 [0] hs) (fun nm=>if nm=[2,1]then some (.map 0 es)else H nm)=True)->
   CL P [cc] (bt nt [0] H (dm 0 (.ref [0,1] 0::[A.enc a].map .v)) []) (wo P rs x (g x a) (w.map fun w=>w x a))):aN P f (v1 A p g w).toSpec:=by
 obtain⟨cc,hc,h1,h⟩:=hb
 refine BR hf cZ cf hn hy (fun x xs hp=>by
  obtain⟨a,rfl,_,hg,_⟩:=G' hp
  rw[hg];exact cp x a) ⟨cc,hc,fun x xs hp=>?_⟩
 obtain⟨a,rfl,hp,hg,hw⟩:=G' hp
 rw[hg,hw]
 exact⟨h1,h x a hp⟩
theorem yx{α β:Type}{A:En α}{B:En β}{p:Vw->α->β->Prop}{g:Vw->α->β->D}{w:Option (Vw->α->β->List (Int×(Int×Int)))}(hf:P.funcs[f]?=some fn)(cZ:fn.ntmps=nt)(cf:fn.results.toList=rs)(hn:(fn.name== "runtime.NumGoroutine")=false)(hy:f<1000000000)(cp:∀ x a b,D.clos (fun _=>false) (g x a b)=true)
 (hb:∃ cc,fn.body=some cc/\3<=nt/\∀ x a b,p x a b->∀ H:Name->Option O,H [0,1]=some (bC x [1,1] [2,1])->H [1,1]=some (.map 2 (bY x.bk))->H [2,1]=some (.map 0 (bL x.ds))->
   (∀ hs,ck [0] (b8 [0] hs) H=True)->(∀ hs es,ck [0] (b8 [0] hs) (fun nm=>if nm=[2,1]then some (.map 0 es)else H nm)=True)->
   CL P [cc] (bt nt [0] H (dm 0 (.ref [0,1] 0::[A.enc a,B.enc b].map .v)) []) (wo P rs x (g x a b) (w.map fun w=>w x a b))):aN P f (v2 A B p g w).toSpec:=by
 obtain⟨cc,hc,h1,h⟩:=hb
 refine BR hf cZ cf hn hy (fun x xs hp=>by
  obtain⟨a,b,rfl,_,hg,_⟩:=G9 hp
  rw[hg];exact cp x a b) ⟨cc,hc,fun x xs hp=>?_⟩
 obtain⟨a,b,rfl,hp,hg,hw⟩:=G9 hp
 rw[hg,hw]
 exact⟨h1,h x a b hp⟩
end
attribute [go_sem] v0 v1 v2 v3 wo Option.map_some Option.map_none Option.getD_some Option.getD_none
attribute [go_sem] VSpec.toSpec VSpec.app iW om bC vu
noncomputable section
def K16:List (Nat×Spec):=[(166,PZ)]
theorem Qc:KS K16:=tc Sc.sound<|tn
attribute [go_sem] K16
def zeroR:Rec:=⟨0,0,0,[],0,0,0⟩
def gA(r:Rec):D:=.agg [.v (vInt r.so),.v (vInt r.bo),.v (vInt r.pa),.v (.sl (r.lv.map vInt)),.v (vInt r.da),.v (vInt r.kn),.v (vInt r.un)]
attribute [go_sem] gA
def mX:Option Rec->D
 |some r=>gA r
 |none=>.agg [.v (vInt 0),.v (vInt 0),.v (vInt 0),.nilsl,.v (vInt 0),.v (vInt 0),.v (vInt 0)]
theorem lU(r:Option Rec)(p:Name->Bool):D.clos p (mX r)=true:=by cases r<;>rfl
def cO(l:List Rec)(s:Int):Option Rec:=l.find? fun r=>r.so==s
theorem IG{l:List Rec}{s:Int}(h:dE (fun x=>x.so==s) l<0):cO l s=none:=by
 unfold cO
 rw[List.find?_eq_none]
 intro x hx hp
 unfold dE at h
 rw[if_pos (List.any_eq_true.2 ⟨x,hx,hp⟩)]at h
 omega
theorem IF{l:List Rec}{s:Int}(h:¬ dE (fun x=>x.so==s) l<0):∃ (i:Nat) (hi:i<l.length),dE (fun x=>x.so==s) l=i/\cO l s=some l[i]:=by
 unfold dE at h |-
 split at h
 ·rename_i iV
  have ab:l.findIdx (fun x=>x.so==s)<l.length:=List.findIdx_lt_length_of_exists (by obtain⟨x,hx,hp⟩:=List.any_eq_true.1 iV;exact⟨x,hx,hp⟩)
  rw[if_pos iV]
  refine⟨_,ab,rfl,?_⟩
  unfold cO
  rw[List.find?_eq_some_iff_getElem]
  exact⟨List.findIdx_getElem (w:=ab),_,ab,rfl,fun j hj=>by simpa using List.not_of_lt_findIdx hj⟩
 ·omega
def PK:VSpec:=v1 iI (fun _ _=>True) (fun x s=>.tup [mX (cO x.rs s),.v (.bool (cO x.rs s).isSome)]) none
def S77:Spec:=PK.toSpec
attribute [go_sem] PK S77
set_option maxHeartbeats 4000000 in
theorem LS:aN Tryz.prog 77 S77:=by
 refine yy (rs:=[.cell 4 36,.tmp 5]) Tryz.func77 Tryz.ntmps77 (by rfl) (by kernel_rfl) (by decide) (fun _ _=>by first | rfl | exact lU _ _ | simp[D.clos,D.closL,lU]) ⟨_,rfl,lb rfl,fun x s hp H h0 h1 h2 hO ae=>?_⟩
 simp only[iI,bC,dm,List.map_cons,List.map_nil,Nat.zero_add,Option.map_some,Option.map_none]at h0 |-
 have hΓ:=Qc
 repeat refine sq ?_
 refine rx hΓ [0,3,4] [[3,0],[4,0]] (fun K' hK=>by simp only[go_sem,hO,ae,h0,h1,h2];(repeat (refine⟨ak,?_⟩));exact hK _ (by simp only[go_sem,hO,ae,h0,h1,h2]) (by simp only[go_sem,hO,ae,h0,h1,h2]<;>rfl)) ?_
 repeat refine sq ?_
 refine rx hΓ [0,4,6] [[4,0]] (fun K' hK=>by simp only[go_sem,hO,ae,h0,h1,h2,true_or,or_true];(repeat (refine⟨ak,?_⟩));exact hK _ (by simp only[go_sem,hO,ae,h0,h1,h2,true_or,or_true]) (by simp only[go_sem,hO,ae,h0,h1,h2,true_or,or_true]<;>rfl)) ?_
 repeat refine sq ?_
 refine rx hΓ [0,4,6,14] [[4,0]] (fun K' hK=>by simp only[go_sem,hO,ae,h0,h1,h2];(repeat (refine⟨ak,?_⟩));exact hK _ (by simp only[go_sem,hO,ae,h0,h1,h2]) (by simp only[go_sem,hO,ae,h0,h1,h2]<;>rfl)) ?_
 repeat refine sq ?_
 refine aB (fun hb=>?_) fun hb=>?_
 ·repeat refine sq ?_
  have e:cO x.rs s=none:=IG (by simpa using hb)
  repeat refine sq ?_
  refine rx hΓ [4,5] [[4,0]] (fun K' hK=>by simp only[go_sem,hO,ae,h0,h1,h2];(repeat (refine⟨ak,?_⟩));exact hK _ (by simp only[go_sem,hO,ae,h0,h1,h2]) (by simp only[go_sem,hO,ae,h0,h1,h2]<;>rfl)) ?_
  refine aC ?_
  simp only[go_sem,hO,ae,h0,h1,h2]
  rw[e];rfl
 ·repeat refine sq ?_
  obtain⟨i,hi,e1,e⟩:=IF (by simpa using hb)
  have bK:(i:Int)<x.rs.length:=by omega
  rw[e1]
  refine aJ ?_
  repeat refine sq ?_
  refine rx hΓ [4,5] [[4,0]] (fun K' hK=>by simp only[go_sem,hO,ae,h0,h1,h2,ah hi,ai,aj,bK];(repeat (refine⟨ak,?_⟩));exact hK _ (by simp only[go_sem,hO,ae,h0,h1,h2,ah hi,ai,aj,bK]) (by simp only[go_sem,hO,ae,h0,h1,h2,ah hi,ai,aj,bK]<;>rfl)) ?_
  refine aC ?_
  simp only[go_sem,hO,ae,h0,h1,h2]
  rw[e];rfl
end
noncomputable section
structure Rg where
 (lo hi:Int)
 deriving Inhabited,DecidableEq
def s8(r:Rg):V:=.agg [vInt r.lo,vInt r.hi]
def vw:V->Rg
 | .agg [.int _ a,.int _ b]=>⟨a,b⟩
 |_=>default
def DN:En Rg:=⟨s8,vw⟩
attribute [go_sem] s8 vw DN
@[go_sem] theorem agR(p:Rg):(⟨p.lo,p.hi⟩:Rg)=p:=rfl
def aV:List (Int×(Int×Int))->Int->Int×Int
 |[],_=>(0,0)
 |(k,d)::r,i=>if k=i then d else aV r i
def nL:List (Int×(Int×Int))->Int->Int×Int->List (Int×(Int×Int))
 |[],i,d=>[(i,d)]
 |(k,e)::r,i,d=>if k=i then(i,d)::r else(k,e)::nL r i d
theorem fV(d:List (Int×(Int×Int)))(i:Int):(eW (bL d) (vInt i)).getD (.agg [vInt 0,vInt 0])=.agg [vInt (aV d i).1,vInt (aV d i).2]:=by
 induction d with
 |nil=>rfl
 |cons q r ih=>
  obtain⟨k,e⟩:=q
  show (if fv (vInt k) (vInt i)=true then some (V.agg [vInt e.1,vInt e.2])else eW (bL r) (vInt i)).getD _=_
  by_cases h:k=i
  ·subst h;simp[fv,aV]
  ·have h':(k==i)=false:=by simpa using h
   simp only[fv,h',Bool.false_eq_true,if_false,aV,h]
   exact ih
theorem Jx(d:List (Int×(Int×Int)))(i a b:Int):dW (bL d) (vInt i) (.agg [vInt a,vInt b])=bL (nL d i (a,b)):=by
 induction d with
 |nil=>rfl
 |cons q r ih=>
  obtain⟨k,e⟩:=q
  show (if fv (vInt k) (vInt i)=true then(vInt i,V.agg [vInt a,vInt b])::bL r else(vInt k,V.agg [vInt e.1,vInt e.2])::dW (bL r) (vInt i) (.agg [vInt a,vInt b]))=_
  by_cases h:k=i
  ·subst h;simp[fv,nL,bL]
  ·have h':(k==i)=false:=by simpa using h
   simp only[fv,h',Bool.false_eq_true,if_false,nL,h,ih]
   rfl
def bH(a b:Int):Int:=if b>a then b else a
def dh(a b:Int):Int:=if b<a then b else a
def C7(x:Vw)(i:Int)(r:Rg):List (Int×(Int×Int)):=nL x.ds i (bH (aV x.ds i).1 r.lo,dh (aV x.ds i).2 r.hi)
def PM:VSpec:=v2 iI DN (fun _ _ _=>True) (fun _ _ _=>.tup []) (some C7)
def S165:Spec:=PM.toSpec
attribute [go_sem] PM S165
set_option maxHeartbeats 4000000 in
theorem DH:aN Tryz.prog 165 S165:=by
 refine yx (rs:=[]) Tryz.func165 Tryz.ntmps165 (by rfl) (by kernel_rfl) (by decide) (fun _ _ _=>by first | rfl | simp[D.clos,D.closL,lU]) ⟨_,rfl,lb rfl,fun x i r hp H h0 h1 h2 hO ae=>?_⟩
 have hP:=fU
 simp only[iI,DN,s8,bC,dm,List.map_cons,List.map_nil,Nat.zero_add,Option.map_some,Option.map_none]at h0 |-
 have hΓ:=@fE Tryz.prog
 repeat refine sq ?_
 refine rx hΓ [0,1,5] [[5,0]] (fun K' hK=>by simp only[go_sem,hO,ae,h0,h1,h2];(repeat (refine⟨ak,?_⟩));exact hK _ (by simp only[go_sem,hO,ae,h0,h1,h2]) (by simp only[go_sem,hO,ae,h0,h1,h2]<;>rfl)) ?_
 repeat refine sq ?_
 refine rx hΓ [0,1,5,6] [[5,0],[6,0]] (fun K' hK=>by simp only[go_sem,hO,ae,h0,h1,h2,fV];(repeat (refine⟨ak,?_⟩));exact hK _ (by simp only[go_sem,hO,ae,h0,h1,h2,fV]) (by simp only[go_sem,hO,ae,h0,h1,h2,fV]<;>rfl)) ?_
 repeat refine sq ?_
 refine oM hΓ hP [[],[0],[0,1],[0,1,2],[],[],[5],[],[7],[5,6,7,8],[],[10],[],[12],[10,11,12,13],[5,6,7,8,9,10,11,12,13,14],u16] (by kernel_rfl) fun K' hK=>?_
 simp only[go_sem,hO,ae,h0,h1,h2,Jx]
 repeat (refine⟨ak,?_⟩)
 first | refine⟨by rfl,?_⟩ | skip
 refine hK _ ?_
 clear K' hK
 simp only[go_sem]
 exact⟨h0,h1,rfl⟩
end
def bd(l:Led)(k:Int):List Rec:=l.rs.filter fun r=>bG r.kn r.un k
def fb(l:Led)(k:Int):List Sig:=l.ss.filter fun s=>bG s.kn s.un k
def fY(pa:Int)(lv:List Int)(r:Rec):Bool:=r.pa==pa&&r.lv.any fun n=>lv.contains n
def cU(rs:List Rec)(pa:Int)(lv:List Int):List Rec:=rs.filter (fY pa lv)
abbrev Bk:=List ((Int×Int)×Int)
abbrev Ds:=List (Int×(Int×Int))
def be:Bk->Int×Int->Option Int
 |[],_=>none
 |(k,i)::r,q=>if k=q then some i else be r q
def rh:Bk->Int×Int->Int->Bk
 |[],q,i=>[(q,i)]
 |(k,e)::r,q,i=>if k=q then(q,i)::r else(k,e)::rh r q i
theorem Ke(a b c d:Int):fv (.agg [vInt a,vInt b]) (.agg [vInt c,vInt d])=decide ((a,b)=(c,d)):=by
 show (a==c&&b==d)=_
 by_cases h1:a=c<;>by_cases h2:b=d<;>simp[h1,h2]
theorem ax(b:Bk)(p f:Int):eW (bY b) (.agg [vInt p,vInt f])=(be b (p,f)).map vInt:=by
 induction b with
 |nil=>rfl
 |cons q r ih=>
  obtain⟨⟨k1,k2⟩,i⟩:=q
  show (if fv (.agg [vInt k1,vInt k2]) (.agg [vInt p,vInt f])=true then some (vInt i)else eW (bY r) (.agg [vInt p,vInt f]))=_
  rw[ih,Ke]
  simp only[be]
  by_cases h:(k1,k2)=(p,f)
  ·rw[if_pos h,if_pos (by simpa using h)];rfl
  ·rw[if_neg h,if_neg (by simpa using h)]
theorem Uc(b:Bk)(p f i:Int):dW (bY b) (.agg [vInt p,vInt f]) (vInt i)=bY (rh b (p,f) i):=by
 induction b with
 |nil=>rfl
 |cons q r ih=>
  obtain⟨⟨k1,k2⟩,e⟩:=q
  show (if fv (.agg [vInt k1,vInt k2]) (.agg [vInt p,vInt f])=true then(V.agg [vInt p,vInt f],vInt i)::bY r else(.agg [vInt k1,vInt k2],vInt e)::dW (bY r) (.agg [vInt p,vInt f]) (vInt i))=_
  rw[ih,Ke]
  simp only[rh]
  by_cases h:(k1,k2)=(p,f)
  ·rw[if_pos h,if_pos (by simpa using h)];rfl
  ·rw[if_neg h,if_neg (by simpa using h)];rfl
def jW(d:Ds)(i:Int)(r:Rg):Ds:=nL d i (bH (aV d i).1 r.lo,dh (aV d i).2 r.hi)
def aD(l:Led)(i:Nat):Ret:=l.ts.getD i default
def fT(k:Int)(rs:List Rec)(bk:Bk)(x:Ret):Option Rec:=match cO rs x.re with
 |none=>none
 |some r=>if bG x.kn x.un k&&!(decide (bH x.lo (r.da+1)>x.hi)||x.lv.any fun f=>(be bk (r.so,f)).isSome||!r.lv.contains f)then some r else none
def pN(b:Bk)(so:Int)(i:Int)(lv:List Int):Bk:=lv.foldl (fun b f=>rh b (so,f) i) b
def l4(l:Led)(k:Int)(v:Vw)(i:Nat):Vw:=match fT k v.rs v.bk (aD l i)with
 |none=>v
 |some r=>{ v with bk:=pN v.bk r.so i (aD l i).lv,ts:=v.ts++[(i:Int)],ds:=nL v.ds i (bH (aD l i).lo (r.da+1),(aD l i).hi) }
def ay(l:Led)(k:Int):Nat->Vw
 | 0=>⟨l,bd l k,[],[],[]⟩
 |s+1=>l4 l k (ay l k s) s
def lW(rs:List Rec)(s:Int):Rec:=(cO rs s).getD zeroR
def jV(d:Ds)(i da:Int)(os:List Rec):Ds:=os.foldl (fun d o=>if o.da>da then jW d i ⟨0,o.da⟩else d) d
def gj(l:Led)(rs:List Rec)(ts:List Int)(d:Ds):Nat->Ds
 | 0=>d
 |j+1=>jV (gj l rs ts d j) (ts.getD j 0) (lW rs (aD l (ts.getD j 0).toNat).re).da (cU rs (lW rs (aD l (ts.getD j 0).toNat).re).pa (aD l (ts.getD j 0).toNat).lv)
def aw(l:Led)(k:Int):Vw:={ ay l k l.ts.length with ds:=gj l (bd l k) (ay l k l.ts.length).ts (ay l k l.ts.length).ds (ay l k l.ts.length).ts.length }
theorem Ux(l:Led)(k:Int)(v:Vw)(i:Nat):(l4 l k v i).l=v.l/\(l4 l k v i).rs=v.rs:=by
 unfold l4
 split<;>exact⟨rfl,rfl⟩
theorem pn(l:Led)(k:Int)(i:Nat):(ay l k i).l=l/\(ay l k i).rs=bd l k:=by
 induction i with
 |zero=>exact⟨rfl,rfl⟩
 |succ i ih=>
  have :=Ux l k (ay l k i) i
  exact⟨this.1.trans ih.1,this.2.trans ih.2⟩
def qV(x:Vw)(a b:Rec):Bool:=a.lv.any fun f=>(a.pa==b.pa&&b.lv.contains f)&&(a.da==b.da||match be x.bk (a.so,f)with
 |none=>true
 |some i=>decide (bH (aD x.l i.toNat).lo (a.da+1)>b.da))
def gf(x:Vw)(a b:Rec):Bool:=if a.da>b.da then qV x b a else qV x a b
def m6(x:Vw)(i:Nat):Option (Int×Int):=((x.rs.drop (i+1)).find? (gf x (x.rs.getD i zeroR))).map fun b=>((x.rs.getD i zeroR).so,b.so)
def eC(x:Vw):Option (Int×Int):=(List.range x.rs.length).findSome? (m6 x)
def jb(day:Int)(o:Option Rec)(r:Rec):Option Rec:=if decide (r.da<=day)&&(o.isNone||decide (r.da>=(o.getD zeroR).da))then some r else o
def eJ(rs:List Rec)(pa le day:Int):Option Rec:=(cU rs pa [le]).foldl (jb day) none
def cv:Rg:=⟨0,100000⟩
def ct:Rg:=⟨1,0⟩
def bp(x:Vw)(s:Sig):Int×Rg:=match eJ x.rs s.pa s.le s.da with
 |none=>if s.pe=0 then(-1,cv)else(-1,ct)
 |some r=>match be x.bk (r.so,s.le)with
  |none=>if s.pe=r.bo then(-1,cv)else(-1,ct)
  |some i=>if s.pe=0 then(i,⟨0,s.da⟩)else if s.pe=r.bo then(i,⟨s.da+1,100000⟩)else(-1,ct)
def fZ(x:Vw)(d:Ds)(s:Sig):Ds:=if (bp x s).1>=0 then jW d (bp x s).1 (bp x s).2 else d
def dI(x:Vw)(d:Ds)(l:List Sig):Ds:=l.foldl (fZ x) d
def eO(x:Vw)(s:Sig):Bool:=decide ((bp x s).1>=0)||!decide ((bp x s).2.lo>(bp x s).2.hi)
def vl(ts:List Int)(d:Ds):Bool:=ts.all fun i=>decide ((aV d i).1<=(aV d i).2)
def fa(x:Vw)(l:List Sig):Bool:=l.all (eO x)&&vl x.ts (dI x x.ds l)
end Go.Eng
