import Derived.Test.YtepaolcgegdpoaaGreatK4
import Derived.Test.YtepaolcgegdpoaaGreatProg
import Derived.KernelRfl
/- Texts L0 to LW10. -/
set_option linter.all false
namespace Go.Eng
open Go Go.Proofs
abbrev KS (K:List (Nat×Spec)):Prop:=∀ f s,tbl K f=some s->aM Tryz.prog f s
@[go_sem] theorem ta0:bh Tryz.prog 0=some (false,1):=by kernel_rfl
@[go_sem] theorem ta1:bh Tryz.prog 1=some (false,1):=by kernel_rfl
@[go_sem] theorem tz1:bu Tryz.prog 1=some .nilFunc:=by kernel_rfl
@[go_sem] theorem ta2:bh Tryz.prog 2=some (false,1):=by kernel_rfl
@[go_sem] theorem ti2:m6 Tryz.prog 2=some .i64:=by kernel_rfl
@[go_sem] theorem tz2:bu Tryz.prog 2=some (.int .i64 0):=by kernel_rfl
@[go_sem] theorem yu:bh Tryz.prog 3=some (false,1):=by kernel_rfl
@[go_sem] theorem ti3:m6 Tryz.prog 3=some .i64:=by kernel_rfl
@[go_sem] theorem tz3:bu Tryz.prog 3=some (.int .i64 0):=by kernel_rfl
@[go_sem] theorem ta4:bh Tryz.prog 4=some (false,1):=by kernel_rfl
@[go_sem] theorem tz4:bu Tryz.prog 4=some (.bool false):=by kernel_rfl
@[go_sem] theorem afT:bh Tryz.prog 18=some (true,1):=by kernel_rfl
@[go_sem] theorem aec:j7 Tryz.prog 18=some [(0,1)]:=by kernel_rfl
@[go_sem] theorem adK:bu Tryz.prog 18=some (.agg #[(.pointer none)]):=by kernel_rfl
@[go_sem] theorem ae7:bY Tryz.prog 18 0=some (0,1,false):=by kernel_rfl
@[go_sem] theorem afL:bh Tryz.prog 26=some (false,1):=by kernel_rfl
@[go_sem] theorem afl:cH Tryz.prog 26=some (46,2,16):=by kernel_rfl
@[go_sem] theorem aeo:dM Tryz.prog 26=some 0:=by kernel_rfl
@[go_sem] theorem adE:bu Tryz.prog 26=some (.slice none 0 0):=by kernel_rfl
@[go_sem] theorem afK:bh Tryz.prog 27=some (false,1):=by kernel_rfl
@[go_sem] theorem GZ:cH Tryz.prog 27=some (36,7,72):=by kernel_rfl
@[go_sem] theorem aen:dM Tryz.prog 27=some 0:=by kernel_rfl
@[go_sem] theorem adD:bu Tryz.prog 27=some (.slice none 0 0):=by kernel_rfl
@[go_sem] theorem afJ:bh Tryz.prog 28=some (false,1):=by kernel_rfl
@[go_sem] theorem GY:cH Tryz.prog 28=some (40,8,80):=by kernel_rfl
@[go_sem] theorem aem:dM Tryz.prog 28=some 0:=by kernel_rfl
@[go_sem] theorem adC:bu Tryz.prog 28=some (.slice none 0 0):=by kernel_rfl
@[go_sem] theorem afI:bh Tryz.prog 29=some (false,1):=by kernel_rfl
@[go_sem] theorem GX:cH Tryz.prog 29=some (81,7,56):=by kernel_rfl
@[go_sem] theorem ael:dM Tryz.prog 29=some 0:=by kernel_rfl
@[go_sem] theorem adB:bu Tryz.prog 29=some (.slice none 0 0):=by kernel_rfl
@[go_sem] theorem afH:bh Tryz.prog 31=some (true,4):=by kernel_rfl
@[go_sem] theorem aeb:j7 Tryz.prog 31=some [(0,1),(1,1),(2,1),(3,1)]:=by kernel_rfl
@[go_sem] theorem adA:bu Tryz.prog 31=some (.agg #[(.slice none 0 0),(.slice none 0 0),(.slice none 0 0),(.slice none 0 0)]):=by kernel_rfl
@[go_sem] theorem ae6:bY Tryz.prog 31 0=some (0,1,false):=by kernel_rfl
@[go_sem] theorem ae5:bY Tryz.prog 31 1=some (1,1,false):=by kernel_rfl
@[go_sem] theorem ae4:bY Tryz.prog 31 2=some (2,1,false):=by kernel_rfl
@[go_sem] theorem ae3:bY Tryz.prog 31 3=some (3,1,false):=by kernel_rfl
@[go_sem] theorem afG:bh Tryz.prog 32=some (false,1):=by kernel_rfl
@[go_sem] theorem afk:cH Tryz.prog 32=some (3,1,8):=by kernel_rfl
@[go_sem] theorem aek:dM Tryz.prog 32=some 0:=by kernel_rfl
@[go_sem] theorem adz:bu Tryz.prog 32=some (.slice none 0 0):=by kernel_rfl
@[go_sem] theorem afF:bh Tryz.prog 36=some (true,7):=by kernel_rfl
@[go_sem] theorem aea:j7 Tryz.prog 36=some [(0,1),(1,1),(2,1),(3,1),(4,1),(5,1),(6,1)]:=by kernel_rfl
@[go_sem] theorem P0:bu Tryz.prog 36=some (.agg #[(.int .i64 0),(.int .i64 0),(.int .i64 0),(.slice none 0 0),(.int .i64 0),(.int .i64 0),(.int .i64 0)]):=by kernel_rfl
@[go_sem] theorem ae2:bY Tryz.prog 36 0=some (0,1,false):=by kernel_rfl
@[go_sem] theorem ae1:bY Tryz.prog 36 1=some (1,1,false):=by kernel_rfl
@[go_sem] theorem ae0:bY Tryz.prog 36 2=some (2,1,false):=by kernel_rfl
@[go_sem] theorem aeZ:bY Tryz.prog 36 3=some (3,1,false):=by kernel_rfl
@[go_sem] theorem aeY:bY Tryz.prog 36 4=some (4,1,false):=by kernel_rfl
@[go_sem] theorem aeX:bY Tryz.prog 36 5=some (5,1,false):=by kernel_rfl
@[go_sem] theorem aeW:bY Tryz.prog 36 6=some (6,1,false):=by kernel_rfl
@[go_sem] theorem afE:bh Tryz.prog 38=some (true,2):=by kernel_rfl
@[go_sem] theorem ad':j7 Tryz.prog 38=some [(0,1),(1,1)]:=by kernel_rfl
@[go_sem] theorem ady:bu Tryz.prog 38=some (.agg #[(.int .i64 0),(.int .i64 0)]):=by kernel_rfl
@[go_sem] theorem aeV:bY Tryz.prog 38 0=some (0,1,false):=by kernel_rfl
@[go_sem] theorem aeU:bY Tryz.prog 38 1=some (1,1,false):=by kernel_rfl
@[go_sem] theorem afD:bh Tryz.prog 40=some (true,8):=by kernel_rfl
@[go_sem] theorem ad9:j7 Tryz.prog 40=some [(0,1),(1,1),(2,1),(3,1),(4,2),(6,1),(7,1)]:=by kernel_rfl
@[go_sem] theorem PZ:bu Tryz.prog 40=some (.agg #[(.int .i64 0),(.int .i64 0),(.int .i64 0),(.slice none 0 0),(.int .i64 0),(.int .i64 0),(.int .i64 0),(.int .i64 0)]):=by kernel_rfl
@[go_sem] theorem aeT:bY Tryz.prog 40 0=some (0,1,false):=by kernel_rfl
@[go_sem] theorem aeS:bY Tryz.prog 40 1=some (1,1,false):=by kernel_rfl
@[go_sem] theorem aeR:bY Tryz.prog 40 2=some (2,1,false):=by kernel_rfl
@[go_sem] theorem aeQ:bY Tryz.prog 40 3=some (3,1,false):=by kernel_rfl
@[go_sem] theorem aeP:bY Tryz.prog 40 4=some (4,2,true):=by kernel_rfl
@[go_sem] theorem aeO:bY Tryz.prog 40 5=some (6,1,false):=by kernel_rfl
@[go_sem] theorem aeN:bY Tryz.prog 40 6=some (7,1,false):=by kernel_rfl
@[go_sem] theorem afC:bh Tryz.prog 42=some (false,1):=by kernel_rfl
@[go_sem] theorem aev:m6 Tryz.prog 42=some .i64:=by kernel_rfl
@[go_sem] theorem adx:bu Tryz.prog 42=some (.int .i64 0):=by kernel_rfl
@[go_sem] theorem afB:bh Tryz.prog 43=some (false,1):=by kernel_rfl
@[go_sem] theorem afA:bh Tryz.prog 46=some (true,2):=by kernel_rfl
@[go_sem] theorem ad8:j7 Tryz.prog 46=some [(0,1),(1,1)]:=by kernel_rfl
@[go_sem] theorem adw:bu Tryz.prog 46=some (.agg #[(.int .i64 0),(.int .i64 0)]):=by kernel_rfl
@[go_sem] theorem aeM:bY Tryz.prog 46 0=some (0,1,false):=by kernel_rfl
@[go_sem] theorem aeL:bY Tryz.prog 46 1=some (1,1,false):=by kernel_rfl
@[go_sem] theorem afz:bh Tryz.prog 51=some (false,1):=by kernel_rfl
@[go_sem] theorem afj:cH Tryz.prog 51=some (56,2,16):=by kernel_rfl
@[go_sem] theorem aej:dM Tryz.prog 51=some 0:=by kernel_rfl
@[go_sem] theorem adv:bu Tryz.prog 51=some (.slice none 0 0):=by kernel_rfl
@[go_sem] theorem afy:bh Tryz.prog 52=some (false,1):=by kernel_rfl
@[go_sem] theorem afx:bh Tryz.prog 56=some (true,2):=by kernel_rfl
@[go_sem] theorem ad7:j7 Tryz.prog 56=some [(0,1),(1,1)]:=by kernel_rfl
@[go_sem] theorem adu:bu Tryz.prog 56=some (.agg #[(.int .i64 0),(.int .i64 0)]):=by kernel_rfl
@[go_sem] theorem aeK:bY Tryz.prog 56 0=some (0,1,false):=by kernel_rfl
@[go_sem] theorem aeJ:bY Tryz.prog 56 1=some (1,1,false):=by kernel_rfl
@[go_sem] theorem afw:bh Tryz.prog 57=some (false,1):=by kernel_rfl
@[go_sem] theorem afv:bh Tryz.prog 64=some (true,6):=by kernel_rfl
@[go_sem] theorem ad6:j7 Tryz.prog 64=some [(0,1),(1,1),(2,2),(4,1),(5,1)]:=by kernel_rfl
@[go_sem] theorem adt:bu Tryz.prog 64=some (.agg #[(.int .i64 0),(.int .i64 0),(.int .i64 0),(.int .i64 0),(.int .i64 0),(.int .i64 0)]):=by kernel_rfl
@[go_sem] theorem aeI:bY Tryz.prog 64 0=some (0,1,false):=by kernel_rfl
@[go_sem] theorem aeH:bY Tryz.prog 64 1=some (1,1,false):=by kernel_rfl
@[go_sem] theorem aeG:bY Tryz.prog 64 2=some (2,2,true):=by kernel_rfl
@[go_sem] theorem aeF:bY Tryz.prog 64 3=some (4,1,false):=by kernel_rfl
@[go_sem] theorem aeE:bY Tryz.prog 64 4=some (5,1,false):=by kernel_rfl
@[go_sem] theorem afu:bh Tryz.prog 65=some (false,1):=by kernel_rfl
@[go_sem] theorem aft:bh Tryz.prog 81=some (true,7):=by kernel_rfl
@[go_sem] theorem ad5:j7 Tryz.prog 81=some [(0,1),(1,1),(2,1),(3,1),(4,1),(5,1),(6,1)]:=by kernel_rfl
@[go_sem] theorem PY:bu Tryz.prog 81=some (.agg #[(.int .i64 0),(.int .i64 0),(.int .i64 0),(.int .i64 0),(.int .i64 0),(.int .i64 0),(.int .i64 0)]):=by kernel_rfl
@[go_sem] theorem aeD:bY Tryz.prog 81 0=some (0,1,false):=by kernel_rfl
@[go_sem] theorem aeC:bY Tryz.prog 81 1=some (1,1,false):=by kernel_rfl
@[go_sem] theorem aeB:bY Tryz.prog 81 2=some (2,1,false):=by kernel_rfl
@[go_sem] theorem aeA:bY Tryz.prog 81 3=some (3,1,false):=by kernel_rfl
@[go_sem] theorem aez:bY Tryz.prog 81 4=some (4,1,false):=by kernel_rfl
@[go_sem] theorem aey:bY Tryz.prog 81 5=some (5,1,false):=by kernel_rfl
@[go_sem] theorem aex:bY Tryz.prog 81 6=some (6,1,false):=by kernel_rfl
@[go_sem] theorem afs:bh Tryz.prog 95=some (false,1):=by kernel_rfl
@[go_sem] theorem ads:bu Tryz.prog 95=some .nilFunc:=by kernel_rfl
@[go_sem] theorem afr:bh Tryz.prog 96=some (false,1):=by kernel_rfl
@[go_sem] theorem adr:bu Tryz.prog 96=some .nilFunc:=by kernel_rfl
@[go_sem] theorem afq:bh Tryz.prog 97=some (false,1):=by kernel_rfl
@[go_sem] theorem adq:bu Tryz.prog 97=some .nilFunc:=by kernel_rfl
@[go_sem] theorem afp:bh Tryz.prog 98=some (false,1):=by kernel_rfl
@[go_sem] theorem adp:bu Tryz.prog 98=some .nilFunc:=by kernel_rfl
@[go_sem] theorem agj:bh Tryz.prog 103=some (false,1):=by kernel_rfl
@[go_sem] theorem afo:cH Tryz.prog 103=some (4,1,1):=by kernel_rfl
@[go_sem] theorem aeu:dM Tryz.prog 103=some 0:=by kernel_rfl
@[go_sem] theorem ad4:bu Tryz.prog 103=some (.slice none 0 0):=by kernel_rfl
@[go_sem] theorem agi:bh Tryz.prog 106=some (false,1):=by kernel_rfl
@[go_sem] theorem afn:cH Tryz.prog 106=some (38,2,16):=by kernel_rfl
@[go_sem] theorem aet:dM Tryz.prog 106=some 0:=by kernel_rfl
@[go_sem] theorem ad3:bu Tryz.prog 106=some (.slice none 0 0):=by kernel_rfl
@[go_sem] theorem agh:bh Tryz.prog 108=some (true,7):=by kernel_rfl
@[go_sem] theorem aef:j7 Tryz.prog 108=some [(0,4),(4,1),(5,1),(6,1)]:=by kernel_rfl
@[go_sem] theorem ad2:bu Tryz.prog 108=some (.agg #[(.slice none 0 0),(.slice none 0 0),(.slice none 0 0),(.slice none 0 0),(.int .i64 0),(.slice none 0 0),(.slice none 0 0)]):=by kernel_rfl
@[go_sem] theorem afh:bY Tryz.prog 108 0=some (0,4,true):=by kernel_rfl
@[go_sem] theorem afg:bY Tryz.prog 108 1=some (4,1,false):=by kernel_rfl
@[go_sem] theorem aff:bY Tryz.prog 108 2=some (5,1,false):=by kernel_rfl
@[go_sem] theorem afe:bY Tryz.prog 108 3=some (6,1,false):=by kernel_rfl
@[go_sem] theorem agf:bh Tryz.prog 112=some (false,1):=by kernel_rfl
@[go_sem] theorem age:bh Tryz.prog 113=some (false,1):=by kernel_rfl
@[go_sem] theorem ad1:bu Tryz.prog 113=some (.pointer none):=by kernel_rfl
@[go_sem] theorem agd:bh Tryz.prog 115=some (false,1):=by kernel_rfl
@[go_sem] theorem ad0:bu Tryz.prog 115=some (.pointer none):=by kernel_rfl
@[go_sem] theorem agc:bh Tryz.prog 117=some (false,1):=by kernel_rfl
@[go_sem] theorem agb:bh Tryz.prog 119=some (false,1):=by kernel_rfl
@[go_sem] theorem aga:bh Tryz.prog 120=some (false,1):=by kernel_rfl
@[go_sem] theorem aes:dM Tryz.prog 120=some 2:=by kernel_rfl
@[go_sem] theorem aei:kH Tryz.prog 120=some (2,3):=by kernel_rfl
@[go_sem] theorem adZ:bu Tryz.prog 120=some (.map none):=by kernel_rfl
@[go_sem] theorem af':bh Tryz.prog 121=some (false,1):=by kernel_rfl
@[go_sem] theorem aer:dM Tryz.prog 121=some 2:=by kernel_rfl
@[go_sem] theorem aeh:kH Tryz.prog 121=some (0,38):=by kernel_rfl
@[go_sem] theorem adY:bu Tryz.prog 121=some (.map none):=by kernel_rfl
@[go_sem] theorem af9:bh Tryz.prog 123=some (true,5):=by kernel_rfl
@[go_sem] theorem aee:j7 Tryz.prog 123=some [(0,1),(1,1),(2,1),(3,1),(4,1)]:=by kernel_rfl
@[go_sem] theorem adX:bu Tryz.prog 123=some (.agg #[(.pointer none),(.slice none 0 0),(.slice none 0 0),(.map none),(.map none)]):=by kernel_rfl
@[go_sem] theorem afd:bY Tryz.prog 123 0=some (0,1,false):=by kernel_rfl
@[go_sem] theorem afc:bY Tryz.prog 123 1=some (1,1,false):=by kernel_rfl
@[go_sem] theorem afb:bY Tryz.prog 123 2=some (2,1,false):=by kernel_rfl
@[go_sem] theorem afa:bY Tryz.prog 123 3=some (3,1,false):=by kernel_rfl
@[go_sem] theorem ae':bY Tryz.prog 123 4=some (4,1,false):=by kernel_rfl
@[go_sem] theorem af8:bh Tryz.prog 125=some (true,2):=by kernel_rfl
@[go_sem] theorem aed:j7 Tryz.prog 125=some [(0,1),(1,1)]:=by kernel_rfl
@[go_sem] theorem adW:bu Tryz.prog 125=some (.agg #[(.int .i64 0),(.int .i64 0)]):=by kernel_rfl
@[go_sem] theorem ae9:bY Tryz.prog 125 0=some (0,1,false):=by kernel_rfl
@[go_sem] theorem ae8:bY Tryz.prog 125 1=some (1,1,false):=by kernel_rfl
@[go_sem] theorem af7:bh Tryz.prog 135=some (false,1):=by kernel_rfl
@[go_sem] theorem adV:bu Tryz.prog 135=some .nilFunc:=by kernel_rfl
@[go_sem] theorem af6:bh Tryz.prog 137=some (false,1):=by kernel_rfl
@[go_sem] theorem adU:bu Tryz.prog 137=some .nilFunc:=by kernel_rfl
@[go_sem] theorem af5:bh Tryz.prog 139=some (false,1):=by kernel_rfl
@[go_sem] theorem adT:bu Tryz.prog 139=some .nilFunc:=by kernel_rfl
@[go_sem] theorem af4:bh Tryz.prog 140=some (false,1):=by kernel_rfl
@[go_sem] theorem adS:bu Tryz.prog 140=some .nilFunc:=by kernel_rfl
@[go_sem] theorem af3:bh Tryz.prog 145=some (false,1):=by kernel_rfl
@[go_sem] theorem af2:bh Tryz.prog 153=some (false,1):=by kernel_rfl
@[go_sem] theorem adR:bu Tryz.prog 153=some .nilFunc:=by kernel_rfl
@[go_sem] theorem af1:bh Tryz.prog 155=some (false,1):=by kernel_rfl
@[go_sem] theorem adQ:bu Tryz.prog 155=some .nilFunc:=by kernel_rfl
@[go_sem] theorem af0:bh Tryz.prog 157=some (false,1):=by kernel_rfl
@[go_sem] theorem adP:bu Tryz.prog 157=some .nilFunc:=by kernel_rfl
@[go_sem] theorem afZ:bh Tryz.prog 159=some (false,1):=by kernel_rfl
@[go_sem] theorem adO:bu Tryz.prog 159=some .nilFunc:=by kernel_rfl
@[go_sem] theorem afY:bh Tryz.prog 160=some (false,1):=by kernel_rfl
@[go_sem] theorem aeq:dM Tryz.prog 160=some 2:=by kernel_rfl
@[go_sem] theorem aeg:kH Tryz.prog 160=some (0,4):=by kernel_rfl
@[go_sem] theorem adN:bu Tryz.prog 160=some (.map none):=by kernel_rfl
@[go_sem] theorem afX:bh Tryz.prog 161=some (false,1):=by kernel_rfl
@[go_sem] theorem adM:bu Tryz.prog 161=some .nilFunc:=by kernel_rfl
@[go_sem] theorem afW:bh Tryz.prog 164=some (false,1):=by kernel_rfl
@[go_sem] theorem afV:bh Tryz.prog 169=some (false,1):=by kernel_rfl
@[go_sem] theorem afm:cH Tryz.prog 169=some (32,1,24):=by kernel_rfl
@[go_sem] theorem aep:dM Tryz.prog 169=some 0:=by kernel_rfl
@[go_sem] theorem adL:bu Tryz.prog 169=some (.slice none 0 0):=by kernel_rfl
@[go_sem] theorem afU:bh Tryz.prog 170=some (false,1):=by kernel_rfl
@[go_sem] theorem afS:bh Tryz.prog 186=some (false,1):=by kernel_rfl
@[go_sem] theorem adJ:bu Tryz.prog 186=some .nilFunc:=by kernel_rfl
@[go_sem] theorem afR:bh Tryz.prog 188=some (false,1):=by kernel_rfl
@[go_sem] theorem adI:bu Tryz.prog 188=some .nilFunc:=by kernel_rfl
@[go_sem] theorem afQ:bh Tryz.prog 191=some (false,1):=by kernel_rfl
@[go_sem] theorem adH:bu Tryz.prog 191=some .nilFunc:=by kernel_rfl
@[go_sem] theorem afP:bh Tryz.prog 201=some (false,1):=by kernel_rfl
@[go_sem] theorem adG:bu Tryz.prog 201=some .nilFunc:=by kernel_rfl
@[go_sem] theorem afO:bh Tryz.prog 202=some (false,1):=by kernel_rfl
@[go_sem] theorem afN:bh Tryz.prog 205=some (false,1):=by kernel_rfl
@[go_sem] theorem afM:bh Tryz.prog 208=some (false,1):=by kernel_rfl
@[go_sem] theorem aew:m6 Tryz.prog 208=some .u64:=by kernel_rfl
@[go_sem] theorem adF:bu Tryz.prog 208=some (.int .u64 0):=by kernel_rfl
theorem c8:Tryz.prog.follows .mixedOrders=true:=by kernel_rfl
structure Pap where
 (id lv:Int)
 deriving Inhabited,DecidableEq
structure Rec where
 (so bo pa:Int)
 lv:List Int
 (da kn un:Int)
 deriving Inhabited,DecidableEq
structure Ret where
 (so re pe:Int)
 lv:List Int
 (lo hi kn un:Int)
 deriving Inhabited,DecidableEq
structure Sig where
 (so pe pa le da kn un:Int)
 deriving Inhabited,DecidableEq
structure Led where
 ps:List Pap
 rs:List Rec
 ts:List Ret
 ss:List Sig
 deriving Inhabited,DecidableEq
def ky:V->Int
 | .int _ n=>n
 |_=>0
def Az:V->Bool
 | .bool b=>b
 |_=>false
def Nx:V->List Int
 | .sl l=>l.map ky
 |_=>[]
def fA(p:Pap):V:=.agg [vInt p.id,vInt p.lv]
def te:V->Pap
 | .agg [.int _ a,.int _ b]=>⟨a,b⟩
 |_=>default
def encR(r:Rec):V:=.agg [vInt r.so,vInt r.bo,vInt r.pa,.sl (r.lv.map vInt),vInt r.da,vInt r.kn,vInt r.un]
def i4:V->Rec
 | .agg [.int _ a,.int _ b,.int _ c,.sl l,.int _ d,.int _ e,.int _ f]=>⟨a,b,c,l.map ky,d,e,f⟩
 |_=>default
def encT(r:Ret):V:=.agg [vInt r.so,vInt r.re,vInt r.pe,.sl (r.lv.map vInt),vInt r.lo,vInt r.hi,vInt r.kn,vInt r.un]
def jW:V->Ret
 | .agg [.int _ a,.int _ b,.int _ c,.sl l,.int _ d,.int _ g,.int _ e,.int _ f]=>⟨a,b,c,l.map ky,d,g,e,f⟩
 |_=>default
def encS(s:Sig):V:=.agg [vInt s.so,vInt s.pe,vInt s.pa,vInt s.le,vInt s.da,vInt s.kn,vInt s.un]
def kx:V->Sig
 | .agg [.int _ a,.int _ b,.int _ c,.int _ d,.int _ e,.int _ f,.int _ g]=>⟨a,b,c,d,e,f,g⟩
 |_=>default
def dq(l:Led):V:=.agg [.sl (l.ps.map fA),.sl (l.rs.map encR),.sl (l.ts.map encT),.sl (l.ss.map encS)]
def Aw:V->Led
 | .agg [.sl a,.sl b,.sl c,.sl d]=>⟨a.map te,b.map i4,c.map jW,d.map kx⟩
 |_=>default
def eV(l:Led):V:=.ptr [.sl (l.ps.map fA),.sl (l.rs.map encR),.sl (l.ts.map encT),.sl (l.ss.map encS)]
def Av:V->Led
 | .ptr [.sl a,.sl b,.sl c,.sl d]=>⟨a.map te,b.map i4,c.map jW,d.map kx⟩
 |_=>default
@[go_sem] theorem p9(l:List Int):(l.map vInt).map ky=l:=by rw[List.map_map];exact List.map_id _
@[go_sem] theorem agF(l:List Bool):(l.map V.bool).map Az=l:=by rw[List.map_map];exact List.map_id _
theorem ZX(p:Pap):te (fA p)=p:=rfl
theorem ZW(r:Rec):i4 (encR r)=r:=by
 cases r;simp only[encR,i4,p9]
theorem ZS(r:Ret):jW (encT r)=r:=by
 cases r;simp only[encT,jW,p9]
theorem ZU(r:Sig):kx (encS r)=r:=rfl
theorem uM{α:Type}{e:α->V}{d:V->α}(h:∀ a,d (e a)=a)(l:List α):(l.map e).map d=l:=by
 rw[List.map_map]
 have :d∘e=id:=funext h
 rw[this,List.map_id]
@[go_sem] theorem Nv(l:List Pap):(l.map fA).map te=l:=uM ZX l
@[go_sem] theorem vv(l:List Rec):(l.map encR).map i4=l:=uM ZW l
@[go_sem] theorem Au(l:List Ret):(l.map encT).map jW=l:=uM ZS l
@[go_sem] theorem td(l:List Sig):(l.map encS).map kx=l:=uM ZU l
theorem ZY(l:Led):Aw (dq l)=l:=by
 cases l;simp only[dq,Aw,Nv,vv,Au,td]
@[go_sem] theorem agA(p:Pap):(⟨p.id,p.lv⟩:Pap)=p:=rfl
@[go_sem] theorem agz(r:Rec):(⟨r.so,r.bo,r.pa,r.lv,r.da,r.kn,r.un⟩:Rec)=r:=rfl
@[go_sem] theorem agv(r:Ret):(⟨r.so,r.re,r.pe,r.lv,r.lo,r.hi,r.kn,r.un⟩:Ret)=r:=rfl
@[go_sem] theorem agw(r:Sig):(⟨r.so,r.pe,r.pa,r.le,r.da,r.kn,r.un⟩:Sig)=r:=rfl
@[go_sem] theorem agB(l:Led):(⟨l.ps,l.rs,l.ts,l.ss⟩:Led)=l:=rfl
def iI:En Int:=⟨vInt,ky⟩
def iB:En Bool:=⟨.bool,Az⟩
def cm:En (List Int):=⟨fun l=>.sl (l.map vInt),Nx⟩
def iP:En Pap:=⟨fA,te⟩
def iR:En Rec:=⟨encR,i4⟩
def iT:En Ret:=⟨encT,jW⟩
def iS:En Sig:=⟨encS,kx⟩
def iL:En Led:=⟨dq,Aw⟩
def jQ:En Led:=⟨eV,Av⟩
attribute [go_sem] iI iB cm iP iR iT iS iL jQ ky Az Nx fA te encR i4 encT jW encS kx dq Aw eV Av
def bT(n lo hi:Int):Bool:=decide (lo<=n)&&decide (n<=hi)
def dayB(n:Int):Bool:=bT n 0 100000
noncomputable section
@[go_sem] def P96:PSpec:=p3 iI iI iI (fun _ _ _=>True) (fun n lo hi=>.bool (bT n lo hi)) true
@[go_sem] def tG:Spec:=P96.toSpec
theorem v7:aL Tryz.prog 96 P96:=by
 refine gL (rs:=[.tmp 6]) Tryz.func96 Tryz.ntmps96 fun n lo hi hp hw=>?_
 simp only[iI]at hw |-
 have hΓ:=@dT Tryz.prog
 repeat refine sq ?_
 refine rs hΓ [0,1,2] [] ?_
 repeat refine sq ?_
 refine rs hΓ [6] [] ?_
 refine aq ?_
 simp only[go_sem]
 all_goals exact cD
@[go_sem] def P146:PSpec:=p3 iI iI iI (fun _ _ _=>True) (fun n lo hi=>.bool (bT n lo hi)) true
@[go_sem] def tH:Spec:=P146.toSpec
theorem uq:aL Tryz.prog 146 P146:=by
 refine gL (rs:=[.tmp 6]) Tryz.func146 Tryz.ntmps146 fun n lo hi hp hw=>?_
 simp only[iI]at hw |-
 have hΓ:=@dT Tryz.prog
 repeat refine sq ?_
 refine rs hΓ [0,1,2] [] ?_
 repeat refine sq ?_
 refine rs hΓ [6] [] ?_
 refine aq ?_
 simp only[go_sem]
 all_goals exact cD
@[go_sem] def P189:PSpec:=p1 iI (fun _=>True) (fun _=>.bool false) true
@[go_sem] def aby:Spec:=P189.toSpec
theorem RF:aL Tryz.prog 189 P189:=by
 refine dR (rs:=[.tmp 2]) Tryz.func189 Tryz.ntmps189 fun n hp hw=>?_
 simp only[iI]at hw |-
 have hΓ:=@dT Tryz.prog
 repeat refine sq ?_
 refine rs hΓ [0] [] ?_
 repeat refine sq ?_
 refine rs hΓ [2] [] ?_
 refine aq ?_
 simp only[go_sem]
 all_goals exact cD
def K1:List (Nat×Spec):=[(96,tG),(146,tH),(189,aby)]
theorem rK:KS K1:=tc v7.sound<|tc uq.sound<|tc RF.sound<|tn
attribute [go_sem] K1
@[go_sem] def P144:PSpec:=p1 iI (fun _=>True) (fun n=>.bool (bT n 1 999)) true
@[go_sem] def Pd:Spec:=P144.toSpec
theorem Hz:aL Tryz.prog 144 P144:=by
 refine dR (rs:=[.tmp 2]) Tryz.func144 Tryz.ntmps144 fun n hp hw=>?_
 simp only[iI]at hw |-
 have hΓ:=rK
 repeat refine sq ?_
 refine rs hΓ [0] [] ?_
 repeat refine sq ?_
 refine rs hΓ [2] [] ?_
 refine aq ?_
 simp only[go_sem]
 all_goals exact cD
@[go_sem] def P145:PSpec:=p1 iI (fun _=>True) (fun n=>.bool (bT n 1 30)) true
@[go_sem] def Gj:Spec:=P145.toSpec
theorem B3:aL Tryz.prog 145 P145:=by
 refine dR (rs:=[.tmp 2]) Tryz.func145 Tryz.ntmps145 fun n hp hw=>?_
 simp only[iI]at hw |-
 have hΓ:=rK
 repeat refine sq ?_
 refine rs hΓ [0] [] ?_
 repeat refine sq ?_
 refine rs hΓ [2] [] ?_
 refine aq ?_
 simp only[go_sem]
 all_goals exact cD
@[go_sem] def P147:PSpec:=p1 iI (fun _=>True) (fun n=>.bool (bT n 1 99999)) true
@[go_sem] def Pc:Spec:=P147.toSpec
theorem Hy:aL Tryz.prog 147 P147:=by
 refine dR (rs:=[.tmp 2]) Tryz.func147 Tryz.ntmps147 fun n hp hw=>?_
 simp only[iI]at hw |-
 have hΓ:=rK
 repeat refine sq ?_
 refine rs hΓ [0] [] ?_
 repeat refine sq ?_
 refine rs hΓ [2] [] ?_
 refine aq ?_
 simp only[go_sem]
 all_goals exact cD
@[go_sem] def P148:PSpec:=p1 iI (fun _=>True) (fun n=>.bool (bT n 1 99)) true
@[go_sem] def Pb:Spec:=P148.toSpec
theorem Hw:aL Tryz.prog 148 P148:=by
 refine dR (rs:=[.tmp 2]) Tryz.func148 Tryz.ntmps148 fun n hp hw=>?_
 simp only[iI]at hw |-
 have hΓ:=rK
 repeat refine sq ?_
 refine rs hΓ [0] [] ?_
 repeat refine sq ?_
 refine rs hΓ [2] [] ?_
 refine aq ?_
 simp only[go_sem]
 all_goals exact cD
@[go_sem] def P150:PSpec:=p1 iI (fun _=>True) (fun n=>.bool (dayB n)) true
@[go_sem] def Gi:Spec:=P150.toSpec
theorem B2:aL Tryz.prog 150 P150:=by
 refine dR (rs:=[.tmp 2]) Tryz.func150 Tryz.ntmps150 fun n hp hw=>?_
 simp only[iI]at hw |-
 have hΓ:=rK
 repeat refine sq ?_
 refine rs hΓ [0] [] ?_
 repeat refine sq ?_
 refine rs hΓ [2] [] ?_
 refine aq ?_
 simp only[go_sem]
 all_goals exact cD
@[go_sem] def P152:PSpec:=p1 iI (fun _=>True) (fun n=>.bool (bT n 1 99999)) true
@[go_sem] def O':Spec:=P152.toSpec
theorem Hv:aL Tryz.prog 152 P152:=by
 refine dR (rs:=[.tmp 2]) Tryz.func152 Tryz.ntmps152 fun n hp hw=>?_
 simp only[iI]at hw |-
 have hΓ:=rK
 repeat refine sq ?_
 refine rs hΓ [0] [] ?_
 repeat refine sq ?_
 refine rs hΓ [2] [] ?_
 refine aq ?_
 simp only[go_sem]
 all_goals exact cD
@[go_sem] def P154:PSpec:=p1 iI (fun _=>True) (fun n=>.bool (dayB n)) true
@[go_sem] def Gh:Spec:=P154.toSpec
theorem B1:aL Tryz.prog 154 P154:=by
 refine dR (rs:=[.tmp 2]) Tryz.func154 Tryz.ntmps154 fun n hp hw=>?_
 simp only[iI]at hw |-
 have hΓ:=rK
 repeat refine sq ?_
 refine rs hΓ [0] [] ?_
 repeat refine sq ?_
 refine rs hΓ [2] [] ?_
 refine aq ?_
 simp only[go_sem]
 all_goals exact cD
def mJ(a b:Int):Int:=if a<b then -1 else if b<a then 1 else 0
@[go_sem] def P140:PSpec:=p2 iI iI (fun _ _=>True) (fun a b=>vInt (mJ a b)) true
@[go_sem] def abO:Spec:=P140.toSpec
theorem R4:aL Tryz.prog 140 P140:=by
 refine cK (rs:=[.tmp 4]) Tryz.func140 Tryz.ntmps140 fun a b hp hw=>?_
 simp only[iI]at hw |-
 have hΓ:=rK
 repeat refine sq ?_
 refine rs hΓ [0,1] [] ?_
 repeat refine sq ?_
 refine rs hΓ [0,1,5] [] ?_
 repeat refine sq ?_
 refine rs hΓ [0,1,5,6] [] ?_
 repeat refine sq ?_
 refine rs hΓ [0,1,6,11] [] ?_
 repeat refine cX ?_
 refine au (fun hb=>?_) fun hb=>?_
 ·repeat refine cX ?_
  repeat refine sq ?_
  refine rs hΓ [12] [] ?_
  repeat refine cX ?_
  refine au (fun hb=>?_) fun hb=>?_
  ·repeat refine cX ?_
   repeat refine sq ?_
   refine rs hΓ [4] [] ?_
   refine aq ?_
   simp only[go_sem]
   all_goals first | rfl | (simp;done) | (grind [mJ];done)
  ·repeat refine cX ?_
   refine ay ?_
   repeat refine sq ?_
   refine rs hΓ [4] [] ?_
   refine aq ?_
   simp only[go_sem]
   all_goals first | rfl | (simp;done) | (grind [mJ];done)
 ·repeat refine cX ?_
  refine ay ?_
  repeat refine sq ?_
  refine rs hΓ [0,1,13] [] ?_
  repeat refine cX ?_
  refine au (fun hb=>?_) fun hb=>?_
  ·repeat refine cX ?_
   repeat refine sq ?_
   refine rs hΓ [4] [] ?_
   refine aq ?_
   simp only[go_sem]
   all_goals first | rfl | (simp;done) | (grind [mJ];done)
  ·repeat refine cX ?_
   refine ay ?_
   repeat refine sq ?_
   refine rs hΓ [0,1,16] [] ?_
   repeat refine cX ?_
   refine au (fun hb=>?_) fun hb=>?_
   ·repeat refine cX ?_
    repeat refine sq ?_
    refine rs hΓ [4] [] ?_
    refine aq ?_
    simp only[go_sem]
    all_goals first | rfl | (simp;done) | (grind [mJ];done)
   ·repeat refine cX ?_
    refine ay ?_
    repeat refine sq ?_
    refine rs hΓ [19] [] ?_
    repeat refine cX ?_
    refine au (fun hb=>?_) fun hb=>?_
    ·repeat refine cX ?_
     repeat refine sq ?_
     refine rs hΓ [4] [] ?_
     refine aq ?_
     simp only[go_sem]
     all_goals first | rfl | (simp;done) | (grind [mJ];done)
    ·repeat refine cX ?_
     refine ay ?_
     repeat refine sq ?_
     refine rs hΓ [4] [] ?_
     refine aq ?_
     simp only[go_sem]
     all_goals first | rfl | (simp;done) | (grind [mJ];done)
def cG(since GR known:Int):Bool:=decide (since<=known)&&(GR==0||decide (known<GR))
@[go_sem] def P157:PSpec:=p3 iI iI iI (fun _ _ _=>True) (fun a b c=>.bool (cG a b c)) true
@[go_sem] def Bh:Spec:=P157.toSpec
theorem yD:aL Tryz.prog 157 P157:=by
 refine gL (rs:=[.tmp 6]) Tryz.func157 Tryz.ntmps157 fun a b c hp hw=>?_
 simp only[iI]at hw |-
 have hΓ:=@dT Tryz.prog
 repeat refine sq ?_
 refine rs hΓ [0,1,2] [] ?_
 repeat refine sq ?_
 refine rs hΓ [6] [] ?_
 refine aq ?_
 simp only[go_sem]
 all_goals first | rfl | (simp;done) | (grind [cG];done)
@[go_sem] def P162:PSpec:=p3 iI iI iI (fun _ _ _=>True) (fun a b c=>.bool (cG a b c)) true
@[go_sem] def S162:Spec:=P162.toSpec
theorem RW:aL Tryz.prog 162 P162:=by
 refine gL (rs:=[.tmp 6]) Tryz.func162 Tryz.ntmps162 fun a b c hp hw=>?_
 simp only[iI]at hw |-
 have hΓ:=@dT Tryz.prog
 repeat refine sq ?_
 refine rs hΓ [0,1,2] [] ?_
 repeat refine sq ?_
 refine rs hΓ [6] [] ?_
 refine aq ?_
 simp only[go_sem]
 all_goals first | rfl | (simp;done) | (grind [cG];done)
theorem Lq:aM Tryz.prog 162 S162:=RW.sound
end
noncomputable section
def qq(k u:Int):Bool:=dayB k&&(u==0||(decide (k<u)&&decide (u<=100000)))
def K2:List (Nat×Spec):=[(96,tG),(146,tH),(145,Gj),(150,Gi),(154,Gh),(144,Pd),(147,Pc),(148,Pb),(152,O')]
theorem Pq:KS K2:=tc v7.sound<|tc uq.sound<|tc B3.sound<|tc B2.sound<|tc B1.sound<|tc Hz.sound<|tc Hy.sound<|tc Hw.sound<|tc Hv.sound<|tn
attribute [go_sem] K2
theorem Qa(k u:Int):(dayB k&&(u==0||bT u (IntKind.i64.wrap (k+1)) 100000))=qq k u:=by
 unfold qq
 cases h:dayB k with
 |false=>rfl
 |true=>
  unfold dayB bT at h
  simp only[Bool.and_eq_true,decide_eq_true_eq]at h
  rw[wrap_i64 (by omega) (by omega)]
  unfold bT
  simp only[Bool.true_and]
  congr 2
@[go_sem] def P151:PSpec:=p2 iI iI (fun _ _=>True) (fun a b=>.bool (qq a b)) true
@[go_sem] def abM:Spec:=P151.toSpec
theorem R2:aL Tryz.prog 151 P151:=by
 refine cK (rs:=[.tmp 4]) Tryz.func151 Tryz.ntmps151 fun k u hp hw=>?_
 simp only[iI]at hw |-
 have hΓ:=Pq
 repeat refine sq ?_
 refine rs hΓ [0,1] [] ?_
 repeat refine sq ?_
 refine rs hΓ [4] [] ?_
 refine aq ?_
 simp only[go_sem]
 all_goals first | rfl | (simp;done) | (exact congrArg V.bool (Qa _ _);done)
@[go_sem] def P155:PSpec:=p2 iI iI (fun _ _=>True) (fun a b=>.bool (qq a b)) true
@[go_sem] def abK:Spec:=P155.toSpec
theorem R0:aL Tryz.prog 155 P155:=by
 refine cK (rs:=[.tmp 4]) Tryz.func155 Tryz.ntmps155 fun k u hp hw=>?_
 simp only[iI]at hw |-
 have hΓ:=Pq
 repeat refine sq ?_
 refine rs hΓ [0,1] [] ?_
 repeat refine sq ?_
 refine rs hΓ [4] [] ?_
 refine aq ?_
 simp only[go_sem]
 all_goals first | rfl | (simp;done) | (grind [qq];done)
open Classical in
def rV(l:List Int):Bool:=decide (∀ j (h:j<l.length),0<j->l[j-1] <l[j])
theorem wg{l:List Int}:rV l=true↔∀ j (h:j<l.length),0<j->l[j-1] <l[j]:=by unfold rV;exact decide_eq_true_iff
theorem SB{l:List Int}{j:Nat}(h:j<l.length)(h0:0<j)(hb:l[j-1]>=l[j]):rV l=false:=by
 rw[Bool.eq_false_iff]
 intro k
 have :=wg.1 k j h h0
 omega
theorem GF{i n:Nat}(h0:0<i)(h:i<=n)(hn:n<=maxLen):IntKind.i64.wrap ((i:Int)-1)=((i-1:Nat):Int):=yg (by omega) (Nat.le_trans h hn)
@[go_sem] def P130:PSpec:=p1 cm (fun _=>True) (fun l=>.bool (rV l)) true
@[go_sem] def abS:Spec:=P130.toSpec
set_option maxHeartbeats 4000000 in
theorem R9:aL Tryz.prog 130 P130:=by
 refine dR (rs:=[.tmp 2]) Tryz.func130 Tryz.ntmps130 fun l hp hw=>?_
 have hP:=c8
 simp only[cm]at hw |-
 have hΓ:=@dT Tryz.prog
 have hl:l.length<=maxLen:=by have:=hw.1.1;simpa using this
 repeat refine sq ?_
 refine rs hΓ [0] [] ?_
 repeat refine sq ?_
 refine rs hΓ [0,3] [] ?_
 repeat refine sq ?_
 refine aC ?_
 repeat refine sq ?_
 refine bA (fun i:Nat=>[(3,⟨true,.v (vInt i)⟩)]) (fun i=>[]) (fun i=>0<i/\∀ j (h:j<l.length),j<i->0<j->l[j-1] <l[j]) (fun i=>l.length-i) 1 ?_ ?_ ?_ ?_
 ·exact⟨Nat.one_pos,fun j h h1 h2=>by omega⟩
 ·rfl
 ·rfl
 rintro i ⟨h0,hz⟩
 simp only[go_sem]
 repeat refine sq ?_
 refine rs hΓ [0,3,7] [] ?_
 repeat refine sq ?_
 refine au (fun hb=>?_) fun hb=>?_
 ·have aa:i<l.length:=by simpa using hb
  have an:(i:Int)<l.length:=by omega
  have zr:=GF h0 (Nat.le_of_lt aa) hl
  have DP:(0:Int)<=((i-1:Nat):Int):=by omega
  have zB:((i-1:Nat):Int)<l.length:=by omega
  have DO:i-1<l.length:=by omega
  repeat refine sq ?_
  refine ay ?_
  repeat refine sq ?_
  refine aC ?_
  repeat refine sq ?_
  refine dx hΓ hP [[],[],[1],[0,1,2],u4,[],[],[5,6],[5,6,7],u9] [0,3,19] [] (by kernel_rfl) (fun K' hK=>by simp only[go_sem,zr,ae aa,ae DO,ah,aj,an,zB];exact fd) ?_
  repeat refine sq ?_
  refine au (fun hb=>?_) fun hb=>?_
  ·repeat refine sq ?_
   refine rs hΓ [2] [] ?_
   refine aq ?_
   simp only[go_sem]
   rw[SB aa h0 (by simpa using hb)]
  ·replace hb:l[i-1] <l[i]:=by simpa using hb
   repeat refine sq ?_
   refine ay ?_
   refine br ?_
   simp only[go_sem]
   refine kp [0,3] [] ?_
   repeat refine sq ?_
   refine aI hΓ fun K' hK=>?_
   simp only[go_sem]
   repeat (refine⟨ob,?_⟩)
   refine hK _ ?_
   clear K' hK
   simp only[go_sem]
   refine⟨i+1,⟨by omega,fun j h h1 h2=>?_⟩,by omega,?_⟩
   ·rcases Nat.lt_succ_iff_lt_or_eq.1 h1 with h3 | rfl
    ·exact hz j h h3 h2
    ·exact hb
   refine aT [0,3] [] ?_ ?_<;>simp only[go_sem,aO aa hl,aQ]
 ·have aV:l.length<=i:=by
    have :¬ (i:Int)<l.length:=by simpa using hb
    omega
  repeat refine sq ?_
  refine be ?_
  simp only[go_sem]
  refine kp [] [] ?_
  repeat refine sq ?_
  refine rs hΓ [2] [] ?_
  refine aq ?_
  simp only[go_sem]
  rw[wg.2 fun j h h0=>hz j h (by omega) h0]
end
set_option maxHeartbeats 8000000
noncomputable section
def K3:List (Nat×Spec):=[(130,abS),(145,Gj),(146,tH),(96,tG)]
theorem Pp:KS K3:=tc R9.sound<|tc B3.sound<|tc uq.sound<|tc v7.sound<|tn
attribute [go_sem] K3
def oF(l:List Int):Bool:=decide (0<l.length)&&rV l&&bT (l.getD 0 0) 1 30&&bT (l.getD (l.length-1) 0) 1 30
@[go_sem] def P149:PSpec:=p1 cm (fun _=>True) (fun l=>.bool (oF l)) true
@[go_sem] def abN:Spec:=P149.toSpec
theorem R3:aL Tryz.prog 149 P149:=by
 refine dR (rs:=[.tmp 2]) Tryz.func149 Tryz.ntmps149 fun l hp hw=>?_
 simp only[cm]at hw |-
 have hΓ:=Pp
 have hl:l.length<=maxLen:=by have:=hw.1.1;simpa using this
 by_cases h0:l.length=0
 ·have e0:l=[]:=List.length_eq_zero_iff.1 h0
  subst e0
  repeat refine sq ?_
  refine rs hΓ [0] [] ?_
  repeat refine sq ?_
  refine rs hΓ [2] [] ?_
  refine aq ?_
  simp only[go_sem]
  rfl
 ·have hq:0<l.length:=by omega
  have bZ:(0:Int)<l.length:=by omega
  have mo:=yg h0 hl
  have zC:((l.length-1:Nat):Int)<l.length:=by omega
  have lQ:l.length-1<l.length:=by omega
  have hp3:(0:Int)<=((l.length-1:Nat):Int):=by omega
  have Yf:(l.map vInt).getD 0 default=vInt (l.getD 0 0):=by rw[ae hq,dd hq]
  have et:(l.map vInt).getD (l.length-1) default=vInt (l.getD (l.length-1) 0):=by rw[ae lQ,dd lQ]
  have hd:decide ((l.length:Int)>0)=true:=by simpa using hq
  repeat refine sq ?_
  refine rs hΓ [0] [] ?_
  repeat refine sq ?_
  refine rx hΓ [2] [] (fun K' hK=>by simp only[go_sem,mo,Yf,et,ah,Int.toNat_zero,aj,bZ,zC,hd,decide_true];exact fn) ?_
  refine aq ?_
  simp only[go_sem]
  have DO:decide (0<l.length)=true:=by simpa using hq
  simp only[oF,DO,Bool.true_and,Bool.decide_and,Bool.decide_eq_true]
theorem ph{i n:Nat}(h:i<n)(hn:n<=maxLen):∃ p:Nat,(IntKind.i64.wrap ((i:Int)-1)).toNat=p/\p<n/\(0<i->p=i-1/\0<=IntKind.i64.wrap ((i:Int)-1)/\IntKind.i64.wrap ((i:Int)-1)<n):=by
 unfold maxLen at hn
 rcases Nat.eq_zero_or_pos i with rfl | hp
 ·exact⟨0,by decide,h,fun h=>by omega⟩
 ·have:IntKind.i64.wrap ((i:Int)-1)=((i-1:Nat):Int):=by rw[wrap_i64 (by omega) (by omega)];omega
  exact⟨i-1,by rw[this];rfl,by omega,fun _=>⟨rfl,by omega,by omega⟩⟩
theorem Ca{l:List Int}(hr:rV l=true):∀ (k j:Nat) (h:j+k<l.length),l[j]+k<=l[j+k]
 | 0,j,h=>by simp
 |k+1,j,h=>by
  have h1:=Ca hr k j (by omega)
  have h2:=wg.1 hr (j+k+1) (by omega) (by omega)
  have e:j+k+1-1=j+k:=by omega
  simp only[e]at h2
  show l[j]+((k+1:Nat):Int)<=l[j+k+1]
  omega
theorem lL{l:List Int}:oF l=true↔0<l.length/\l.length<=30/\rV l=true/\∀ j (h:j<l.length),bT l[j] 1 30=true:=by
 unfold oF
 simp only[Bool.and_eq_true,decide_eq_true_eq]
 constructor
 ·rintro⟨⟨⟨h1,h2⟩,h3⟩,h4⟩
  have lQ:l.length-1<l.length:=by omega
  rw[dd h1]at h3
  rw[dd lQ]at h4
  unfold bT at h3 h4 |-
  simp only[Bool.and_eq_true,decide_eq_true_eq]at h3 h4 |-
  have eB:∀ j (h:j<l.length),l[0]+j<=l[j]:=fun j h=>by
   have :=Ca h2 j 0 (by omega)
   simpa using this
  have gY:∀ j (h:j<l.length),l[j]<=l[l.length-1]:=fun j h=>by
   have :=Ca h2 (l.length-1-j) j (by omega)
   have e:j+(l.length-1-j)=l.length-1:=by omega
   simp only[e]at this
   omega
  refine⟨h1,?_,h2,fun j h=>?_⟩
  ·have:=eB _ lQ;omega
  ·have a:=eB j h;have b:=gY j h;omega
 ·rintro⟨h1,h2,h3,h4⟩
  have lQ:l.length-1<l.length:=by omega
  refine⟨⟨⟨h1,h3⟩,?_⟩,?_⟩
  ·rw[dd h1];exact h4 0 h1
  ·rw[dd lQ];exact h4 _ lQ
theorem tu{b:Bool}{p:Prop}(h:b=true↔p)(hn:¬ p):b=false:=by
 cases b with
 |false=>rfl
 |true=>exact(hn (h.1 rfl)).elim
@[go_sem] def P153:PSpec:=p1 cm (fun _=>True) (fun l=>.bool (oF l)) true
@[go_sem] def abL:Spec:=P153.toSpec
theorem R1:aL Tryz.prog 153 P153:=by
 refine dR (rs:=[.tmp 2]) Tryz.func153 Tryz.ntmps153 fun l hp hw=>?_
 have hP:=c8
 simp only[cm]at hw |-
 have hΓ:=Pp
 have hl:l.length<=maxLen:=by have:=hw.1.1;simpa using this
 repeat refine sq ?_
 refine rs hΓ [0] [] ?_
 repeat refine sq ?_
 refine rs hΓ [0,3] [] ?_
 repeat refine sq ?_
 refine aC ?_
 repeat refine sq ?_
 refine bA (fun i:Nat=>[(3,⟨true,.v (vInt i)⟩)]) (fun i=>[]) (fun i=>i<=l.length/\∀ j (h:j<l.length),j<i->bT l[j] 1 30=true/\(0<j->l[j-1] <l[j])) (fun i=>l.length-i) 0 ?_ ?_ ?_ ?_
 ·exact⟨Nat.zero_le _,fun j h h1=>by omega⟩
 ·rfl
 ·rfl
 rintro i ⟨h0,hz⟩
 simp only[go_sem]
 repeat refine sq ?_
 refine rs hΓ [0,3,7] [] ?_
 repeat refine sq ?_
 refine au (fun hb=>?_) fun hb=>?_
 ·have aa:i<l.length:=by simpa using hb
  have an:(i:Int)<l.length:=by omega
  obtain⟨p,hp,gW,bW⟩:=ph aa hl
  repeat refine sq ?_
  refine ay ?_
  repeat refine sq ?_
  refine aC ?_
  repeat refine sq ?_
  refine dx hΓ hP [[],[],[0,1],[0,1,2],u4,u5,u6,u7,u8,u9,bI,bI,[0,1,2,3,4,5,6,7,8,9,11],fJ,eE,bI,bI,[0,1,2,3,4,5,6,7,8,9,15,16],[0,1,2,3,4,5,6,7,8,9,15,16,17],l7,gN,jG] [0,3,31] [] (by kernel_rfl) (fun K' hK=>by simp only[go_sem,hp,ae aa,ae gW,ah,aj,an];(repeat (refine⟨by first | exact ob | (intro h;have:=bW (by simp_all);simp_all;done),?_⟩));exact iw) ?_
  repeat refine sq ?_
  refine au (fun hb=>?_) fun hb=>?_
  ·repeat refine sq ?_
   refine rs hΓ [2] [] ?_
   refine aq ?_
   simp only[go_sem]
   rw[tu lL]
   rintro⟨_,_,h3,h4⟩
   have h5:=h4 i aa
   have h6:=wg.1 h3 i aa
   simp only[h5,Bool.not_true,Bool.false_or,Bool.and_eq_true,decide_eq_true_eq]at hb
   obtain⟨e,_⟩:=bW (by omega)
   subst e
   have :=h6 (by omega)
   omega
  ·have hn:bT l[i] 1 30=true/\(0<i->l[i-1] <l[i]):=by
     simp only[Bool.or_eq_false_iff,Bool.not_eq_false',Bool.and_eq_false_iff,decide_eq_false_iff_not]at hb
     refine⟨hb.1,fun h=>?_⟩
     obtain⟨e,_⟩:=bW h
     subst e
     omega
   repeat refine sq ?_
   refine ay ?_
   refine br ?_
   simp only[go_sem]
   refine kp [0,3] [] ?_
   repeat refine sq ?_
   refine aI hΓ fun K' hK=>?_
   simp only[go_sem]
   repeat (refine⟨ob,?_⟩)
   refine hK _ ?_
   clear K' hK
   simp only[go_sem]
   refine⟨i+1,⟨by omega,fun j h h1=>?_⟩,by omega,?_⟩
   ·rcases Nat.lt_succ_iff_lt_or_eq.1 h1 with h3 | rfl
    ·exact hz j h h3
    ·exact hn
   refine aT [0,3] [] ?_ ?_<;>simp only[go_sem,aO aa hl,aQ]
 ·have aV:l.length=i:=by
    have :¬ (i:Int)<l.length:=by simpa using hb
    omega
  repeat refine sq ?_
  refine be ?_
  simp only[go_sem]
  refine kp [0] [] ?_
  repeat refine sq ?_
  refine rs hΓ [2] [] ?_
  refine aq ?_
  simp only[go_sem]
  congr 1
  rw[Bool.eq_iff_iff,lL]
  unfold bT
  simp only[Bool.and_eq_true,decide_eq_true_eq]
  constructor
  ·rintro⟨h1,h2⟩
   exact⟨by omega,by omega,wg.2 fun j h h0=>(hz j h (by omega)).2 h0,fun j h=>by have:=(hz j h (by omega)).1;unfold bT at this;simpa using this⟩
  ·rintro⟨h1,h2,_⟩
   omega
end
set_option maxHeartbeats 8000000
noncomputable section
def K4:List (Nat×Spec):=[(96,tG),(144,Pd),(145,Gj),(146,tH),(147,Pc),(148,Pb),(149,abN),(150,Gi),(151,abM),(152,O'),(153,abL),(154,Gh),(155,abK)]
theorem rJ:KS K4:=tc v7.sound<|tc Hz.sound<|tc B3.sound<|tc uq.sound<|tc Hy.sound<|tc Hw.sound<|tc R3.sound<|tc B2.sound<|tc R2.sound<|tc Hv.sound<|tc R1.sound<|tc B1.sound<|tc R0.sound<|tn
attribute [go_sem] K4
def dC(b:Bool)(n:Int):Int:=if b then 0 else n
theorem p7(b:Bool)(n:Int)(hn:n≠0):(dC b n != 0)=!b:=by cases b<;>simp[dC,hn]
def iM(p:Pap):Bool:=bT p.id 1 999&&bT p.lv 1 30
def dG(r:Rec):Bool:=bT r.so 1 99999&&bT r.bo 1 99&&bT r.pa 1 999&&oF r.lv&&dayB r.da&&qq r.kn r.un
def gR(r:Ret):Bool:=bT r.so 1 99999&&bT r.re 1 99999&&bT r.pe 1 99&&oF r.lv&&bT r.lo 0 r.hi&&dayB r.hi&&qq r.kn r.un
def jH(s:Sig):Bool:=bT s.so 1 99999&&bT s.pe 0 99&&bT s.pa 1 999&&bT s.le 1 30&&dayB s.da&&qq s.kn s.un
@[go_sem] def P61:PSpec:=p1 iP (fun _=>True) (fun x=>vInt (dC (iM x) 20)) true
@[go_sem] def S61:Spec:=P61.toSpec
theorem Rn:aL Tryz.prog 61 P61:=by
 refine dR (rs:=[.tmp 2]) Tryz.func61 Tryz.ntmps61 fun x hp hw=>?_
 simp only[iP,fA]at hw |-
 have hΓ:=rJ
 repeat refine sq ?_
 refine rs hΓ [1] [[1,0]] ?_
 repeat refine sq ?_
 refine rs hΓ [12] [] ?_
 repeat refine cX ?_
 refine au (fun hb=>?_) fun hb=>?_
 ·repeat refine cX ?_
  repeat refine sq ?_
  refine rs hΓ [2] [] ?_
  refine aq ?_
  simp only[go_sem]
  all_goals first | rfl | (simp;done) | (grind [iM,dC];done)
 ·repeat refine cX ?_
  refine ay ?_
  repeat refine sq ?_
  refine rs hΓ [2] [] ?_
  refine aq ?_
  simp only[go_sem]
  all_goals first | rfl | (simp;done) | (grind [iM,dC];done)
@[go_sem] def P62:PSpec:=p1 iP (fun _=>True) (fun x=>vInt (dC (iM x) 20)) true
@[go_sem] def S62:Spec:=P62.toSpec
theorem Rm:aL Tryz.prog 62 P62:=by
 refine dR (rs:=[.tmp 2]) Tryz.func62 Tryz.ntmps62 fun x hp hw=>?_
 simp only[iP,fA]at hw |-
 have hΓ:=rJ
 repeat refine sq ?_
 refine rs hΓ [1] [[1,0]] ?_
 repeat refine sq ?_
 refine rs hΓ [12] [] ?_
 repeat refine cX ?_
 refine au (fun hb=>?_) fun hb=>?_
 ·repeat refine cX ?_
  repeat refine sq ?_
  refine rs hΓ [2] [] ?_
  refine aq ?_
  simp only[go_sem]
  all_goals first | rfl | (simp;done) | (grind [iM,dC];done)
 ·repeat refine cX ?_
  refine ay ?_
  repeat refine sq ?_
  refine rs hΓ [2] [] ?_
  refine aq ?_
  simp only[go_sem]
  all_goals first | rfl | (simp;done) | (grind [iM,dC];done)
@[go_sem] def P63:PSpec:=p1 iR (fun _=>True) (fun x=>vInt (dC (dG x) 21)) true
@[go_sem] def S63:Spec:=P63.toSpec
theorem Rl:aL Tryz.prog 63 P63:=by
 refine dR (rs:=[.tmp 2]) Tryz.func63 Tryz.ntmps63 fun x hp hw=>?_
 simp only[iR,encR]at hw |-
 have hΓ:=rJ
 repeat refine sq ?_
 refine rs hΓ [1] [[1,0]] ?_
 repeat refine sq ?_
 refine rs hΓ [38] [] ?_
 repeat refine cX ?_
 refine au (fun hb=>?_) fun hb=>?_
 ·repeat refine cX ?_
  repeat refine sq ?_
  refine rs hΓ [2] [] ?_
  refine aq ?_
  simp only[go_sem]
  all_goals first | rfl | (simp;done) | (grind [dG,dC];done)
 ·repeat refine cX ?_
  refine ay ?_
  repeat refine sq ?_
  refine rs hΓ [2] [] ?_
  refine aq ?_
  simp only[go_sem]
  all_goals first | rfl | (simp;done) | (grind [dG,dC];done)
@[go_sem] def P64:PSpec:=p1 iR (fun _=>True) (fun x=>vInt (dC (dG x) 21)) true
@[go_sem] def S64:Spec:=P64.toSpec
theorem Rk:aL Tryz.prog 64 P64:=by
 refine dR (rs:=[.tmp 2]) Tryz.func64 Tryz.ntmps64 fun x hp hw=>?_
 simp only[iR,encR]at hw |-
 have hΓ:=rJ
 repeat refine sq ?_
 refine rs hΓ [1] [[1,0]] ?_
 repeat refine sq ?_
 refine rs hΓ [38] [] ?_
 repeat refine cX ?_
 refine au (fun hb=>?_) fun hb=>?_
 ·repeat refine cX ?_
  repeat refine sq ?_
  refine rs hΓ [2] [] ?_
  refine aq ?_
  simp only[go_sem]
  all_goals first | rfl | (simp;done) | (grind [dG,dC];done)
 ·repeat refine cX ?_
  refine ay ?_
  repeat refine sq ?_
  refine rs hΓ [2] [] ?_
  refine aq ?_
  simp only[go_sem]
  all_goals first | rfl | (simp;done) | (grind [dG,dC];done)
@[go_sem] def P65:PSpec:=p1 iT (fun _=>True) (fun x=>vInt (dC (gR x) 22)) true
@[go_sem] def S65:Spec:=P65.toSpec
theorem Rj:aL Tryz.prog 65 P65:=by
 refine dR (rs:=[.tmp 2]) Tryz.func65 Tryz.ntmps65 fun x hp hw=>?_
 simp only[iT,encT]at hw |-
 have hΓ:=rJ
 repeat refine sq ?_
 refine rs hΓ [1] [[1,0]] ?_
 repeat refine sq ?_
 refine rs hΓ [49] [] ?_
 repeat refine cX ?_
 refine au (fun hb=>?_) fun hb=>?_
 ·repeat refine cX ?_
  repeat refine sq ?_
  refine rs hΓ [2] [] ?_
  refine aq ?_
  simp only[go_sem]
  all_goals first | rfl | (simp;done) | (grind [gR,dC];done)
 ·repeat refine cX ?_
  refine ay ?_
  repeat refine sq ?_
  refine rs hΓ [2] [] ?_
  refine aq ?_
  simp only[go_sem]
  all_goals first | rfl | (simp;done) | (grind [gR,dC];done)
@[go_sem] def P67:PSpec:=p1 iS (fun _=>True) (fun x=>vInt (dC (jH x) 23)) true
@[go_sem] def O3:Spec:=P67.toSpec
theorem Rh:aL Tryz.prog 67 P67:=by
 refine dR (rs:=[.tmp 2]) Tryz.func67 Tryz.ntmps67 fun x hp hw=>?_
 simp only[iS,encS]at hw |-
 have hΓ:=rJ
 repeat refine sq ?_
 refine rs hΓ [1] [[1,0]] ?_
 repeat refine sq ?_
 refine rs hΓ [38] [] ?_
 repeat refine cX ?_
 refine au (fun hb=>?_) fun hb=>?_
 ·repeat refine cX ?_
  repeat refine sq ?_
  refine rs hΓ [2] [] ?_
  refine aq ?_
  simp only[go_sem]
  all_goals first | rfl | (simp;done) | (grind [jH,dC];done)
 ·repeat refine cX ?_
  refine ay ?_
  repeat refine sq ?_
  refine rs hΓ [2] [] ?_
  refine aq ?_
  simp only[go_sem]
  all_goals first | rfl | (simp;done) | (grind [jH,dC];done)
@[go_sem] def P68:PSpec:=p1 iS (fun _=>True) (fun x=>vInt (dC (jH x) 23)) true
@[go_sem] def O2:Spec:=P68.toSpec
theorem Rf:aL Tryz.prog 68 P68:=by
 refine dR (rs:=[.tmp 2]) Tryz.func68 Tryz.ntmps68 fun x hp hw=>?_
 simp only[iS,encS]at hw |-
 have hΓ:=rJ
 repeat refine sq ?_
 refine rs hΓ [1] [[1,0]] ?_
 repeat refine sq ?_
 refine rs hΓ [38] [] ?_
 repeat refine cX ?_
 refine au (fun hb=>?_) fun hb=>?_
 ·repeat refine cX ?_
  repeat refine sq ?_
  refine rs hΓ [2] [] ?_
  refine aq ?_
  simp only[go_sem]
  all_goals first | rfl | (simp;done) | (grind [jH,dC];done)
 ·repeat refine cX ?_
  refine ay ?_
  repeat refine sq ?_
  refine rs hΓ [2] [] ?_
  refine aq ?_
  simp only[go_sem]
  all_goals first | rfl | (simp;done) | (grind [jH,dC];done)
@[go_sem] def P66:PSpec:=p1 iT (fun _=>True) (fun x=>vInt (dC (gR x) 22)) true
@[go_sem] def S66:Spec:=P66.toSpec
theorem Ri:aL Tryz.prog 66 P66:=by
 refine dR (rs:=[.tmp 2]) Tryz.func66 Tryz.ntmps66 fun x hp hw=>?_
 simp only[iT,encT]at hw |-
 have hΓ:=rJ
 repeat refine sq ?_
 refine rs hΓ [1] [[1,0]] ?_
 repeat refine sq ?_
 refine rs hΓ [1,32] [[1,0]] ?_
 repeat refine cX ?_
 refine au (fun hb=>?_) fun hb=>?_
 ·repeat refine cX ?_
  repeat refine sq ?_
  refine rs hΓ [2] [] ?_
  refine aq ?_
  simp only[go_sem]
  all_goals first | rfl | (simp;done) | (grind [dC,gR,bT,dayB];done)
 ·repeat refine cX ?_
  refine ay ?_
  repeat refine sq ?_
  refine rs hΓ [51] [] ?_
  repeat refine cX ?_
  refine au (fun hb=>?_) fun hb=>?_
  ·repeat refine cX ?_
   repeat refine sq ?_
   refine rs hΓ [2] [] ?_
   refine aq ?_
   simp only[go_sem]
   all_goals first | rfl | (simp;done) | (grind [dC,gR,bT,dayB];done)
  ·repeat refine cX ?_
   refine ay ?_
   repeat refine sq ?_
   refine rs hΓ [2] [] ?_
   refine aq ?_
   simp only[go_sem]
   all_goals first | rfl | (simp;done) | (grind [dC,gR,bT,dayB];done)
@[go_sem] def P110:PSpec:=p1 iP (fun _=>True) (fun x=>vInt x.id) true
@[go_sem] def ab0:Spec:=P110.toSpec
theorem Sg:aL Tryz.prog 110 P110:=by
 refine dR (rs:=[.tmp 2]) Tryz.func110 Tryz.ntmps110 fun x hp hw=>?_
 simp only[iP,fA]at hw |-
 have hΓ:=@dT Tryz.prog
 repeat refine sq ?_
 refine rs hΓ [1] [[1,0]] ?_
 repeat refine sq ?_
 refine rs hΓ [2] [] ?_
 refine aq ?_
 simp only[go_sem]
 all_goals exact cD
@[go_sem] def P112:PSpec:=p1 iR (fun _=>True) (fun x=>vInt x.so) true
@[go_sem] def abY:Spec:=P112.toSpec
theorem Se:aL Tryz.prog 112 P112:=by
 refine dR (rs:=[.tmp 2]) Tryz.func112 Tryz.ntmps112 fun x hp hw=>?_
 simp only[iR,encR]at hw |-
 have hΓ:=@dT Tryz.prog
 repeat refine sq ?_
 refine rs hΓ [1] [[1,0]] ?_
 repeat refine sq ?_
 refine rs hΓ [2] [] ?_
 refine aq ?_
 simp only[go_sem]
 all_goals exact cD
@[go_sem] def P114:PSpec:=p1 iT (fun _=>True) (fun x=>vInt x.so) true
@[go_sem] def abW:Spec:=P114.toSpec
theorem Sc:aL Tryz.prog 114 P114:=by
 refine dR (rs:=[.tmp 2]) Tryz.func114 Tryz.ntmps114 fun x hp hw=>?_
 simp only[iT,encT]at hw |-
 have hΓ:=@dT Tryz.prog
 repeat refine sq ?_
 refine rs hΓ [1] [[1,0]] ?_
 repeat refine sq ?_
 refine rs hΓ [2] [] ?_
 refine aq ?_
 simp only[go_sem]
 all_goals exact cD
@[go_sem] def P116:PSpec:=p1 iS (fun _=>True) (fun x=>vInt x.so) true
@[go_sem] def abU:Spec:=P116.toSpec
theorem Sa:aL Tryz.prog 116 P116:=by
 refine dR (rs:=[.tmp 2]) Tryz.func116 Tryz.ntmps116 fun x hp hw=>?_
 simp only[iS,encS]at hw |-
 have hΓ:=@dT Tryz.prog
 repeat refine sq ?_
 refine rs hΓ [1] [[1,0]] ?_
 repeat refine sq ?_
 refine rs hΓ [2] [] ?_
 refine aq ?_
 simp only[go_sem]
 all_goals exact cD
end
set_option maxHeartbeats 8000000
noncomputable section
def K5:List (Nat×Spec):=[(61,S61),(63,S63),(65,S65),(67,O3),(110,ab0),(112,abY),(114,abW),(116,abU)]
theorem Bq:KS K5:=tc Rn.sound<|tc Rl.sound<|tc Rj.sound<|tc Rh.sound<|tc Sg.sound<|tc Se.sound<|tc Sc.sound<|tc Sa.sound<|tn
attribute [go_sem] K5
def kL{α:Type}(fB:α->Bool)(num:α->Int)(l:List α)(n:Nat):Prop:=∀ j (h:j<l.length),j<n->fB l[j]=true/\(0<j->num l[j-1] <num l[j])
open Classical in
def ja{α:Type}(fB:α->Bool)(num:α->Int)(l:List α):Bool:=decide (kL fB num l l.length)
theorem gu{α:Type}{fB:α->Bool}{num:α->Int}{l:List α}:ja fB num l=true↔kL fB num l l.length:=by unfold ja;exact @decide_eq_true_iff _ (Classical.propDecidable _)
theorem qA{α:Type}{fB:α->Bool}{num:α->Int}{l:List α}:kL fB num l 0:=fun j _ h=>by omega
theorem qB{α:Type}{fB:α->Bool}{num:α->Int}{l:List α}{i:Nat}(h:kL fB num l i)(hi:i<l.length)(hc:fB l[i]=true/\(0<i->num l[i-1] <num l[i])):kL fB num l (i+1):=by
 intro j hj dB
 rcases Nat.lt_succ_iff_lt_or_eq.1 dB with h1 | rfl
 ·exact h j hj h1
 ·exact hc
@[go_sem] def P109:PSpec:=p4 (cW iP) iI (iF 61) (iF 110) (fun _ _ _ _=>True) (fun l m _ _=>.bool (ja iM Pap.id l&&decide ((l.length:Int)<=m))) true
@[go_sem] def ab1:Spec:=P109.toSpec
theorem Sh:aL Tryz.prog 109 P109:=by
 refine rO (rs:=[.tmp 8]) Tryz.func109 Tryz.ntmps109 fun l m _ _ hp hw=>?_
 have hP:=c8
 simp only[iF,iI,iP,cW,iC,fA]at hw |-
 have hΓ:=Bq
 have hl:l.length<=maxLen:=by have:=hw.1.1;simpa using this
 repeat refine sq ?_
 refine rs hΓ [0,1,2,3] [] ?_
 repeat refine sq ?_
 refine rs hΓ [0,1,2,3,11,12,13] [] ?_
 repeat refine sq ?_
 refine aC ?_
 repeat refine sq ?_
 refine bA (fun s:Nat=>[(13,⟨true,.v (vInt s)⟩)]) (fun s=>[]) (fun s=>s<=l.length/\kL iM Pap.id l s) (fun s=>l.length-s) 0 ?_ ?_ ?_ ?_
 ·exact⟨Nat.zero_le _,qA⟩
 ·rfl
 ·rfl
 rintro i ⟨hi,hR⟩
 simp only[go_sem]
 repeat refine sq ?_
 refine rs hΓ [0,1,2,3,11,12,13,14] [] ?_
 repeat refine sq ?_
 refine au (fun hb=>?_) fun hb=>?_
 ·have aa:i<l.length:=by simpa using hb
  have an:(i:Int)<l.length:=by omega
  clear hb
  obtain⟨p,hp,gW,bW⟩:=ph aa hl
  repeat refine sq ?_
  refine ay ?_
  repeat refine sq ?_
  refine aC ?_
  repeat refine sq ?_
  refine rx hΓ [0,1,2,3,9,10,11,12,13] [[10,0]] (fun K' hK=>by simp only[go_sem,ae aa,ah,aj,an];exact fn) ?_
  repeat refine sq ?_
  refine dx hΓ hP [[],[],[0,1],[0,1,2],u4,u5,u6,u7,u8,u8,u8,[0,1,2,3,4,5,6,7,10],[0,1,2,3,4,5,6,7,9,10,11],[0,1,2,3,4,5,6,7,9,10,11,12],eE,u8,u8,iG,gO,l7,gN] [0,1,2,3,11,12,13,38] [] (by kernel_rfl) (fun K' hK=>by simp only[go_sem,ae aa,ah,aj,an,hp,ae gW,fun b=>p7 b 20 (by decide)];(repeat (refine⟨by first | exact ob | (intro h;have:=bW (by simp_all);simp_all;done),?_⟩));exact iw) ?_
  repeat refine sq ?_
  refine au (fun hb=>?_) fun hb=>?_
  ·repeat refine sq ?_
   have dk:ja iM Pap.id l=false:=by
    rw[tu gu]
    intro h
    obtain⟨h1,h2⟩:=h i aa aa
    simp only[h1,Bool.not_true,Bool.false_or,Bool.and_eq_true,decide_eq_true_eq]at hb
    obtain⟨e,_⟩:=bW (by omega)
    subst e
    have :=h2 (by omega)
    have :=hb.2
    omega
   repeat refine sq ?_
   refine rx hΓ [8] [] (fun K' hK=>by simp only[go_sem,ae aa,ah,aj,an];exact fn) ?_
   refine aq ?_
   simp only[go_sem]
   rw[dk];rfl
  ·repeat refine sq ?_
   have hn:iM l[i]=true/\(0<i->Pap.id l[i-1] <Pap.id l[i]):=by
    simp only[Bool.or_eq_false_iff,Bool.not_eq_false',Bool.and_eq_false_iff,decide_eq_false_iff_not]at hb
    refine⟨hb.1,fun h=>?_⟩
    obtain⟨e,_⟩:=bW h
    subst e
    omega
   refine ay ?_
   refine br ?_
   simp only[go_sem]
   refine kp [0,1,2,3,11,12,13] [] ?_
   repeat refine sq ?_
   refine aI hΓ fun K' hK=>?_
   simp only[go_sem,ae aa,ah,aj,an]
   repeat (refine⟨ob,?_⟩)
   refine hK _ ?_
   clear K' hK
   simp only[go_sem]
   refine⟨i+1,⟨aa,?_⟩,by(show l.length-(i+1)<l.length-i;omega),?_⟩
   ·exact qB hR aa hn
   refine aT [0,1,2,3,11,12,13] [] ?_ ?_<;>simp only[go_sem,aO aa hl,aQ]
 ·have aV:i=l.length:=by
   have :¬ (i:Int)<l.length:=by simpa using hb
   omega
  clear hb
  subst aV
  repeat refine sq ?_
  refine be ?_
  simp only[go_sem]
  refine kp [0,1] [] ?_
  repeat refine sq ?_
  refine rs hΓ [8] [] ?_
  refine aq ?_
  simp only[go_sem]
  rw[gu.2 hR];rfl
@[go_sem] def P111:PSpec:=p4 (cW iR) iI (iF 63) (iF 112) (fun _ _ _ _=>True) (fun l m _ _=>.bool (ja dG Rec.so l&&decide ((l.length:Int)<=m))) true
@[go_sem] def abZ:Spec:=P111.toSpec
theorem Sf:aL Tryz.prog 111 P111:=by
 refine rO (rs:=[.tmp 8]) Tryz.func111 Tryz.ntmps111 fun l m _ _ hp hw=>?_
 have hP:=c8
 simp only[iF,iI,iR,cW,iC,encR]at hw |-
 have hΓ:=Bq
 have hl:l.length<=maxLen:=by have:=hw.1.1;simpa using this
 repeat refine sq ?_
 refine rs hΓ [0,1,2,3] [] ?_
 repeat refine sq ?_
 refine rs hΓ [0,1,2,3,11,12,13] [] ?_
 repeat refine sq ?_
 refine aC ?_
 repeat refine sq ?_
 refine bA (fun s:Nat=>[(13,⟨true,.v (vInt s)⟩)]) (fun s=>[]) (fun s=>s<=l.length/\kL dG Rec.so l s) (fun s=>l.length-s) 0 ?_ ?_ ?_ ?_
 ·exact⟨Nat.zero_le _,qA⟩
 ·rfl
 ·rfl
 rintro i ⟨hi,hR⟩
 simp only[go_sem]
 repeat refine sq ?_
 refine rs hΓ [0,1,2,3,11,12,13,14] [] ?_
 repeat refine sq ?_
 refine au (fun hb=>?_) fun hb=>?_
 ·have aa:i<l.length:=by simpa using hb
  have an:(i:Int)<l.length:=by omega
  clear hb
  obtain⟨p,hp,gW,bW⟩:=ph aa hl
  repeat refine sq ?_
  refine ay ?_
  repeat refine sq ?_
  refine aC ?_
  repeat refine sq ?_
  refine rx hΓ [0,1,2,3,9,10,11,12,13] [[10,0]] (fun K' hK=>by simp only[go_sem,ae aa,ah,aj,an];exact fn) ?_
  repeat refine sq ?_
  refine dx hΓ hP [[],[],[0,1],[0,1,2],u4,u5,u6,u7,u8,u8,u8,[0,1,2,3,4,5,6,7,10],[0,1,2,3,4,5,6,7,9,10,11],[0,1,2,3,4,5,6,7,9,10,11,12],eE,u8,u8,iG,gO,l7,gN] [0,1,2,3,11,12,13,38] [] (by kernel_rfl) (fun K' hK=>by simp only[go_sem,ae aa,ah,aj,an,hp,ae gW,fun b=>p7 b 21 (by decide)];(repeat (refine⟨by first | exact ob | (intro h;have:=bW (by simp_all);simp_all;done),?_⟩));exact iw) ?_
  repeat refine sq ?_
  refine au (fun hb=>?_) fun hb=>?_
  ·repeat refine sq ?_
   have dk:ja dG Rec.so l=false:=by
    rw[tu gu]
    intro h
    obtain⟨h1,h2⟩:=h i aa aa
    simp only[h1,Bool.not_true,Bool.false_or,Bool.and_eq_true,decide_eq_true_eq]at hb
    obtain⟨e,_⟩:=bW (by omega)
    subst e
    have :=h2 (by omega)
    have :=hb.2
    omega
   repeat refine sq ?_
   refine rx hΓ [8] [] (fun K' hK=>by simp only[go_sem,ae aa,ah,aj,an];exact fn) ?_
   refine aq ?_
   simp only[go_sem]
   rw[dk];rfl
  ·repeat refine sq ?_
   have hn:dG l[i]=true/\(0<i->Rec.so l[i-1] <Rec.so l[i]):=by
    simp only[Bool.or_eq_false_iff,Bool.not_eq_false',Bool.and_eq_false_iff,decide_eq_false_iff_not]at hb
    refine⟨hb.1,fun h=>?_⟩
    obtain⟨e,_⟩:=bW h
    subst e
    omega
   refine ay ?_
   refine br ?_
   simp only[go_sem]
   refine kp [0,1,2,3,11,12,13] [] ?_
   repeat refine sq ?_
   refine aI hΓ fun K' hK=>?_
   simp only[go_sem,ae aa,ah,aj,an]
   repeat (refine⟨ob,?_⟩)
   refine hK _ ?_
   clear K' hK
   simp only[go_sem]
   refine⟨i+1,⟨aa,?_⟩,by(show l.length-(i+1)<l.length-i;omega),?_⟩
   ·exact qB hR aa hn
   refine aT [0,1,2,3,11,12,13] [] ?_ ?_<;>simp only[go_sem,aO aa hl,aQ]
 ·have aV:i=l.length:=by
   have :¬ (i:Int)<l.length:=by simpa using hb
   omega
  clear hb
  subst aV
  repeat refine sq ?_
  refine be ?_
  simp only[go_sem]
  refine kp [0,1] [] ?_
  repeat refine sq ?_
  refine rs hΓ [8] [] ?_
  refine aq ?_
  simp only[go_sem]
  rw[gu.2 hR];rfl
@[go_sem] def P113:PSpec:=p4 (cW iT) iI (iF 65) (iF 114) (fun _ _ _ _=>True) (fun l m _ _=>.bool (ja gR Ret.so l&&decide ((l.length:Int)<=m))) true
@[go_sem] def abX:Spec:=P113.toSpec
theorem Sd:aL Tryz.prog 113 P113:=by
 refine rO (rs:=[.tmp 8]) Tryz.func113 Tryz.ntmps113 fun l m _ _ hp hw=>?_
 have hP:=c8
 simp only[iF,iI,cW,iT,iC,encT]at hw |-
 have hΓ:=Bq
 have hl:l.length<=maxLen:=by have:=hw.1.1;simpa using this
 repeat refine sq ?_
 refine rs hΓ [0,1,2,3] [] ?_
 repeat refine sq ?_
 refine rs hΓ [0,1,2,3,11,12,13] [] ?_
 repeat refine sq ?_
 refine aC ?_
 repeat refine sq ?_
 refine bA (fun s:Nat=>[(13,⟨true,.v (vInt s)⟩)]) (fun s=>[]) (fun s=>s<=l.length/\kL gR Ret.so l s) (fun s=>l.length-s) 0 ?_ ?_ ?_ ?_
 ·exact⟨Nat.zero_le _,qA⟩
 ·rfl
 ·rfl
 rintro i ⟨hi,hR⟩
 simp only[go_sem]
 repeat refine sq ?_
 refine rs hΓ [0,1,2,3,11,12,13,14] [] ?_
 repeat refine sq ?_
 refine au (fun hb=>?_) fun hb=>?_
 ·have aa:i<l.length:=by simpa using hb
  have an:(i:Int)<l.length:=by omega
  clear hb
  obtain⟨p,hp,gW,bW⟩:=ph aa hl
  repeat refine sq ?_
  refine ay ?_
  repeat refine sq ?_
  refine aC ?_
  repeat refine sq ?_
  refine rx hΓ [0,1,2,3,9,10,11,12,13] [[10,0]] (fun K' hK=>by simp only[go_sem,ae aa,ah,aj,an];exact fn) ?_
  repeat refine sq ?_
  refine dx hΓ hP [[],[],[0,1],[0,1,2],u4,u5,u6,u7,u8,u8,u8,[0,1,2,3,4,5,6,7,10],[0,1,2,3,4,5,6,7,9,10,11],[0,1,2,3,4,5,6,7,9,10,11,12],eE,u8,u8,iG,gO,l7,gN] [0,1,2,3,11,12,13,38] [] (by kernel_rfl) (fun K' hK=>by simp only[go_sem,ae aa,ah,aj,an,hp,ae gW,fun b=>p7 b 22 (by decide)];(repeat (refine⟨by first | exact ob | (intro h;have:=bW (by simp_all);simp_all;done),?_⟩));exact iw) ?_
  repeat refine sq ?_
  refine au (fun hb=>?_) fun hb=>?_
  ·repeat refine sq ?_
   have dk:ja gR Ret.so l=false:=by
    rw[tu gu]
    intro h
    obtain⟨h1,h2⟩:=h i aa aa
    simp only[h1,Bool.not_true,Bool.false_or,Bool.and_eq_true,decide_eq_true_eq]at hb
    obtain⟨e,_⟩:=bW (by omega)
    subst e
    have :=h2 (by omega)
    have :=hb.2
    omega
   repeat refine sq ?_
   refine rx hΓ [8] [] (fun K' hK=>by simp only[go_sem,ae aa,ah,aj,an];exact fn) ?_
   refine aq ?_
   simp only[go_sem]
   rw[dk];rfl
  ·repeat refine sq ?_
   have hn:gR l[i]=true/\(0<i->Ret.so l[i-1] <Ret.so l[i]):=by
    simp only[Bool.or_eq_false_iff,Bool.not_eq_false',Bool.and_eq_false_iff,decide_eq_false_iff_not]at hb
    refine⟨hb.1,fun h=>?_⟩
    obtain⟨e,_⟩:=bW h
    subst e
    omega
   refine ay ?_
   refine br ?_
   simp only[go_sem]
   refine kp [0,1,2,3,11,12,13] [] ?_
   repeat refine sq ?_
   refine aI hΓ fun K' hK=>?_
   simp only[go_sem,ae aa,ah,aj,an]
   repeat (refine⟨ob,?_⟩)
   refine hK _ ?_
   clear K' hK
   simp only[go_sem]
   refine⟨i+1,⟨aa,?_⟩,by(show l.length-(i+1)<l.length-i;omega),?_⟩
   ·exact qB hR aa hn
   refine aT [0,1,2,3,11,12,13] [] ?_ ?_<;>simp only[go_sem,aO aa hl,aQ]
 ·have aV:i=l.length:=by
   have :¬ (i:Int)<l.length:=by simpa using hb
   omega
  clear hb
  subst aV
  repeat refine sq ?_
  refine be ?_
  simp only[go_sem]
  refine kp [0,1] [] ?_
  repeat refine sq ?_
  refine rs hΓ [8] [] ?_
  refine aq ?_
  simp only[go_sem]
  rw[gu.2 hR];rfl
@[go_sem] def P115:PSpec:=p4 (cW iS) iI (iF 67) (iF 116) (fun _ _ _ _=>True) (fun l m _ _=>.bool (ja jH Sig.so l&&decide ((l.length:Int)<=m))) true
@[go_sem] def abV:Spec:=P115.toSpec
theorem Sb:aL Tryz.prog 115 P115:=by
 refine rO (rs:=[.tmp 8]) Tryz.func115 Tryz.ntmps115 fun l m _ _ hp hw=>?_
 have hP:=c8
 simp only[iF,iI,iS,cW,iC,encS]at hw |-
 have hΓ:=Bq
 have hl:l.length<=maxLen:=by have:=hw.1.1;simpa using this
 repeat refine sq ?_
 refine rs hΓ [0,1,2,3] [] ?_
 repeat refine sq ?_
 refine rs hΓ [0,1,2,3,11,12,13] [] ?_
 repeat refine sq ?_
 refine aC ?_
 repeat refine sq ?_
 refine bA (fun s:Nat=>[(13,⟨true,.v (vInt s)⟩)]) (fun s=>[]) (fun s=>s<=l.length/\kL jH Sig.so l s) (fun s=>l.length-s) 0 ?_ ?_ ?_ ?_
 ·exact⟨Nat.zero_le _,qA⟩
 ·rfl
 ·rfl
 rintro i ⟨hi,hR⟩
 simp only[go_sem]
 repeat refine sq ?_
 refine rs hΓ [0,1,2,3,11,12,13,14] [] ?_
 repeat refine sq ?_
 refine au (fun hb=>?_) fun hb=>?_
 ·have aa:i<l.length:=by simpa using hb
  have an:(i:Int)<l.length:=by omega
  clear hb
  obtain⟨p,hp,gW,bW⟩:=ph aa hl
  repeat refine sq ?_
  refine ay ?_
  repeat refine sq ?_
  refine aC ?_
  repeat refine sq ?_
  refine rx hΓ [0,1,2,3,9,10,11,12,13] [[10,0]] (fun K' hK=>by simp only[go_sem,ae aa,ah,aj,an];exact fn) ?_
  repeat refine sq ?_
  refine dx hΓ hP [[],[],[0,1],[0,1,2],u4,u5,u6,u7,u8,u8,u8,[0,1,2,3,4,5,6,7,10],[0,1,2,3,4,5,6,7,9,10,11],[0,1,2,3,4,5,6,7,9,10,11,12],eE,u8,u8,iG,gO,l7,gN] [0,1,2,3,11,12,13,38] [] (by kernel_rfl) (fun K' hK=>by simp only[go_sem,ae aa,ah,aj,an,hp,ae gW,fun b=>p7 b 23 (by decide)];(repeat (refine⟨by first | exact ob | (intro h;have:=bW (by simp_all);simp_all;done),?_⟩));exact iw) ?_
  repeat refine sq ?_
  refine au (fun hb=>?_) fun hb=>?_
  ·repeat refine sq ?_
   have dk:ja jH Sig.so l=false:=by
    rw[tu gu]
    intro h
    obtain⟨h1,h2⟩:=h i aa aa
    simp only[h1,Bool.not_true,Bool.false_or,Bool.and_eq_true,decide_eq_true_eq]at hb
    obtain⟨e,_⟩:=bW (by omega)
    subst e
    have :=h2 (by omega)
    have :=hb.2
    omega
   repeat refine sq ?_
   refine rx hΓ [8] [] (fun K' hK=>by simp only[go_sem,ae aa,ah,aj,an];exact fn) ?_
   refine aq ?_
   simp only[go_sem]
   rw[dk];rfl
  ·repeat refine sq ?_
   have hn:jH l[i]=true/\(0<i->Sig.so l[i-1] <Sig.so l[i]):=by
    simp only[Bool.or_eq_false_iff,Bool.not_eq_false',Bool.and_eq_false_iff,decide_eq_false_iff_not]at hb
    refine⟨hb.1,fun h=>?_⟩
    obtain⟨e,_⟩:=bW h
    subst e
    omega
   refine ay ?_
   refine br ?_
   simp only[go_sem]
   refine kp [0,1,2,3,11,12,13] [] ?_
   repeat refine sq ?_
   refine aI hΓ fun K' hK=>?_
   simp only[go_sem,ae aa,ah,aj,an]
   repeat (refine⟨ob,?_⟩)
   refine hK _ ?_
   clear K' hK
   simp only[go_sem]
   refine⟨i+1,⟨aa,?_⟩,by(show l.length-(i+1)<l.length-i;omega),?_⟩
   ·exact qB hR aa hn
   refine aT [0,1,2,3,11,12,13] [] ?_ ?_<;>simp only[go_sem,aO aa hl,aQ]
 ·have aV:i=l.length:=by
   have :¬ (i:Int)<l.length:=by simpa using hb
   omega
  clear hb
  subst aV
  repeat refine sq ?_
  refine be ?_
  simp only[go_sem]
  refine kp [0,1] [] ?_
  repeat refine sq ?_
  refine rs hΓ [8] [] ?_
  refine aq ?_
  simp only[go_sem]
  rw[gu.2 hR];rfl
end
set_option maxHeartbeats 8000000
noncomputable section
theorem UJ{i j:Nat}(hi:i<=maxLen)(hj:j<=maxLen):IntKind.i64.wrap ((IntKind.u64.wrap (IntKind.i64.wrap ((i:Int)+(j:Int)))).fdiv (2 ^ min (Int.toNat 1) 64))=(((i+j) / 2:Nat):Int):=by
 unfold maxLen at hi hj
 have h1:min (Int.toNat 1) 64=1:=by decide
 have h2:IntKind.u64.wrap (IntKind.i64.wrap ((i:Int)+(j:Int)))=((i+j:Nat):Int):=by
  rw[IntKind.wrap_u64,IntKind.wrap_i64]
  omega
 rw[h1,h2]
 have h3:(((i+j:Nat):Int)).fdiv (2 ^ 1)=(((i+j) / 2:Nat):Int):=by
  rw[Int.fdiv_eq_ediv_of_nonneg _ (by decide)]
  omega
 rw[h3,wrap_i64 (by omega) (by omega)]
theorem NP{a b:Int}:mJ a b<0↔a<b:=by
 unfold mJ
 split
 ·simp[*]
 ·split<;>simp<;>omega
theorem aae{a b:Int}:(mJ a b==0)=(a==b):=by
 unfold mJ
 split
 ·have:a≠b:=by omega
  simp[this]
 ·split
  ·have:a≠b:=by omega
   simp[this]
  ·have:a=b:=by omega
   simp[this]
def srt{α:Type}(num:α->Int)(l:List α):Prop:=∀ i j (hi:i<l.length) (hj:j<l.length),i<j->num l[i] <num l[j]
theorem Qh{α:Type}{num:α->Int}{l:List α}(h:∀ j (h:j<l.length),0<j->num l[j-1] <num l[j]):srt num l:=by
 intro i j hi hj b7
 induction j with
 |zero=>omega
 |succ j ih=>
  have h1:=h (j+1) hj (by omega)
  simp only[Nat.add_sub_cancel]at h1
  rcases Nat.lt_succ_iff_lt_or_eq.1 b7 with h2 | rfl
  ·have:=ih (by omega) h2;omega
  ·exact h1
theorem wq{α:Type}{fB:α->Bool}{num:α->Int}{l:List α}(h:kL fB num l l.length):srt num l:=Qh fun j hj h0=>(h j hj hj).2 h0
def sf{α:Type}(num:α->Int)(l:List α)(x:Int):Nat:=(l.takeWhile fun y=>decide (num y<x)).length
def pS{α:Type}(num:α->Int)(l:List α)(x:Int):Bool:=l.any fun y=>num y==x
theorem CP{α:Type}{num:α->Int}{l:List α}{x:Int}{i:Nat}(hi:i<=l.length)(h1:∀ k (h:k<l.length),k<i->num l[k] <x)(h2:∀ k (h:k<l.length),i<=k->x<=num l[k]):sf num l x=i:=by
 unfold sf
 induction l generalizing i with
 |nil=>simp at hi |-;omega
 |cons a r ih=>
  cases i with
  |zero=>
   have :=h2 0 (by simp) (Nat.le_refl _)
   simp only[List.getElem_cons_zero]at this
   have hd:decide (num a<x)=false:=by simp;omega
   simp[hd]
  |succ i=>
   have :=h1 0 (by simp) (by omega)
   simp only[List.getElem_cons_zero]at this
   have hd:decide (num a<x)=true:=by simp;omega
   simp only[List.takeWhile_cons,hd,if_true,List.length_cons]
   rw[ih (by simpa using hi) (fun k hk du=>by have:=h1 (k+1) (by simpa using hk) (by omega);simpa using this) (fun k hk du=>by have:=h2 (k+1) (by simpa using hk) (by omega);simpa using this)]
theorem z7{α:Type}{num:α->Int}{l:List α}{x:Int}:pS num l x=true↔∃ k,∃ (h:k<l.length),num l[k]=x:=by
 unfold pS
 rw[List.any_eq_true]
 constructor
 ·rintro⟨y,hy,h⟩
  obtain⟨k,hk,rfl⟩:=List.getElem_of_mem hy
  exact⟨k,hk,by simpa using h⟩
 ·rintro⟨k,hk,h⟩
  exact⟨_,List.getElem_mem hk,by simpa using h⟩
theorem YP{α:Type}{num:α->Int}{l:List α}{x:Int}{i:Nat}(hs:srt num l)(hi:i<l.length)(h1:∀ k (h:k<l.length),k<i->num l[k] <x)(h2:∀ k (h:k<l.length),i<=k->x<=num l[k]):pS num l x=(num l[i]==x):=by
 rw[Bool.eq_iff_iff,z7]
 simp only[beq_iff_eq]
 constructor
 ·rintro⟨k,hk,e⟩
  rcases Nat.lt_trichotomy k i with h3 | h3 | h3
  ·have:=h1 k hk h3;omega
  ·subst h3;exact e
  ·have:=hs i k hi hk h3
   have :=h2 i hi (Nat.le_refl _)
   omega
 ·intro e
  exact⟨i,hi,e⟩
theorem YO{α:Type}{num:α->Int}{l:List α}{x:Int}(h1:∀ k (h:k<l.length),num l[k] <x):pS num l x=false:=by
 rw[Bool.eq_false_iff]
 intro h
 obtain⟨k,hk,e⟩:=z7.1 h
 have :=h1 k hk
 omega
def K6a:List (Nat×Spec):=[(140,abO)]
theorem acj:KS K6a:=tc R4.sound<|tn
attribute [go_sem] K6a
@[go_sem] def P169:PSpec:=p2 iP iI (fun _ _=>True) (fun p x=>vInt (mJ p.id x)) true
@[go_sem] def abH:Spec:=P169.toSpec
theorem RS:aL Tryz.prog 169 P169:=by
 refine cK (rs:=[.tmp 4]) Tryz.func169 Tryz.ntmps169 fun p x hp hw=>?_
 simp only[iI,iP,fA]at hw |-
 have hΓ:=acj
 repeat refine sq ?_
 refine rs hΓ [1,2] [[2,0]] ?_
 repeat refine sq ?_
 refine rs hΓ [4] [] ?_
 refine aq ?_
 simp only[go_sem]
 all_goals exact cD
def K6b:List (Nat×Spec):=[(169,abH)]
theorem aci:KS K6b:=tc RS.sound<|tn
attribute [go_sem] K6b
@[go_sem] def P168:PSpec:=p3 (cW iP) iI (iF 169) (fun l _ _=>srt Pap.id l) (fun l x _=>.tup [vInt (sf Pap.id l x),.bool (pS Pap.id l x)]) true
@[go_sem] def abI:Spec:=P168.toSpec
set_option maxRecDepth 10000 in
theorem RT:aL Tryz.prog 168 P168:=by
 refine gL (rs:=[.tmp 6,.tmp 7]) Tryz.func168 Tryz.ntmps168 fun l x _ hp hw=>?_
 simp only[iF,iI,iP,cW,iC,fA]at hw |-
 have hΓ:=aci
 have hs:=hp
 have hl:l.length<=maxLen:=by have:=hw.1.1;simpa using this
 repeat refine sq ?_
 refine rs hΓ [0,1,2] [] ?_
 repeat refine sq ?_
 refine rs hΓ [0,1,2,8] [] ?_
 repeat refine sq ?_
 refine rs hΓ [0,1,2,8,9,10] [] ?_
 repeat refine sq ?_
 refine aC ?_
 repeat refine sq ?_
 refine bA (fun ij:Nat×Nat=>[(9,⟨true,.v (vInt ij.1)⟩),(10,⟨true,.v (vInt ij.2)⟩)]) (fun i=>[]) (fun ij=>ij.1<=ij.2/\ij.2<=l.length/\(∀ k (h:k<l.length),k<ij.1->Pap.id l[k] <x)/\(∀ k (h:k<l.length),ij.2<=k->x<=Pap.id l[k])) (fun ij=>ij.2-ij.1) (0,l.length) ?_ ?_ ?_ ?_
 ·exact⟨Nat.zero_le _,Nat.le_refl _,fun k h hk=>by omega,fun k h hk=>by omega⟩
 ·rfl
 ·rfl
 rintro⟨i,j⟩ ⟨b7,fF,eB,gY⟩
 simp only[go_sem]
 repeat refine sq ?_
 refine rs hΓ [0,1,2,8,9,10,17] [] ?_
 repeat refine sq ?_
 refine au (fun hb=>?_) fun hb=>?_
 ·have aa:i<j:=by simpa using hb
  repeat refine sq ?_
  refine ay ?_
  repeat refine sq ?_
  refine aC ?_
  repeat refine sq ?_
  refine rx hΓ [0,1,2,8,9,10,11] [] (fun K' hK=>by simp only[go_sem,UJ (show i<=maxLen by omega) (show j<=maxLen by omega)];exact fn) ?_
  obtain⟨h,hh⟩:∃ h,h=(i+j) / 2:=⟨_,rfl⟩
  rw[<-hh]
  have h1:i<=h:=by omega
  have h2:h<j:=by omega
  have h3:h<l.length:=by omega
  have Zi:(h:Int)<l.length:=by omega
  repeat refine sq ?_
  refine rx hΓ [0,1,2,8,9,10,11,31] [] (fun K' hK=>by simp only[go_sem,ae h3,ah,aj,Zi];exact fn) ?_
  repeat refine sq ?_
  refine au (fun hb=>?_) fun hb=>?_
  ·have hx:Pap.id l[h] <x:=by simpa[NP]using hb
   repeat refine sq ?_
   refine aI hΓ fun K' hK=>?_
   simp only[go_sem]
   repeat (refine⟨ob,?_⟩)
   refine hK _ ?_
   clear K' hK
   simp only[go_sem]
   refine⟨(h+1,j),⟨by omega,fF,fun k hk Ej=>?_,gY⟩,by omega,?_⟩
   ·rcases Nat.lt_succ_iff_lt_or_eq.1 Ej with h5 | h5
    ·have:=hs k h hk h3 h5;omega
    ·subst h5;exact hx
   ·refine aT [0,1,2,8,9,10] [] ?_ ?_<;>simp only[go_sem,aO h3 hl,aQ]
  ·have hx:x<=Pap.id l[h]:=by
     have :¬ Pap.id l[h] <x:=by simpa[NP]using hb
     omega
   repeat refine sq ?_
   refine aI hΓ fun K' hK=>?_
   simp only[go_sem]
   repeat (refine⟨ob,?_⟩)
   refine hK _ ?_
   clear K' hK
   simp only[go_sem]
   refine⟨(i,h),⟨by omega,by omega,eB,fun k hk Ej=>?_⟩,by omega,?_⟩
   ·rcases Nat.lt_or_eq_of_le Ej with h5 | h5
    ·have:=hs h k h3 hk h5;omega
    ·subst h5;exact hx
   ·refine aT [0,1,2,8,9,10] [] ?_ ?_<;>simp only[go_sem]
 ·have he:i=j:=by
    have :¬ (i:Int)<j:=by simpa using hb
    omega
  subst he
  repeat refine sq ?_
  refine be ?_
  simp only[go_sem]
  refine kp [0,1,2,8,9] [] ?_
  by_cases mB:i<l.length
  ·have Ep:(i:Int)<l.length:=by omega
   repeat refine sq ?_
   refine rx hΓ [6,7] [] (fun K' hK=>by simp only[go_sem,ae mB,ah,aj,Ep];exact fn) ?_
   refine aq ?_
   simp only[go_sem]
   rw[CP fF eB gY,YP hs mB eB gY]
   simp[aae]
  ·have xd:i=l.length:=by omega
   have Ep:¬ (i:Int)<l.length:=by omega
   obtain⟨k0,n0,Yz⟩:∃ k0 n0,(l.map fA).getD i default=.int k0 n0:=by
    refine⟨default,default,?_⟩
    rw[List.getD_eq_getElem?_getD,List.getElem?_eq_none (by simp;omega)]
    rfl
   repeat refine sq ?_
   refine rx hΓ [6,7] [] (fun K' hK=>by simp only[go_sem,Yz,ah,aj,Ep];exact fn) ?_
   refine aq ?_
   simp only[go_sem]
   rw[CP fF eB gY,YO fun k hk=>eB k hk (by omega)]
   simp
def ei(l:List Pap)(id:Int):Int:=match l.find? fun p=>p.id==id with
 |some p=>p.lv
 |none=>0
theorem Jn{l:List Pap}{x:Int}{i:Nat}(hi:i<l.length)(h:l[i].id=x)(h1:∀ k (h:k<l.length),k<i->l[k].id≠x):ei l x=l[i].lv:=by
 unfold ei
 have :(l.find? fun p=>p.id==x)=some l[i]:=by
  rw[List.find?_eq_some_iff_getElem]
  exact⟨by simpa using h,i,hi,rfl,fun j hj=>by simpa using h1 j (by omega) hj⟩
 rw[this]
theorem Jm{l:List Pap}{x:Int}(h1:∀ k (h:k<l.length),l[k].id≠x):ei l x=0:=by
 unfold ei
 have :(l.find? fun p=>p.id==x)=none:=by
  rw[List.find?_eq_none]
  intro p hp
  obtain⟨k,hk,rfl⟩:=List.getElem_of_mem hp
  simpa using h1 k hk
 rw[this]
theorem UN{l:List Pap}{x:Int}(hs:srt Pap.id l)(h:pS Pap.id l x=true):∃ (h:sf Pap.id l x<l.length),l[sf Pap.id l x].lv=ei l x:=by
 obtain⟨k,hk,e⟩:=z7.1 h
 have e2:sf Pap.id l x=k:=CP (Nat.le_of_lt hk) (fun j hj nD=>by have:=hs j k hj hk nD;omega) (fun j hj nD=>by
  rcases Nat.lt_or_eq_of_le nD with h | rfl
  ·have:=hs k j hk hj h;omega
  ·omega)
 refine⟨e2▸hk,?_⟩
 rw[Jn hk e fun j hj nD=>by have:=hs j k hj hk nD;omega]
 congr
theorem UM{l:List Pap}{x:Int}(h:pS Pap.id l x=false):ei l x=0:=Jm fun k hk e=>by
 rw[z7.2 ⟨k,hk,e⟩]at h;cases h
def K6:List (Nat×Spec):=[(168,abI)]
theorem ack:KS K6:=tc RT.sound<|tn
attribute [go_sem] K6
@[go_sem] def P79:PSpec:=p2 jQ iI (fun l _=>srt Pap.id l.ps) (fun l x=>vInt (ei l.ps x)) true
@[go_sem] def x8:Spec:=P79.toSpec
theorem Hn:aL Tryz.prog 79 P79:=by
 refine cK (rs:=[.tmp 4]) Tryz.func79 Tryz.ntmps79 fun l x hp hw=>?_
 simp only[iI,jQ,eV]at hw |-
 have hΓ:=ack
 repeat refine sq ?_
 refine rs hΓ [0,1] [] ?_
 repeat refine sq ?_
 refine rx hΓ [0,5,6] [] (fun K' hK=>by simp only[go_sem,hp];exact fn) ?_
 repeat refine sq ?_
 refine rs hΓ [0,5,17] [] ?_
 repeat refine sq ?_
 refine au (fun hb=>?_) fun hb=>?_
 ·repeat refine sq ?_
  have hf:pS Pap.id l.ps x=false:=by simpa using hb
  repeat refine sq ?_
  refine rs hΓ [4] [] ?_
  refine aq ?_
  simp only[go_sem]
  rw[UM hf]
 ·repeat refine sq ?_
  have hf:pS Pap.id l.ps x=true:=by simpa using hb
  obtain⟨X3,pL⟩:=UN hp hf
  have X2:(sf Pap.id l.ps x:Int)<l.ps.length:=by omega
  refine ay ?_
  repeat refine sq ?_
  refine rx hΓ [4] [] (fun K' hK=>by simp only[go_sem,ae X3,ah,aj,X2];exact fn) ?_
  refine aq ?_
  simp only[go_sem]
  rw[pL]
@[go_sem] def P84:PSpec:=p2 iL iI (fun _ _=>True) (fun l x=>vInt (ei l.ps x)) true
@[go_sem] def F9:Spec:=P84.toSpec
theorem Hm:aL Tryz.prog 84 P84:=by
 refine cK (rs:=[.tmp 4]) Tryz.func84 Tryz.ntmps84 fun l x hp hw=>?_
 simp only[iI,iL,dq]at hw |-
 have hΓ:=@dT Tryz.prog
 have hl:l.ps.length<=maxLen:=by have:=hw.1;simp[V.wfL,V.wf]at this;omega
 repeat refine sq ?_
 refine rs hΓ [1,2] [[2,0]] ?_
 repeat refine sq ?_
 refine rs hΓ [1,2,5] [[2,0]] ?_
 repeat refine sq ?_
 refine aC ?_
 repeat refine sq ?_
 refine bA (fun s:Nat=>[(5,⟨true,.v (vInt s)⟩)]) (fun s=>[]) (fun s=>s<=l.ps.length/\∀ k (h:k<l.ps.length),k<s->l.ps[k].id≠x) (fun s=>l.ps.length-s) 0 ?_ ?_ ?_ ?_
 ·exact⟨Nat.zero_le _,by simp⟩
 ·rfl
 ·rfl
 rintro i ⟨hi,hR⟩
 simp only[go_sem]
 repeat refine sq ?_
 refine rs hΓ [1,2,5,10] [[2,0]] ?_
 repeat refine sq ?_
 refine au (fun hb=>?_) fun hb=>?_
 ·have aa:i<l.ps.length:=by simpa using hb
  have an:(i:Int)<l.ps.length:=by omega
  clear hb
  repeat refine sq ?_
  refine ay ?_
  repeat refine sq ?_
  refine aC ?_
  repeat refine sq ?_
  refine rx hΓ [1,2,5,20] [[2,0]] (fun K' hK=>by simp only[go_sem,ae aa,ah,aj,an];exact fn) ?_
  repeat refine sq ?_
  refine au (fun hb=>?_) fun hb=>?_
  ·repeat refine sq ?_
   refine rx hΓ [4] [] (fun K' hK=>by simp only[go_sem,ae aa,ah,aj,an];exact fn) ?_
   refine aq ?_
   simp only[go_sem]
   rw[Jn aa (by simpa using hb) hR]
  ·repeat refine sq ?_
   refine ay ?_
   refine br ?_
   simp only[go_sem]
   refine kp [1,2,5] [[2,0]] ?_
   repeat refine sq ?_
   refine aI hΓ fun K' hK=>?_
   simp only[go_sem,ae aa,ah,aj,an]
   repeat (refine⟨ob,?_⟩)
   refine hK _ ?_
   clear K' hK
   simp only[go_sem]
   refine⟨i+1,⟨aa,?_⟩,by(show l.ps.length-(i+1)<l.ps.length-i;omega),?_⟩
   ·intro k hk du
    rcases Nat.lt_succ_iff_lt_or_eq.1 du with h5 | rfl
    ·exact hR k hk h5
    ·simpa using hb
   refine aT [1,2,5] [[2,0]] ?_ ?_<;>simp only[go_sem,aO aa hl,aQ]
 ·have aV:i=l.ps.length:=by
   have :¬ (i:Int)<l.ps.length:=by simpa using hb
   omega
  clear hb
  subst aV
  repeat refine sq ?_
  refine be ?_
  simp only[go_sem]
  refine kp [] [] ?_
  repeat refine sq ?_
  refine rs hΓ [4] [] ?_
  refine aq ?_
  simp only[go_sem]
  rw[Jm fun k hk=>hR k hk hk]
end
end Go.Eng
set_option linter.unusedVariables false
namespace Go.Eng
open Go Go.Proofs Go.RowKit Go.Lib Go.Shelf
end Go.Eng
set_option linter.unusedVariables false
namespace Go.Eng
open Go Go.Proofs Go.RowKit Go.Lib Go.Shelf
set_option maxHeartbeats 2000000 in
set_option maxRecDepth 100000 in
theorem aau(n c:Nat)(w:World):Calls Tryz.prog 132 #[.slice none n c] w fun e w'=>e=.returned (.slice none 0 0)/\w'=w:=by
 have mixed:Tryz.prog.follows Departure.mixedOrders=true:=by kernel_rfl
 have qT:∀ (w:World) (a:Option Addr) (n c n' c':Nat),(binOp .eql 29 (.slice a n c) (.slice none n' c')).run Tryz.prog w=.ok (.bool a.isNone) w:=fun w a n c n' c'=>Lib.run_eql_slice_nil w _ _ a n c n' c' Tryz.underlying29
 go_enter Tryz.func132,Tryz.ntmps132
 go_wp2
 go_ret
 exact⟨rfl,rfl⟩
set_option maxHeartbeats 2000000 in
set_option maxRecDepth 100000 in
theorem aat(a:Addr)(n c:Nat)(w:World)(v':Value)(w':World)
 (di:∀ ty,(Builtin.append_ #[29,29] ty #[.slice (some ⟨w.heap.size,0,none⟩) 0 0,.slice (some a) n c]).run Tryz.prog (w.alloc (.cells #[] 81))=.ok v' w'):
 Calls Tryz.prog 132 #[.slice (some a) n c] w fun e w1=>e=.returned v'/\w1=w':=by
 have mixed:Tryz.prog.follows Departure.mixedOrders=true:=by kernel_rfl
 have qT:∀ (w:World) (a:Option Addr) (n c n' c':Nat),(binOp .eql 29 (.slice a n c) (.slice none n' c')).run Tryz.prog w=.ok (.bool a.isNone) w:=fun w a n c n' c'=>Lib.run_eql_slice_nil w _ _ a n c n' c' Tryz.underlying29
 go_enter Tryz.func132,Tryz.ntmps132
 go_wp2_with (at_builtin;refine Lib.wpList_append_run _ rfl _ _ _ _ rfl _ _ rfl rfl _ _ (di _) ?_)
 go_ret
 exact⟨rfl,rfl⟩
set_option maxHeartbeats 2000000 in
set_option maxRecDepth 100000 in
theorem aas(n c:Nat)(w:World):Calls Tryz.prog 176 #[.slice none n c] w fun e w'=>e=.returned (.slice none 0 0)/\w'=w:=by
 have mixed:Tryz.prog.follows Departure.mixedOrders=true:=by kernel_rfl
 have qT:∀ (w:World) (a:Option Addr) (n c n' c':Nat),(binOp .eql 26 (.slice a n c) (.slice none n' c')).run Tryz.prog w=.ok (.bool a.isNone) w:=fun w a n c n' c'=>Lib.run_eql_slice_nil w _ _ a n c n' c' Tryz.underlying26
 go_enter Tryz.func176,Tryz.ntmps176
 go_wp2
 go_ret
 exact⟨rfl,rfl⟩
set_option maxHeartbeats 2000000 in
set_option maxRecDepth 100000 in
theorem aar(a:Addr)(n c:Nat)(w:World)(v':Value)(w':World)
 (di:∀ ty,(Builtin.append_ #[26,26] ty #[.slice (some ⟨w.heap.size,0,none⟩) 0 0,.slice (some a) n c]).run Tryz.prog (w.alloc (.cells #[] 46))=.ok v' w'):
 Calls Tryz.prog 176 #[.slice (some a) n c] w fun e w1=>e=.returned v'/\w1=w':=by
 have mixed:Tryz.prog.follows Departure.mixedOrders=true:=by kernel_rfl
 have qT:∀ (w:World) (a:Option Addr) (n c n' c':Nat),(binOp .eql 26 (.slice a n c) (.slice none n' c')).run Tryz.prog w=.ok (.bool a.isNone) w:=fun w a n c n' c'=>Lib.run_eql_slice_nil w _ _ a n c n' c' Tryz.underlying26
 go_enter Tryz.func176,Tryz.ntmps176
 go_wp2_with (at_builtin;refine Lib.wpList_append_run _ rfl _ _ _ _ rfl _ _ rfl rfl _ _ (di _) ?_)
 go_ret
 exact⟨rfl,rfl⟩
set_option maxHeartbeats 2000000 in
set_option maxRecDepth 100000 in
theorem aaq(n c:Nat)(w:World):Calls Tryz.prog 177 #[.slice none n c] w fun e w'=>e=.returned (.slice none 0 0)/\w'=w:=by
 have mixed:Tryz.prog.follows Departure.mixedOrders=true:=by kernel_rfl
 have qT:∀ (w:World) (a:Option Addr) (n c n' c':Nat),(binOp .eql 27 (.slice a n c) (.slice none n' c')).run Tryz.prog w=.ok (.bool a.isNone) w:=fun w a n c n' c'=>Lib.run_eql_slice_nil w _ _ a n c n' c' Tryz.underlying27
 go_enter Tryz.func177,Tryz.ntmps177
 go_wp2
 go_ret
 exact⟨rfl,rfl⟩
set_option maxHeartbeats 2000000 in
set_option maxRecDepth 100000 in
theorem aap(a:Addr)(n c:Nat)(w:World)(v':Value)(w':World)
 (di:∀ ty,(Builtin.append_ #[27,27] ty #[.slice (some ⟨w.heap.size,0,none⟩) 0 0,.slice (some a) n c]).run Tryz.prog (w.alloc (.cells #[] 36))=.ok v' w'):
 Calls Tryz.prog 177 #[.slice (some a) n c] w fun e w1=>e=.returned v'/\w1=w':=by
 have mixed:Tryz.prog.follows Departure.mixedOrders=true:=by kernel_rfl
 have qT:∀ (w:World) (a:Option Addr) (n c n' c':Nat),(binOp .eql 27 (.slice a n c) (.slice none n' c')).run Tryz.prog w=.ok (.bool a.isNone) w:=fun w a n c n' c'=>Lib.run_eql_slice_nil w _ _ a n c n' c' Tryz.underlying27
 go_enter Tryz.func177,Tryz.ntmps177
 go_wp2_with (at_builtin;refine Lib.wpList_append_run _ rfl _ _ _ _ rfl _ _ rfl rfl _ _ (di _) ?_)
 go_ret
 exact⟨rfl,rfl⟩
set_option maxHeartbeats 2000000 in
set_option maxRecDepth 100000 in
theorem aao(n c:Nat)(w:World):Calls Tryz.prog 178 #[.slice none n c] w fun e w'=>e=.returned (.slice none 0 0)/\w'=w:=by
 have mixed:Tryz.prog.follows Departure.mixedOrders=true:=by kernel_rfl
 have qT:∀ (w:World) (a:Option Addr) (n c n' c':Nat),(binOp .eql 28 (.slice a n c) (.slice none n' c')).run Tryz.prog w=.ok (.bool a.isNone) w:=fun w a n c n' c'=>Lib.run_eql_slice_nil w _ _ a n c n' c' Tryz.underlying28
 go_enter Tryz.func178,Tryz.ntmps178
 go_wp2
 go_ret
 exact⟨rfl,rfl⟩
set_option maxHeartbeats 2000000 in
set_option maxRecDepth 100000 in
theorem aan(a:Addr)(n c:Nat)(w:World)(v':Value)(w':World)
 (di:∀ ty,(Builtin.append_ #[28,28] ty #[.slice (some ⟨w.heap.size,0,none⟩) 0 0,.slice (some a) n c]).run Tryz.prog (w.alloc (.cells #[] 40))=.ok v' w'):
 Calls Tryz.prog 178 #[.slice (some a) n c] w fun e w1=>e=.returned v'/\w1=w':=by
 have mixed:Tryz.prog.follows Departure.mixedOrders=true:=by kernel_rfl
 have qT:∀ (w:World) (a:Option Addr) (n c n' c':Nat),(binOp .eql 28 (.slice a n c) (.slice none n' c')).run Tryz.prog w=.ok (.bool a.isNone) w:=fun w a n c n' c'=>Lib.run_eql_slice_nil w _ _ a n c n' c' Tryz.underlying28
 go_enter Tryz.func178,Tryz.ntmps178
 go_wp2_with (at_builtin;refine Lib.wpList_append_run _ rfl _ _ _ _ rfl _ _ rfl rfl _ _ (di _) ?_)
 go_ret
 exact⟨rfl,rfl⟩
set_option maxHeartbeats 2000000 in
set_option maxRecDepth 100000 in
theorem aam(n c:Nat)(w:World):Calls Tryz.prog 179 #[.slice none n c] w fun e w'=>e=.returned (.slice none 0 0)/\w'=w:=by
 have mixed:Tryz.prog.follows Departure.mixedOrders=true:=by kernel_rfl
 have qT:∀ (w:World) (a:Option Addr) (n c n' c':Nat),(binOp .eql 32 (.slice a n c) (.slice none n' c')).run Tryz.prog w=.ok (.bool a.isNone) w:=fun w a n c n' c'=>Lib.run_eql_slice_nil w _ _ a n c n' c' Tryz.underlying32
 go_enter Tryz.func179,Tryz.ntmps179
 go_wp2
 go_ret
 exact⟨rfl,rfl⟩
set_option maxHeartbeats 2000000 in
set_option maxRecDepth 100000 in
theorem aal(a:Addr)(n c:Nat)(w:World)(v':Value)(w':World)
 (di:∀ ty,(Builtin.append_ #[32,32] ty #[.slice (some ⟨w.heap.size,0,none⟩) 0 0,.slice (some a) n c]).run Tryz.prog (w.alloc (.cells #[] 3))=.ok v' w'):
 Calls Tryz.prog 179 #[.slice (some a) n c] w fun e w1=>e=.returned v'/\w1=w':=by
 have mixed:Tryz.prog.follows Departure.mixedOrders=true:=by kernel_rfl
 have qT:∀ (w:World) (a:Option Addr) (n c n' c':Nat),(binOp .eql 32 (.slice a n c) (.slice none n' c')).run Tryz.prog w=.ok (.bool a.isNone) w:=fun w a n c n' c'=>Lib.run_eql_slice_nil w _ _ a n c n' c' Tryz.underlying32
 go_enter Tryz.func179,Tryz.ntmps179
 go_wp2_with (at_builtin;refine Lib.wpList_append_run _ rfl _ _ _ _ rfl _ _ rfl rfl _ _ (di _) ?_)
 go_ret
 exact⟨rfl,rfl⟩
def Z81:Value:=.agg #[.int .i64 0,.int .i64 0,.int .i64 0,.int .i64 0,.int .i64 0,.int .i64 0,.int .i64 0]
def Z46:Value:=.agg #[.int .i64 0,.int .i64 0]
def Z36:Value:=.agg #[.int .i64 0,.int .i64 0,.int .i64 0,.slice none 0 0,.int .i64 0,.int .i64 0,.int .i64 0]
def Z40:Value:=.agg #[.int .i64 0,.int .i64 0,.int .i64 0,.slice none 0 0,.int .i64 0,.int .i64 0,.int .i64 0,.int .i64 0]
theorem ke(n:Nat)(h:n<1000000000):n≠yid:=by unfold yid;omega
theorem NW:rL Tryz.prog 132 29 81 7 56 Z81:=
 ⟨by kernel_rfl,by kernel_rfl,ke _ (by decide),iz Tryz.func132 (by rfl) (by kernel_rfl),aau,aat⟩
theorem NV:rL Tryz.prog 176 26 46 2 16 Z46:=
 ⟨by kernel_rfl,by kernel_rfl,ke _ (by decide),iz Tryz.func176 (by rfl) (by kernel_rfl),aas,aar⟩
theorem NU:rL Tryz.prog 177 27 36 7 72 Z36:=
 ⟨by kernel_rfl,by kernel_rfl,ke _ (by decide),iz Tryz.func177 (by rfl) (by kernel_rfl),aaq,aap⟩
theorem NS:rL Tryz.prog 178 28 40 8 80 Z40:=
 ⟨by kernel_rfl,by kernel_rfl,ke _ (by decide),iz Tryz.func178 (by rfl) (by kernel_rfl),aao,aan⟩
theorem NR:rL Tryz.prog 179 32 3 1 8 (.int .i64 0):=
 ⟨by kernel_rfl,by kernel_rfl,ke _ (by decide),iz Tryz.func179 (by rfl) (by kernel_rfl),aam,aal⟩
open Go Go.Proofs
def fI(l:List Int):List (V×V):=l.map fun s=>(vInt s,.bool true)
def oT(es:List (V×V)):List Int:=es.map fun q=>ky q.1
@[go_sem] theorem ZT(l:List Int):oT (fI l)=l:=by
  unfold oT fI
  rw[List.map_map]
  exact List.map_id _
def rD(l:List Int)(s:Int):List Int:=if l.contains s then l else l++[s]
theorem UK(l:List Int)(s:Int):ft (fI l) (vInt s)=if l.contains s then some (.bool true)else none:=by
 induction l with
 |nil=>rfl
 |cons a r ih=>
  show (if fL (vInt a) (vInt s)=true then some (V.bool true)else ft (fI r) (vInt s))=_
  rw[ih]
  by_cases h:a=s
  ·subst h;simp[fL]
  ·have h':(a==s)=false:=by simpa using h
   have hG:(s==a)=false:=by simpa using fun e=>h e.symm
   have h3:¬ s=a:=fun e=>h e.symm
   simp[fL,h',h3]
theorem CO(l:List Int)(s:Int):(ft (fI l) (vInt s)).getD (.bool false)=.bool (l.contains s):=by
 rw[UK]
 cases l.contains s<;>rfl
theorem CM(l:List Int)(s:Int):ep (fI l) (vInt s) (.bool true)=fI (rD l s):=by
 induction l with
 |nil=>rfl
 |cons a r ih=>
  show (if fL (vInt a) (vInt s)=true then(vInt s,V.bool true)::fI r else(vInt a,V.bool true)::ep (fI r) (vInt s) (.bool true))=_
  rw[ih]
  unfold rD
  by_cases h:a=s
  ·subst h;simp[fL,fI]
  ·have h':(a==s)=false:=by simpa using h
   have hG:(s==a)=false:=by simpa using fun e=>h e.symm
   simp only[fL,h',Bool.false_eq_true,if_false,List.contains_cons,hG,Bool.false_or]
   split<;>rfl
def Cr(obj:Name->Option O)(_:Name):List D->List Name
 |[_,.ref nm _]=>nm::(match obj nm with | some (.box [.map mm])=>[mm] | _=>[])
 |_=>[]
def qz(obj:Name->Option O)(_:Name):List D->R
 |[.v (.int .i64 s),.ref nm 0]=>match obj nm with
  |some (.box [.map mm])=>match obj mm with
   |some (.map 0 es)=>⟨(mm==nm)=false/\fI (oT es)=es,.v (.bool (!(oT es).contains s)),upd obj mm (some (.map 0 (fI (rD (oT es) s))))⟩
   |_=>.bad obj
  |_=>.bad obj
 |_=>.bad obj
def onceS:Spec:=⟨qz,Cr,Cr⟩
theorem Te:onceS.Near:=by
 refine sb fun obj obj2 t ds ha=>?_
 unfold Cr at ha |-
 split
 ·rename_i d nm off
  simp only at ha
  have h1:obj2 nm=obj nm:=ha nm (by simp)
  refine⟨by rw[h1],?_⟩
  have fx:∀ wr,bX wr obj obj2->cb (R.bad obj) (R.bad obj2) obj obj2 wr:=fun wr h=>.none wr h
  unfold qz
  split
  ·rename_i s kM e
   simp only[List.cons.injEq,D.ref.injEq,and_true]at e
   obtain⟨_,rfl,rfl⟩:=e
   simp only[h1]
   split at ha
   ·rename_i mm hm
    have h2:obj2 mm=obj mm:=ha mm (by simp)
    simp only[h2,hm]
    split
    ·exact .one (by simp) ha
    ·exact fx _ ha
   ·exact fx _ ha
  ·exact fx _ ha
 ·refine⟨rfl,?_⟩
  rename_i oN
  unfold qz
  split
  ·exact(oN _ _ _ rfl).elim
  ·exact .none _ (fun _ h=>by cases h)
attribute [go_sem] onceS qz
def wo:CSpec where
 pre:=fun os ds=>∃ (ss:List Int) (s:Int),os=[.box [.map [1,1]],.map 0 (fI ss)]/\ds=[.v (vInt s),.ref [0,1] 0]
 out:=fun os ds=>match os,ds with
  |[_,.map _ es],[.v (.int _ s),_]=>⟨[(1,.map 0 (fI (rD (oT es) s)))],[],.v (.bool (!(oT es).contains s))⟩
  |_,_=>⟨[],[],.any⟩
theorem Td{f:FuncId}(h:aM Tryz.prog f wo.toSpec)(aG:f≠yid):aM Tryz.prog f onceS:=by
 refine rS h Te aG fun obj t ds ab=>?_
 change (qz obj t ds).ok at ab
 refine⟨ds,rfl,fun _ _ _ _ h=>h,?_⟩
 show _/\_=(qz obj t ds).d/\_=(qz obj t ds).obj
 unfold qz at ab |-
 split at ab
 ·rename_i s nm
  split at ab
  ·rename_i mm hb
   split at ab
   ·rename_i es hm
    obtain⟨mr,oL⟩:=ab
    have D5:mm≠nm:=by simpa using mr
    have YK:(nm==mm)=false:=by simpa using fun e=>D5 e.symm
    have hr:reach obj [.v (.int .i64 s),.ref nm 0]=[nm,mm]:=by
     unfold reach
     show c6 obj (2997+1+1+1) [nm] []=[nm,mm]
     simp only[c6,cv,List.any_nil,Bool.false_eq_true,if_false,hb,jK,cA,jL,List.nil_append,List.append_nil,List.any_cons,YK,Bool.or_false,hm,List.cons_append]
    have i0:idx [nm,mm] nm=0:=by simp[idx]
    have i1:idx [nm,mm] mm=1:=by simp[idx,Ne.symm D5]
    have e1:cJ obj [.v (.int .i64 s),.ref nm 0]=[.box [.map [1,1]],.map 0 es]:=by
     unfold cJ
     rw[hr]
     simp only[List.map_cons,List.map_nil,cP,hb,hm,O.ren,D.renL,D.ren,cin,i1]
    have e2:cY obj [.v (.int .i64 s),.ref nm 0]=[.v (.int .i64 s),.ref [0,1] 0]:=by
     unfold cY
     rw[hr]
     simp only[D.renL,D.ren,cin,i0]
    have fw:wo.out [.box [.map [1,1]],.map 0 es] [.v (.int .i64 s),.ref [0,1] 0]=⟨[(1,.map 0 (fI (rD (oT es) s)))],[],.v (.bool (!(oT es).contains s))⟩:=rfl
    have dJ:wo.pre [.box [.map [1,1]],.map 0 es] [.v (.int .i64 s),.ref [0,1] 0]:=⟨oT es,s,by rw[oL],rfl⟩
    have e3:(shut obj [nm,mm]&&D.closL (cv [nm,mm]) [.v (.int .i64 s),.ref nm 0]&&fresh obj t [])=true:=by
     simp[shut,hb,hm,O.clos,D.closL,D.clos,cv,fresh]
    simp only[CSpec.toSpec,e1,e2,hr,fw,e3,dJ,hb,hm,and_self,dE,cS,D.ren,D.renL,O.ren,cout,List.getD_cons_zero,List.getD_cons_succ]
   ·exact ab.elim
  ·exact ab.elim
 ·exact ab.elim
set_option maxHeartbeats 8000000
noncomputable section
def S117:Spec:=onceS
attribute [go_sem] S117
theorem Xa:aM Tryz.prog 117 S117:=by
 refine Td ?_ (ke _ (by decide))
 refine mI (nt:=12) (rs:=[.tmp 3]) Tryz.func117 rfl (by rfl) (by kernel_rfl) (iz Tryz.func117 rfl (by kernel_rfl)) (ke _ (by decide)) ?_
 rintro os ds ⟨ss,s,rfl,rfl⟩
 refine⟨Nat.le_of_ble_eq_true rfl,?_⟩
 have fw:wo.out [.box [.map [1,1]],.map 0 (fI ss)] [.v (vInt s),.ref [0,1] 0]=⟨[(1,.map 0 (fI (rD ss s)))],[],.v (.bool (!ss.contains s))⟩:=by
  simp only[wo,ZT]
 rw[fw]
 refine gr ?_
 have hΓ:=@dT Tryz.prog
 have bD:∀ hs,bG [0] (bC [0] hs) (aS [.box [.map [1,1]],.map 0 (fI ss)])=True:=fun hs=>eq_true (lE (by
  intro o ho dom hd
  simp only[List.mem_cons,List.not_mem_nil,or_false]at ho
  rcases ho with rfl | rfl
  ·simp[O.clos,D.closL,D.clos,hd]
  ·rfl) hs)
 have h0:aS [.box [.map [1,1]],.map 0 (fI ss)] [0,1]=some (.box [.map [1,1]]):=rfl
 have h1:aS [.box [.map [1,1]],.map 0 (fI ss)] [1,1]=some (.map 0 (fI ss)):=rfl
 generalize hH:aS [.box [.map [1,1]],.map 0 (fI ss)]=H at *
 have ai:∀ hs es,bG [0] (bC [0] hs) (upd H [1,1] (some (.map 0 es)))=True:=fun hs es=>eq_true (oe rfl (by rw[bD];trivial))
 have bj:∀ hs es,bG [0] (bC [0] hs) (fun nm=>if nm=[1,1]then some (.map 0 es)else H nm)=True:=ai
 repeat refine sq ?_
 refine rx hΓ [0,1] [] (fun K' hK=>by simp only[go_sem,bD];(repeat (refine⟨ob,?_⟩));exact hK _ (by simp only[go_sem,bD]) (by simp only[go_sem,bD]<;>rfl)) ?_
 repeat refine sq ?_
 refine rx hΓ [0,1,4] [] (fun K' hK=>by simp only[go_sem,bD,h0,h1,CO];(repeat (refine⟨ob,?_⟩));exact hK _ (by simp only[go_sem,bD,h0,h1,CO]) (by simp only[go_sem,bD,h0,h1,CO]<;>rfl)) ?_
 repeat refine sq ?_
 refine rx hΓ [4] [] (fun K' hK=>by simp only[go_sem,bD,ai,bj,h0,h1,CM];(repeat (refine⟨ob,?_⟩));exact hK _ (by simp only[go_sem,bD,ai,bj,h0,h1,CM]) (by simp only[go_sem,bD,ai,bj,h0,h1,CM]<;>rfl)) ?_
 repeat refine sq ?_
 refine rx hΓ [3] [] (fun K' hK=>by simp only[go_sem,bD,ai,bj];(repeat (refine⟨ob,?_⟩));exact hK _ (by simp only[go_sem,bD,ai,bj]) (by simp only[go_sem,bD,ai,bj]<;>rfl)) ?_
 refine aq ?_
 simp only[go_sem]
 exact⟨h0,rfl⟩
def K7:List (Nat×Spec):=[(109,ab1),(111,abZ),(113,abX),(115,abV),(117,S117),(79,x8)]
theorem acf:KS K7:=tc Sh.sound<|tc Sf.sound<|tc Sd.sound<|tc Sb.sound<|tc Xa<|tc Hn.sound<|tn
attribute [go_sem] K7
def sn{α:Type}(pre:List Int)(f:α->Int)(l:List α)(i:Nat):List Int:=(l.take i).foldl (fun a x=>a++[f x]) pre
theorem lA{α:Type}(pre:List Int)(f:α->Int)(l:List α)(i:Nat):sn pre f l i=pre++(l.take i).map f:=by
 unfold sn
 generalize l.take i=k
 induction k generalizing pre with
 |nil=>simp
 |cons a r ih=>simp[ih]
theorem BK{α:Type}{pre:List Int}{f:α->Int}{l:List α}{i:Nat}(h:i<l.length)(hc:(sn pre f l i).contains (f l[i])=false):rD (sn pre f l i) (f l[i])=sn pre f l (i+1):=by
 unfold rD
 rw[hc,lA,lA,List.take_add_one,List.getElem?_eq_getElem h]
 simp only[Bool.false_eq_true,if_false,Option.toList_some,List.map_append,List.map_cons,List.map_nil,List.append_assoc]
def nq(l:List Int):Int:=l.getD (l.length-1) 0
def m7(l:Led):List Int:=l.rs.map Rec.so++l.ts.map Ret.so++l.ss.map Sig.so
structure bp (l:Led):Prop where
 ps:ja iM Pap.id l.ps=true
 psn:l.ps.length<=12
 rs:ja dG Rec.so l.rs=true
 rsn:l.rs.length<=60
 ts:ja gR Ret.so l.ts=true
 tsn:l.ts.length<=60
 ss:ja jH Sig.so l.ss=true
 ssn:l.ss.length<=60
 rl:∀ j (h:j<l.rs.length),nq l.rs[j].lv<=ei l.ps l.rs[j].pa
 sl:∀ j (h:j<l.ss.length),l.ss[j].le<=ei l.ps l.ss[j].pa
 nd:(m7 l).Nodup
open Classical in
def pj(l:Led):Bool:=decide (bp l)
theorem Ct{l:Led}:pj l=true↔bp l:=by unfold pj;exact @decide_eq_true_iff _ (Classical.propDecidable _)
def mL(l:Led):Int:=dC (pj l) 24
theorem nZ{l:Led}(h:¬ bp l):mL l=24:=by unfold mL;rw[tu Ct h];rfl
theorem N1{l:Led}(h:bp l):mL l=0:=by unfold mL;rw[Ct.2 h];rfl
def mf{α:Type}(pre:List Int)(f:α->Int)(l:List α)(i:Nat):Prop:=∀ j (h:j<l.length),j<i->(sn pre f l j).contains (f l[j])=false
theorem CD{α:Type}{pre:List Int}{f:α->Int}{l:List α}{i:Nat}(h:mf pre f l i)(hi:i<l.length)(hc:(sn pre f l i).contains (f l[i])=false):mf pre f l (i+1):=by
 intro j hj dB
 rcases Nat.lt_succ_iff_lt_or_eq.1 dB with h1 | rfl
 ·exact h j hj h1
 ·exact hc
theorem uH{α:Type}{pre:List Int}{f:α->Int}{l:List α}(hp:pre.Nodup):mf pre f l l.length↔(pre++l.map f).Nodup:=by
 constructor
 ·intro h
  rw[List.nodup_append]
  refine⟨hp,?_,?_⟩
  ·rw[List.nodup_iff_pairwise_ne,List.pairwise_map,List.pairwise_iff_getElem]
   intro i j hi hj b7 e
   have :=h j hj hj
   rw[lA]at this
   simp only[List.contains_append,Bool.or_eq_false_iff]at this
   have h2:=this.2
   have :(List.map f (List.take j l)).contains (f l[j])=true:=by
    rw[List.contains_iff_mem,List.mem_map]
    exact⟨l[i],by rw[List.mem_take_iff_getElem];exact⟨i,by omega,rfl⟩,e⟩
   rw[h2]at this;cases this
  ·intro a ha b hb e
   subst e
   obtain⟨x,hx,rfl⟩:=List.mem_map.1 hb
   obtain⟨j,hj,rfl⟩:=List.getElem_of_mem hx
   have :=h j hj hj
   rw[lA]at this
   simp only[List.contains_append,Bool.or_eq_false_iff]at this
   have h2:=this.1
   rw[List.contains_iff_mem.2 ha]at h2;cases h2
 ·intro h j hj _
  rw[List.nodup_append]at h
  obtain⟨_,h1,h2⟩:=h
  rw[lA,Bool.eq_false_iff]
  intro hc
  rw[List.contains_iff_mem,List.mem_append]at hc
  rcases hc with hc | hc
  ·exact h2 _ hc _ (List.mem_map_of_mem (List.getElem_mem hj)) rfl
  ·obtain⟨x,hx,e⟩:=List.mem_map.1 hc
   obtain⟨i,hi,rfl⟩:=List.mem_take_iff_getElem.1 hx
   rw[List.nodup_iff_pairwise_ne,List.pairwise_map,List.pairwise_iff_getElem]at h1
   exact h1 i j (by omega) hj (by omega) e
theorem I9{α:Type}{pre:List Int}{f:α->Int}{l:List α}(h:(pre++l.map f).Nodup):pre.Nodup:=(List.nodup_append.1 h).1
def H0(l:Led)(i:Nat):Prop:=∀ j (h:j<l.rs.length),j<i->nq l.rs[j].lv<=ei l.ps l.rs[j].pa
def G'(l:Led)(i:Nat):Prop:=∀ j (h:j<l.ss.length),j<i->l.ss[j].le<=ei l.ps l.ss[j].pa
theorem Gq{l:Led}(h:bp l):mf [] Rec.so l.rs l.rs.length/\mf (sn [] Rec.so l.rs l.rs.length) Ret.so l.ts l.ts.length/\mf (sn (sn [] Rec.so l.rs l.rs.length) Ret.so l.ts l.ts.length) Sig.so l.ss l.ss.length:=by
 have hn:=h.nd
 unfold m7 at hn
 have e1:sn [] Rec.so l.rs l.rs.length=l.rs.map Rec.so:=by rw[lA,List.take_length];rfl
 have e2:sn (sn [] Rec.so l.rs l.rs.length) Ret.so l.ts l.ts.length=l.rs.map Rec.so++l.ts.map Ret.so:=by rw[lA,e1,List.take_length]
 have n2:=I9 hn
 have n1:=I9 n2
 refine⟨(uH (by simp)).2 (by simpa using n1),?_,?_⟩
 ·rw[e1];exact(uH n1).2 n2
 ·rw[e2];exact(uH n2).2 hn
theorem ab8{l:Led}(h1:mf [] Rec.so l.rs l.rs.length)(h2:mf (sn [] Rec.so l.rs l.rs.length) Ret.so l.ts l.ts.length)(h3:mf (sn (sn [] Rec.so l.rs l.rs.length) Ret.so l.ts l.ts.length) Sig.so l.ss l.ss.length):(m7 l).Nodup:=by
 have e1:sn [] Rec.so l.rs l.rs.length=l.rs.map Rec.so:=by rw[lA,List.take_length];rfl
 have e2:sn (sn [] Rec.so l.rs l.rs.length) Ret.so l.ts l.ts.length=l.rs.map Rec.so++l.ts.map Ret.so:=by rw[lA,e1,List.take_length]
 have n1:(l.rs.map Rec.so).Nodup:=by simpa using(uH (pre:=[]) (by simp)).1 h1
 have n2:=(uH n1).1 (by rw[e1]at h2;exact h2)
 exact(uH n2).1 (by rw[e2]at h3;exact h3)
theorem aaF{a b c d:Bool}{p q r s:Prop}[Decidable p][Decidable q][Decidable r][Decidable s](h:(!(a&&decide p)||!(b&&decide q)||!(c&&decide r)||!(d&&decide s))=false):a=true/\p/\b=true/\q/\c=true/\r/\d=true/\s:=by
 simp only[Bool.or_eq_false_iff,Bool.not_eq_false',Bool.and_eq_true,decide_eq_true_eq]at h
 obtain⟨⟨⟨⟨h1,h2⟩,h3,h4⟩,h5,h6⟩,h7,h8⟩:=h
 exact⟨h1,h2,h3,h4,h5,h6,h7,h8⟩
theorem jC{α:Type}{fB:α->Bool}{num:α->Int}{l:List α}(h:ja fB num l=true){j:Nat}(hj:j<l.length):fB l[j]=true:=(gu.1 h j hj hj).1
theorem H5{r:Rec}(h:dG r=true):0<r.lv.length:=by
 unfold dG at h
 simp only[Bool.and_eq_true]at h
 exact(lL.1 h.1.1.2).1
@[go_sem] def P37:PSpec:=p1 iL (fun _=>True) (fun l=>vInt (mL l)) true
@[go_sem] def Gc:Spec:=P37.toSpec
theorem Rw:aL Tryz.prog 37 P37:=by
 refine dR (rs:=[.tmp 2]) Tryz.func37 Tryz.ntmps37 fun l hp hw=>?_
 have hP:=c8
 simp only[iL,dq]at hw |-
 have hΓ:=acf
 repeat refine sq ?_
 refine rs hΓ [1] [[1,0]] ?_
 repeat refine sq ?_
 refine rs hΓ [1,32] [[1,0]] ?_
 repeat refine sq ?_
 refine au (fun hb=>?_) fun hb=>?_
 ·repeat refine sq ?_
  have dk:¬ bp l:=by
   intro h
   rw[h.ps,h.rs,h.ts,h.ss]at hb
   have h1:=h.psn
   have h2:=h.rsn
   have h3:=h.tsn
   have h4:=h.ssn
   simp only[Bool.true_and,Bool.or_eq_true,Bool.not_eq_true',decide_eq_false_iff_not]at hb
   omega
  repeat refine sq ?_
  refine rs hΓ [2] [] ?_
  refine aq ?_
  simp only[go_sem]
  rw[nZ dk]
 ·repeat refine sq ?_
  obtain⟨fO,pJ,cg,gm,pF,ml,sw,wV⟩:=aaF hb
  have zw:srt Pap.id l.ps:=wq (gu.1 fO)
  have jT:l.rs.length<=maxLen:=by unfold maxLen;omega
  have fP:l.ts.length<=maxLen:=by unfold maxLen;omega
  have pN:l.ss.length<=maxLen:=by unfold maxLen;omega
  refine ay ?_
  repeat refine sq ?_
  refine rs hΓ [1,3] [[1,0],[3,0],[33,0]] ?_
  repeat refine sq ?_
  refine rs hΓ [1,4] [[1,0],[3,0],[33,0]] ?_
  repeat refine sq ?_
  refine rs hΓ [1,4,36,37,38] [[1,0],[3,0],[33,0]] ?_
  repeat refine sq ?_
  refine aC ?_
  repeat refine sq ?_
  refine bA (fun s:Nat=>[(38,⟨true,.v (vInt s)⟩)]) (fun s=>[([33,0],.map 0 (fI (sn [] Rec.so l.rs s)))]) (fun s=>s<=l.rs.length/\mf [] Rec.so l.rs s/\H0 l s) (fun s=>l.rs.length-s) 0 ?_ ?_ ?_ ?_
  ·exact⟨Nat.zero_le _,fun j _ h=>by omega,fun j _ h=>by omega⟩
  ·rfl
  ·rfl
  rintro i ⟨hi,hR,MF⟩
  simp only[go_sem]
  repeat refine sq ?_
  refine rs hΓ [1,4,36,37,38,39] [[1,0],[3,0],[33,0]] ?_
  repeat refine sq ?_
  refine au (fun hb=>?_) fun hb=>?_
  ·have aa:i<l.rs.length:=by simpa using hb
   have an:(i:Int)<l.rs.length:=by omega
   clear hb
   have hv:=H5 (jC cg aa)
   have uV:l.rs[i].lv.length<=maxLen:=by have h0:=(lL.1 (by have h:=jC cg aa;unfold dG at h;simp only[Bool.and_eq_true]at h;exact h.1.1.2:oF l.rs[i].lv=true)).2.1;unfold maxLen;omega
   have Xx:=yg (by omega:¬ l.rs[i].lv.length=0) uV
   have DP:((l.rs[i].lv.length-1:Nat):Int)<l.rs[i].lv.length:=by omega
   have zB:l.rs[i].lv.length-1<l.rs[i].lv.length:=by omega
   have xi:(l.rs[i].lv.map vInt).getD (l.rs[i].lv.length-1) default=vInt (nq l.rs[i].lv):=by unfold nq;rw[ae zB,dd zB]
   repeat refine sq ?_
   refine ay ?_
   repeat refine sq ?_
   refine aC ?_
   repeat refine sq ?_
   refine rx hΓ [1,4,6,36,37,38] [[1,0],[3,0],[6,0],[33,0]] (fun K' hK=>by simp only[go_sem,ae aa,ah,aj,an];exact fn) ?_
   repeat refine sq ?_
   refine dx hΓ hP [[],[],[1],[0,1,2],u4,u5,u6,u7,u6,[0,1,2,3,4,5,8],[0,1,2,3,4,5,8,9],[0,1,2,3,4,5,8,9,10],dS,fJ,u6,[0,1,2,3,4,5,14],[0,1,2,3,4,5,14,15],iG,gO] [1,4,36,37,38,60] [[1,0],[3,0],[33,0]] (by kernel_rfl) (fun K' hK=>by simp only[go_sem,ae aa,ah,aj,an,zw,Xx,xi,DP];exact fd) ?_
   repeat refine sq ?_
   refine au (fun hb=>?_) fun hb=>?_
   ·repeat refine sq ?_
    have dk:¬ bp l:=by
     intro h
     have h1:=(Gq h).1 i aa aa
     have h2:=h.rl i aa
     rw[h1]at hb
     simp only[Bool.not_false,Bool.not_true,Bool.false_or,decide_eq_true_eq]at hb
     omega
    repeat refine sq ?_
    refine rx hΓ [2] [] (fun K' hK=>by simp only[go_sem,ae aa,ah,aj,an];exact fn) ?_
    refine aq ?_
    simp only[go_sem]
    rw[nZ dk]
   ·repeat refine sq ?_
    have mv:(sn [] Rec.so l.rs i).contains l.rs[i].so=false:=by
     simp only[Bool.or_eq_false_iff,Bool.not_not]at hb
     exact hb.1
    have mu:nq l.rs[i].lv<=ei l.ps l.rs[i].pa:=by
     simp only[Bool.or_eq_false_iff,decide_eq_false_iff_not]at hb
     omega
    rw[BK aa mv]
    refine ay ?_
    refine br ?_
    simp only[go_sem]
    refine kp [1,4,36,37,38] [[1,0],[3,0],[33,0]] ?_
    repeat refine sq ?_
    refine aI hΓ fun K' hK=>?_
    simp only[go_sem,ae aa,ah,aj,an]
    repeat (refine⟨ob,?_⟩)
    refine hK _ ?_
    clear K' hK
    simp only[go_sem]
    refine⟨i+1,⟨aa,?_⟩,by(show l.rs.length-(i+1)<l.rs.length-i;omega),?_⟩
    ·exact⟨CD hR aa mv,fun j hj dB=>by
      rcases Nat.lt_succ_iff_lt_or_eq.1 dB with h1 | rfl
      ·exact MF j hj h1
      ·exact mu⟩
    refine aT [1,4,36,37,38] [[1,0],[3,0],[33,0]] ?_ ?_<;>simp only[go_sem,aO aa jT,aQ]
  ·have aV:i=l.rs.length:=by
    have :¬ (i:Int)<l.rs.length:=by simpa using hb
    omega
   clear hb
   subst aV
   repeat refine sq ?_
   refine be ?_
   simp only[go_sem]
   refine kp [1,4] [[1,0],[3,0],[33,0]] ?_
   repeat refine sq ?_
   refine rs hΓ [1,4,63,64,65] [[1,0],[3,0],[33,0]] ?_
   repeat refine sq ?_
   refine aC ?_
   repeat refine sq ?_
   refine bA (fun s:Nat=>[(65,⟨true,.v (vInt s)⟩)]) (fun s=>[([33,0],.map 0 (fI (sn (sn [] Rec.so l.rs l.rs.length) Ret.so l.ts s)))]) (fun s=>s<=l.ts.length/\mf (sn [] Rec.so l.rs l.rs.length) Ret.so l.ts s) (fun s=>l.ts.length-s) 0 ?_ ?_ ?_ ?_
   ·exact⟨Nat.zero_le _,fun j _ h=>by omega⟩
   ·rfl
   ·rfl
   rintro i ⟨Mj,ra⟩
   simp only[go_sem]
   repeat refine sq ?_
   refine rs hΓ [1,4,63,64,65,66] [[1,0],[3,0],[33,0]] ?_
   repeat refine sq ?_
   refine au (fun hb=>?_) fun hb=>?_
   ·have aE:i<l.ts.length:=by simpa using hb
    have bc:(i:Int)<l.ts.length:=by omega
    clear hb
    repeat refine sq ?_
    refine ay ?_
    repeat refine sq ?_
    refine aC ?_
    repeat refine sq ?_
    refine rx hΓ [1,4,8,63,64,65] [[1,0],[3,0],[8,0],[33,0]] (fun K' hK=>by simp only[go_sem,ae aE,ah,aj,bc];exact fn) ?_
    repeat refine sq ?_
    refine rx hΓ [1,4,63,64,65,73] [[1,0],[3,0],[33,0]] (fun K' hK=>by simp only[go_sem,ae aE,ah,aj,bc];exact fn) ?_
    repeat refine sq ?_
    refine au (fun hb=>?_) fun hb=>?_
    ·repeat refine sq ?_
     have dk:¬ bp l:=by
      intro h
      have h1:=(Gq h).2.1 i aE aE
      rw[h1]at hb
      cases hb
     repeat refine sq ?_
     refine rx hΓ [2] [] (fun K' hK=>by simp only[go_sem,ae aE,ah,aj,bc];exact fn) ?_
     refine aq ?_
     simp only[go_sem]
     rw[nZ dk]
    ·repeat refine sq ?_
     have mv:(sn (sn [] Rec.so l.rs l.rs.length) Ret.so l.ts i).contains l.ts[i].so=false:=by
      simpa only[Bool.not_not]using hb
     rw[BK aE mv]
     refine ay ?_
     refine br ?_
     simp only[go_sem]
     refine kp [1,4,63,64,65] [[1,0],[3,0],[33,0]] ?_
     repeat refine sq ?_
     refine aI hΓ fun K' hK=>?_
     simp only[go_sem,ae aE,ah,aj,bc]
     repeat (refine⟨ob,?_⟩)
     refine hK _ ?_
     clear K' hK
     simp only[go_sem]
     refine⟨i+1,⟨aE,?_⟩,by(show l.ts.length-(i+1)<l.ts.length-i;omega),?_⟩
     ·exact CD ra aE mv
     refine aT [1,4,63,64,65] [[1,0],[3,0],[33,0]] ?_ ?_<;>simp only[go_sem,aO aE fP,aQ]
   ·have fc:i=l.ts.length:=by
     have :¬ (i:Int)<l.ts.length:=by simpa using hb
     omega
    clear hb
    subst fc
    repeat refine sq ?_
    refine be ?_
    simp only[go_sem]
    refine kp [1,4] [[1,0],[3,0],[33,0]] ?_
    repeat refine sq ?_
    refine rs hΓ [1,4,76,77,78] [[1,0],[3,0],[33,0]] ?_
    repeat refine sq ?_
    refine aC ?_
    repeat refine sq ?_
    refine bA (fun s:Nat=>[(78,⟨true,.v (vInt s)⟩)]) (fun s=>[([33,0],.map 0 (fI (sn (sn (sn [] Rec.so l.rs l.rs.length) Ret.so l.ts l.ts.length) Sig.so l.ss s)))]) (fun s=>s<=l.ss.length/\mf (sn (sn [] Rec.so l.rs l.rs.length) Ret.so l.ts l.ts.length) Sig.so l.ss s/\G' l s) (fun s=>l.ss.length-s) 0 ?_ ?_ ?_ ?_
    ·exact⟨Nat.zero_le _,fun j _ h=>by omega,fun j _ h=>by omega⟩
    ·rfl
    ·rfl
    rintro i ⟨kW,xt,MD⟩
    simp only[go_sem]
    repeat refine sq ?_
    refine rs hΓ [1,4,76,77,78,79] [[1,0],[3,0],[33,0]] ?_
    repeat refine sq ?_
    refine au (fun hb=>?_) fun hb=>?_
    ·have cC:i<l.ss.length:=by simpa using hb
     have gF:(i:Int)<l.ss.length:=by omega
     clear hb
     repeat refine sq ?_
     refine ay ?_
     repeat refine sq ?_
     refine aC ?_
     repeat refine sq ?_
     refine rx hΓ [1,4,10,76,77,78] [[1,0],[3,0],[10,0],[33,0]] (fun K' hK=>by simp only[go_sem,ae cC,ah,aj,gF];exact fn) ?_
     repeat refine sq ?_
     refine dx hΓ hP [[],[],[1],[0,1,2],u4,u5,u6,u7,u6,[0,1,2,3,4,5,8],[0,1,2,3,4,5,8,9],cz,dS] [1,4,76,77,78,94] [[1,0],[3,0],[33,0]] (by kernel_rfl) (fun K' hK=>by simp only[go_sem,ae cC,ah,aj,gF,zw];exact fd) ?_
     repeat refine sq ?_
     refine au (fun hb=>?_) fun hb=>?_
     ·repeat refine sq ?_
      have dk:¬ bp l:=by
       intro h
       have h1:=(Gq h).2.2 i cC cC
       have h2:=h.sl i cC
       rw[h1]at hb
       simp only[Bool.not_false,Bool.not_true,Bool.false_or,decide_eq_true_eq]at hb
       omega
      repeat refine sq ?_
      refine rx hΓ [2] [] (fun K' hK=>by simp only[go_sem,ae cC,ah,aj,gF];exact fn) ?_
      refine aq ?_
      simp only[go_sem]
      rw[nZ dk]
     ·repeat refine sq ?_
      have mv:(sn (sn (sn [] Rec.so l.rs l.rs.length) Ret.so l.ts l.ts.length) Sig.so l.ss i).contains l.ss[i].so=false:=by
       simp only[Bool.or_eq_false_iff,Bool.not_not]at hb
       exact hb.1
      have mu:l.ss[i].le<=ei l.ps l.ss[i].pa:=by
       simp only[Bool.or_eq_false_iff,decide_eq_false_iff_not]at hb
       omega
      rw[BK cC mv]
      refine ay ?_
      refine br ?_
      simp only[go_sem]
      refine kp [1,4,76,77,78] [[1,0],[3,0],[33,0]] ?_
      repeat refine sq ?_
      refine aI hΓ fun K' hK=>?_
      simp only[go_sem,ae cC,ah,aj,gF]
      repeat (refine⟨ob,?_⟩)
      refine hK _ ?_
      clear K' hK
      simp only[go_sem]
      refine⟨i+1,⟨cC,?_⟩,by(show l.ss.length-(i+1)<l.ss.length-i;omega),?_⟩
      ·exact⟨CD xt cC mv,fun j hj dB=>by
        rcases Nat.lt_succ_iff_lt_or_eq.1 dB with h1 | rfl
        ·exact MD j hj h1
        ·exact mu⟩
      refine aT [1,4,76,77,78] [[1,0],[3,0],[33,0]] ?_ ?_<;>simp only[go_sem,aO cC pN,aQ]
    ·have nI:i=l.ss.length:=by
      have :¬ (i:Int)<l.ss.length:=by simpa using hb
      omega
     clear hb
     subst nI
     repeat refine sq ?_
     refine be ?_
     simp only[go_sem]
     refine kp [] [] ?_
     repeat refine sq ?_
     refine rs hΓ [2] [] ?_
     refine aq ?_
     simp only[go_sem]
     rw[N1 ⟨fO,by omega,cg,by omega,pF,by omega,sw,by omega,fun j h=>MF j h h,fun j h=>MD j h h,ab8 hR ra xt⟩]
end
set_option maxHeartbeats 8000000
noncomputable section
theorem BL{α:Type}{pre:List Int}{f:α->Int}{l:List α}{i:Nat}(h:i<l.length):sn pre f l (i+1)=sn pre f l i++[f l[i]]:=by
 rw[lA,lA,List.take_add_one,List.getElem?_eq_getElem h]
 simp only[Option.toList_some,List.map_append,List.map_cons,List.map_nil,List.append_assoc]
theorem ug{α:Type}{pre:List Int}{f:α->Int}{l:List α}{i:Nat}(h:i<=l.length):(sn pre f l i).length=pre.length+i:=by
 rw[lA,List.length_append,List.length_map,List.length_take];omega
theorem Qi(l:Led):sn (sn (sn [] Rec.so l.rs l.rs.length) Ret.so l.ts l.ts.length) Sig.so l.ss l.ss.length=m7 l:=by
 simp only[lA,List.take_length,List.nil_append,m7]
def BR(l:Led):Prop:=l.rs.length<=60/\l.ts.length<=60/\l.ss.length<=60
@[go_sem] def P125:PSpec:=p1 iL (fun l=>BR l) (fun l=>.sl ((m7 l).map vInt)) false
@[go_sem] def Gl:Spec:=P125.toSpec
theorem HC:aL Tryz.prog 125 P125:=by
 refine dR (rs:=[.tmp 2]) Tryz.func125 Tryz.ntmps125 fun l hp hw=>?_
 simp only[iL,dq]at hw |-
 have hΓ:=@dT Tryz.prog
 obtain⟨mv,mu,D2⟩:=hp
 have jT:l.rs.length<=maxLen:=by unfold maxLen;omega
 have fP:l.ts.length<=maxLen:=by unfold maxLen;omega
 have pN:l.ss.length<=maxLen:=by unfold maxLen;omega
 repeat refine sq ?_
 refine rs hΓ [1] [[1,0]] ?_
 repeat refine sq ?_
 refine rs hΓ [1,3] [[1,0],[22,0],[38,0],[54,0]] ?_
 refine bH (ql 3 [22,0] 1 (by simp only[go_sem]) (by simp only[go_sem]) [1,3] [[1,0],[22,0],[38,0],[54,0]] ?_ rfl) ?_
 ·simp only[go_sem]
 simp only[go_sem]
 repeat refine sq ?_
 refine rs hΓ [1,3,4] [[1,0],[22,0],[38,0],[54,0]] ?_
 repeat refine sq ?_
 refine aC ?_
 repeat refine sq ?_
 refine bA (fun s:Nat=>[(4,⟨true,.v (vInt s)⟩),(3,⟨true,.msl [22,0] (sn [] Rec.so l.rs s).length⟩)]) (fun s=>[([22,0],.arr 1 ((sn [] Rec.so l.rs s).map vInt))]) (fun s=>s<=l.rs.length) (fun s=>l.rs.length-s) 0 ?_ ?_ ?_ ?_
 ·exact Nat.zero_le _
 ·rfl
 ·rfl
 rintro i hi
 simp only[go_sem]
 repeat refine sq ?_
 refine rs hΓ [1,3,4,11] [[1,0],[22,0],[38,0],[54,0]] ?_
 repeat refine sq ?_
 refine au (fun hb=>?_) fun hb=>?_
 ·have aa:i<l.rs.length:=by simpa using hb
  have an:(i:Int)<l.rs.length:=by omega
  clear hb
  have iU:(sn [] Rec.so l.rs i).length=i:=by rw[ug (by omega)];simp
  repeat refine sq ?_
  refine ay ?_
  repeat refine sq ?_
  refine aC ?_
  repeat refine sq ?_
  refine aI hΓ fun K' hK=>?_
  simp only[go_sem,ae aa,ah,aj,an]
  repeat (refine⟨ob,?_⟩)
  refine hK _ ?_
  clear K' hK
  simp only[go_sem]
  refine kp [1,3,4] [[1,0],[22,0],[38,0],[54,0]] ?_
  repeat refine sq ?_
  refine aI hΓ fun K' hK=>?_
  simp only[go_sem,ae aa,ah,aj,an]
  repeat (refine⟨ob,?_⟩)
  refine hK _ ?_
  clear K' hK
  simp only[go_sem]
  refine⟨i+1,aa,by(show l.rs.length-(i+1)<l.rs.length-i;omega),?_⟩
  refine aT [1,3,4] [[1,0],[22,0],[38,0],[54,0]] ?_ ?_<;>simp only[go_sem,aO aa jT,aQ,BL aa,List.map_append,List.length_append,List.map_cons,List.map_nil,List.length_cons,List.length_nil]
 ·have aV:i=l.rs.length:=by
   have :¬ (i:Int)<l.rs.length:=by simpa using hb
   omega
  clear hb
  subst aV
  repeat refine sq ?_
  refine be ?_
  simp only[go_sem]
  refine kp [1,3] [[1,0],[22,0],[38,0],[54,0]] ?_
  repeat refine sq ?_
  refine rs hΓ [1,3,5] [[1,0],[22,0],[38,0],[54,0]] ?_
  repeat refine sq ?_
  refine aC ?_
  repeat refine sq ?_
  refine bA (fun s:Nat=>[(5,⟨true,.v (vInt s)⟩),(3,⟨true,.msl [22,0] (sn (sn [] Rec.so l.rs l.rs.length) Ret.so l.ts s).length⟩)]) (fun s=>[([22,0],.arr 1 ((sn (sn [] Rec.so l.rs l.rs.length) Ret.so l.ts s).map vInt))]) (fun s=>s<=l.ts.length) (fun s=>l.ts.length-s) 0 ?_ ?_ ?_ ?_
  ·exact Nat.zero_le _
  ·rfl
  ·rfl
  rintro i hi
  simp only[go_sem]
  repeat refine sq ?_
  refine rs hΓ [1,3,5,27] [[1,0],[22,0],[38,0],[54,0]] ?_
  repeat refine sq ?_
  refine au (fun hb=>?_) fun hb=>?_
  ·have aE:i<l.ts.length:=by simpa using hb
   have bc:(i:Int)<l.ts.length:=by omega
   clear hb
   have iU:(sn (sn [] Rec.so l.rs l.rs.length) Ret.so l.ts i).length=l.rs.length+i:=by rw[ug (by omega),ug (Nat.le_refl _)];simp
   repeat refine sq ?_
   refine ay ?_
   repeat refine sq ?_
   refine aC ?_
   repeat refine sq ?_
   refine aI hΓ fun K' hK=>?_
   simp only[go_sem,ae aE,ah,aj,bc]
   repeat (refine⟨ob,?_⟩)
   refine hK _ ?_
   clear K' hK
   simp only[go_sem]
   refine kp [1,3,5] [[1,0],[22,0],[38,0],[54,0]] ?_
   repeat refine sq ?_
   refine aI hΓ fun K' hK=>?_
   simp only[go_sem,ae aE,ah,aj,bc]
   repeat (refine⟨ob,?_⟩)
   refine hK _ ?_
   clear K' hK
   simp only[go_sem]
   refine⟨i+1,aE,by(show l.ts.length-(i+1)<l.ts.length-i;omega),?_⟩
   refine aT [1,3,5] [[1,0],[22,0],[38,0],[54,0]] ?_ ?_<;>simp only[go_sem,aO aE fP,aQ,BL aE,List.map_append,List.length_append,List.map_cons,List.map_nil,List.length_cons,List.length_nil]
  ·have fc:i=l.ts.length:=by
    have :¬ (i:Int)<l.ts.length:=by simpa using hb
    omega
   clear hb
   subst fc
   repeat refine sq ?_
   refine be ?_
   simp only[go_sem]
   refine kp [1,3] [[1,0],[22,0],[38,0],[54,0]] ?_
   repeat refine sq ?_
   refine rs hΓ [1,3,6] [[1,0],[22,0],[38,0],[54,0]] ?_
   repeat refine sq ?_
   refine aC ?_
   repeat refine sq ?_
   refine bA (fun s:Nat=>[(6,⟨true,.v (vInt s)⟩),(3,⟨true,.msl [22,0] (sn (sn (sn [] Rec.so l.rs l.rs.length) Ret.so l.ts l.ts.length) Sig.so l.ss s).length⟩)]) (fun s=>[([22,0],.arr 1 ((sn (sn (sn [] Rec.so l.rs l.rs.length) Ret.so l.ts l.ts.length) Sig.so l.ss s).map vInt))]) (fun s=>s<=l.ss.length) (fun s=>l.ss.length-s) 0 ?_ ?_ ?_ ?_
   ·exact Nat.zero_le _
   ·rfl
   ·rfl
   rintro i hi
   simp only[go_sem]
   repeat refine sq ?_
   refine rs hΓ [1,3,6,43] [[1,0],[22,0],[38,0],[54,0]] ?_
   repeat refine sq ?_
   refine au (fun hb=>?_) fun hb=>?_
   ·have cC:i<l.ss.length:=by simpa using hb
    have gF:(i:Int)<l.ss.length:=by omega
    clear hb
    have iU:(sn (sn (sn [] Rec.so l.rs l.rs.length) Ret.so l.ts l.ts.length) Sig.so l.ss i).length=l.rs.length+l.ts.length+i:=by rw[ug (by omega),ug (Nat.le_refl _),ug (Nat.le_refl _)];simp
    repeat refine sq ?_
    refine ay ?_
    repeat refine sq ?_
    refine aC ?_
    repeat refine sq ?_
    refine aI hΓ fun K' hK=>?_
    simp only[go_sem,ae cC,ah,aj,gF]
    repeat (refine⟨ob,?_⟩)
    refine hK _ ?_
    clear K' hK
    simp only[go_sem]
    refine kp [1,3,6] [[1,0],[22,0],[38,0],[54,0]] ?_
    repeat refine sq ?_
    refine aI hΓ fun K' hK=>?_
    simp only[go_sem,ae cC,ah,aj,gF]
    repeat (refine⟨ob,?_⟩)
    refine hK _ ?_
    clear K' hK
    simp only[go_sem]
    refine⟨i+1,cC,by(show l.ss.length-(i+1)<l.ss.length-i;omega),?_⟩
    refine aT [1,3,6] [[1,0],[22,0],[38,0],[54,0]] ?_ ?_<;>simp only[go_sem,aO cC pN,aQ,BL cC,List.map_append,List.length_append,List.map_cons,List.map_nil,List.length_cons,List.length_nil]
   ·have nI:i=l.ss.length:=by
     have :¬ (i:Int)<l.ss.length:=by simpa using hb
     omega
    clear hb
    subst nI
    repeat refine sq ?_
    refine be ?_
    simp only[go_sem]
    refine kp [3] [[22,0],[38,0],[54,0]] ?_
    repeat refine sq ?_
    refine rs hΓ [2] [[22,0],[38,0],[54,0]] ?_
    refine aq ?_
    simp only[go_sem]
    rw[Qi]
@[go_sem] def P156:PSpec:=p1 cm (fun _=>True) (fun l=>.bool (decide l.Nodup)) true
@[go_sem] def abJ:Spec:=P156.toSpec
theorem RZ:aL Tryz.prog 156 P156:=by
 refine dR (rs:=[.tmp 2]) Tryz.func156 Tryz.ntmps156 fun l hp hw=>?_
 have hP:=c8
 simp only[cm]at hw |-
 have hΓ:=@dT Tryz.prog
 have hl:l.length<=maxLen:=by have:=hw.1.1;simpa using this
 repeat refine sq ?_
 refine rs hΓ [0] [] ?_
 repeat refine sq ?_
 refine rs hΓ [0,3] [] ?_
 repeat refine sq ?_
 refine aC ?_
 repeat refine sq ?_
 refine bA (fun s:Nat=>[(3,⟨true,.v (vInt s)⟩)]) (fun s=>[]) (fun s=>s<=l.length/\∀ a b (ha:a<l.length) (hb:b<l.length),a<s->b<a->l[b]≠l[a]) (fun s=>l.length-s) 0 ?_ ?_ ?_ ?_
 ·exact⟨Nat.zero_le _,fun a b _ _ h=>by omega⟩
 ·rfl
 ·rfl
 rintro i ⟨hi,hR⟩
 simp only[go_sem]
 repeat refine sq ?_
 refine rs hΓ [0,3,8] [] ?_
 repeat refine sq ?_
 refine au (fun hb=>?_) fun hb=>?_
 ·have aa:i<l.length:=by simpa using hb
  have an:(i:Int)<l.length:=by omega
  clear hb
  repeat refine sq ?_
  refine ay ?_
  repeat refine sq ?_
  refine aC ?_
  repeat refine sq ?_
  refine rx hΓ [0,3,4] [] (fun K' hK=>by simp only[go_sem,ae aa,ah,aj,an];exact fn) ?_
  repeat refine sq ?_
  refine aC ?_
  repeat refine sq ?_
  refine bA (fun s:Nat=>[(4,⟨true,.v (vInt s)⟩)]) (fun s=>[]) (fun s=>s<=i/\∀ b (hb:b<l.length),b<s->l[b]≠l[i]) (fun s=>i-s) 0 ?_ ?_ ?_ ?_
  ·exact⟨Nat.zero_le _,fun b _ h=>by omega⟩
  ·rfl
  ·rfl
  rintro k ⟨Mj,ra⟩
  simp only[go_sem]
  repeat refine sq ?_
  refine rx hΓ [0,3,4,13] [] (fun K' hK=>by simp only[go_sem,ae aa,ah,aj,an];exact fn) ?_
  repeat refine sq ?_
  refine au (fun hb=>?_) fun hb=>?_
  ·have aE:k<i:=by simpa using hb
   have bc:(k:Int)<i:=by omega
   clear hb
   have gX:(k:Int)<l.length:=by omega
   repeat refine sq ?_
   refine ay ?_
   repeat refine sq ?_
   refine aC ?_
   repeat refine sq ?_
   refine dx hΓ hP [[],[],[0,1],[0,1,2],[],[],[4,5],[4,5,6],u8] [0,3,4,24] [] (by kernel_rfl) (fun K' hK=>by simp only[go_sem,ae aa,ah,aj,an,ae aa,ae (show k<l.length by omega),ah,aj,an,gX];exact fd) ?_
   repeat refine sq ?_
   refine au (fun hb=>?_) fun hb=>?_
   ·repeat refine sq ?_
    have dk:¬ l.Nodup:=by
     intro h
     rw[List.nodup_iff_pairwise_ne,List.pairwise_iff_getElem]at h
     exact h k i (by omega) aa aE (by simpa using(by simpa using hb:l[i]=l[k]).symm)
    repeat refine sq ?_
    refine rx hΓ [2] [] (fun K' hK=>by simp only[go_sem,ae aa,ah,aj,an,ae aa,ae (show k<l.length by omega),ah,aj,an,gX];exact fn) ?_
    refine aq ?_
    simp only[go_sem]
    simp[dk]
   ·repeat refine sq ?_
    refine ay ?_
    refine br ?_
    simp only[go_sem]
    refine kp [0,3,4] [] ?_
    repeat refine sq ?_
    refine aI hΓ fun K' hK=>?_
    simp only[go_sem,ae aa,ah,aj,an,ae aa,ae (show k<l.length by omega),ah,aj,an,gX]
    repeat (refine⟨ob,?_⟩)
    refine hK _ ?_
    clear K' hK
    simp only[go_sem]
    refine⟨k+1,⟨aE,?_⟩,by(show i-(k+1)<i-k;omega),?_⟩
    ·intro b js aP
     rcases Nat.lt_succ_iff_lt_or_eq.1 aP with h1 | rfl
     ·exact ra b js h1
     ·intro e;rw[e]at hb;simp at hb
    refine aT [0,3,4] [] ?_ ?_<;>simp only[go_sem,aO aE (by omega),aQ]
  ·have fc:k=i:=by
    have :¬ (k:Int)<i:=by simpa using hb
    omega
   clear hb
   skip
   repeat refine sq ?_
   refine be ?_
   simp only[go_sem]
   refine kp [0,3] [] ?_
   repeat refine sq ?_
   refine aI hΓ fun K' hK=>?_
   simp only[go_sem,ae aa,ah,aj,an]
   repeat (refine⟨ob,?_⟩)
   refine hK _ ?_
   clear K' hK
   simp only[go_sem]
   refine⟨i+1,⟨aa,?_⟩,by(show l.length-(i+1)<l.length-i;omega),?_⟩
   ·intro a b ha js YS YL
    rcases Nat.lt_succ_iff_lt_or_eq.1 YS with h1 | rfl
    ·exact hR a b ha js h1 YL
    ·exact ra b js (by omega)
   refine aT [0,3] [] ?_ ?_<;>simp only[go_sem,aO aa hl,aQ]
 ·have aV:i=l.length:=by
   have :¬ (i:Int)<l.length:=by simpa using hb
   omega
  clear hb
  subst aV
  repeat refine sq ?_
  refine be ?_
  simp only[go_sem]
  refine kp [] [] ?_
  repeat refine sq ?_
  refine rs hΓ [2] [] ?_
  refine aq ?_
  simp only[go_sem]
  have Ew:l.Nodup:=by
   rw[List.nodup_iff_pairwise_ne,List.pairwise_iff_getElem]
   exact fun a b ha hb oO=>hR b a hb ha hb oO
  simp[Ew]
def K8a:List (Nat×Spec):=[(146,tH),(84,F9)]
theorem ace:KS K8a:=tc uq.sound<|tc Hm.sound<|tn
attribute [go_sem] K8a
def qM(l:Led)(pa le:Int):Bool:=bT le 1 (ei l.ps pa)
structure Fol where
 (pa le:Int)
 deriving Inhabited,DecidableEq
def ea(f:Fol):V:=.agg [vInt f.pa,vInt f.le]
def Ax:V->Fol
 | .agg [.int _ a,.int _ b]=>⟨a,b⟩
 |_=>default
def iQ:En Fol:=⟨ea,Ax⟩
attribute [go_sem] ea Ax iQ
@[go_sem] theorem eR(p:Fol):(⟨p.pa,p.le⟩:Fol)=p:=rfl
@[go_sem] def P100:PSpec:=p2 iL iQ (fun _ _=>True) (fun l f=>.bool (qM l f.pa f.le)) true
@[go_sem] def Gm:Spec:=P100.toSpec
theorem Sj:aL Tryz.prog 100 P100:=by
 refine cK (rs:=[.tmp 4]) Tryz.func100 Tryz.ntmps100 fun l f hp hw=>?_
 have hP:=c8
 simp only[iQ,iL,ea,dq]at hw |-
 have hΓ:=ace
 repeat refine sq ?_
 refine rs hΓ [2,3] [[2,0],[3,0]] ?_
 repeat refine sq ?_
 refine dx hΓ hP [[],[0],[],[],[3],[2,3,4],u6,u7] [4] [] (by kernel_rfl) (fun K' hK=>by simp only[go_sem];exact fd) ?_
 refine aq ?_
 simp only[go_sem]
 all_goals first | rfl | (simp;done) | (grind [qM];done)
end
noncomputable section
def K9:List (Nat×Spec):=[(62,S62),(64,S64),(66,S66),(68,O2),(100,Gm),(125,Gl),(156,abJ)]
theorem acd:KS K9:=tc Rm.sound<|tc Rk.sound<|tc Ri.sound<|tc Rf.sound<|tc Sj.sound<|tc HC.sound<|tc RZ.sound<|tn
attribute [go_sem] K9
theorem Vj(r:Rec)(hl:r.lv.length<=maxLen):∃ kd x,(r.lv.map vInt).getD (IntKind.i64.wrap ((r.lv.length:Int)-1)).toNat default=.int kd x/\
 (dG r=true->kd=.i64/\x=nq r.lv/\0<=IntKind.i64.wrap ((r.lv.length:Int)-1)/\IntKind.i64.wrap ((r.lv.length:Int)-1)<r.lv.length):=by
 by_cases h:r.lv.length=0
 ·have e:r.lv=[]:=List.length_eq_zero_iff.1 h
  refine⟨default,default,?_,fun hb=>?_⟩
  ·rw[e];rfl
  ·have:=H5 hb;omega
 ·have hw:=yg h hl
  have h2:r.lv.length-1<r.lv.length:=by omega
  refine⟨.i64,nq r.lv,?_,fun _=>⟨rfl,rfl,?_⟩⟩
  ·rw[hw,ah,ae h2]
   unfold nq
   rw[dd h2]
  ·rw[hw];omega
theorem Vk{l:List Int}(h:oF l=true):1<=nq l:=by
 obtain⟨h1,_,_,h4⟩:=lL.1 h
 have h2:l.length-1<l.length:=by omega
 have :=h4 _ h2
 unfold nq
 rw[dd h2]
 unfold bT at this
 simp only[Bool.and_eq_true,decide_eq_true_eq]at this
 exact this.1
theorem Cf{r:Rec}(h:dG r=true):oF r.lv=true:=by
 unfold dG at h
 simp only[Bool.and_eq_true]at h
 exact h.1.1.2
theorem S'{a b c d:Int}{n m o p:Int}(h:(decide (a>n)||decide (b>m)||decide (c>o)||decide (d>p))=false):a<=n/\b<=m/\c<=o/\d<=p:=by
 simp only[Bool.or_eq_false_iff,decide_eq_false_iff_not]at h
 omega
@[go_sem] def P69:PSpec:=p1 iL (fun _=>True) (fun l=>vInt (mL l)) true
@[go_sem] def Gb:Spec:=P69.toSpec
set_option maxHeartbeats 8000000 in
theorem Re:aL Tryz.prog 69 P69:=by
 refine dR (rs:=[.tmp 2]) Tryz.func69 Tryz.ntmps69 fun l hp hw=>?_
 have hP:=c8
 simp only[iL,dq]at hw |-
 have hΓ:=acd
 repeat refine sq ?_
 refine rs hΓ [1] [[1,0]] ?_
 repeat refine sq ?_
 refine rs hΓ [1,30] [[1,0]] ?_
 repeat refine sq ?_
 refine au (fun hb=>?_) fun hb=>?_
 ·repeat refine sq ?_
  have dk:¬ bp l:=by
   intro h
   have h1:=h.psn
   have h2:=h.rsn
   have h3:=h.tsn
   have h4:=h.ssn
   simp only[Bool.or_eq_true,decide_eq_true_eq]at hb
   omega
  repeat refine sq ?_
  refine rs hΓ [2] [] ?_
  refine aq ?_
  simp only[go_sem]
  rw[nZ dk]
 ·repeat refine sq ?_
  obtain⟨pJ,gm,ml,wV⟩:=S' hb
  have L7:l.ps.length<=maxLen:=by unfold maxLen;omega
  have jT:l.rs.length<=maxLen:=by unfold maxLen;omega
  have fP:l.ts.length<=maxLen:=by unfold maxLen;omega
  have pN:l.ss.length<=maxLen:=by unfold maxLen;omega
  have ie:BR l:=⟨by omega,by omega,by omega⟩
  clear hb
  refine ay ?_
  repeat refine sq ?_
  refine rs hΓ [1,3] [[1,0]] ?_
  repeat refine sq ?_
  refine aC ?_
  repeat refine sq ?_
  refine bA (fun s:Nat=>[(3,⟨true,.v (vInt s)⟩)]) (fun s=>[]) (fun s=>s<=l.ps.length/\kL iM Pap.id l.ps s) (fun s=>l.ps.length-s) 0 ?_ ?_ ?_ ?_
  ·exact⟨Nat.zero_le _,qA⟩
  ·rfl
  ·rfl
  rintro i ⟨hi,hR⟩
  simp only[go_sem]
  repeat refine sq ?_
  refine rs hΓ [1,3,35] [[1,0]] ?_
  repeat refine sq ?_
  refine au (fun hb=>?_) fun hb=>?_
  ·have aa:i<l.ps.length:=by simpa using hb
   have an:(i:Int)<l.ps.length:=by omega
   clear hb
   obtain⟨p,hp,gW,bW⟩:=ph aa L7
   repeat refine sq ?_
   refine ay ?_
   repeat refine sq ?_
   refine aC ?_
   repeat refine sq ?_
   refine dx hΓ hP [[],[0],[],[0,1,2],u4,u5,u6,u7,u8,u9,bI,cz,dS,cz,[0,1,2,3,4,5,6,7,8,9,10,13],lx,u16,iG,cz,[0,1,2,3,4,5,6,7,8,9,10,18],cz,[0,1,2,3,4,5,6,7,8,9,10,18,19,20],[0,1,2,3,4,5,6,7,8,9,10,18,19,20,21],[0,1,2,3,4,5,6,7,8,9,10,18,19,20,21,22],vQ,qo,vP] [1,3,64] [[1,0]] (by kernel_rfl) (fun K' hK=>by simp only[go_sem,ae aa,ah,aj,an,hp,ae gW,fun b=>p7 b 20 (by decide)];(repeat (refine⟨by first | exact ob | (intro h;have:=bW (by simp_all);simp_all;done),?_⟩));exact iw) ?_
   repeat refine sq ?_
   refine au (fun hb=>?_) fun hb=>?_
   ·repeat refine sq ?_
    have dk:¬ bp l:=by
     intro h
     obtain⟨h1,h2⟩:=gu.1 h.ps i aa aa
     simp only[h1,Bool.not_true,Bool.false_or,Bool.and_eq_true,decide_eq_true_eq]at hb
     obtain⟨e,_⟩:=bW (by omega)
     subst e
     have :=h2 (by omega)
     have :=hb.2
     omega
    repeat refine sq ?_
    refine rx hΓ [2] [] (fun K' hK=>by simp only[go_sem,ae aa,ah,aj,an];exact fn) ?_
    refine aq ?_
    simp only[go_sem]
    rw[nZ dk]
   ·repeat refine sq ?_
    have hn:iM l.ps[i]=true/\(0<i->Pap.id l.ps[i-1] <Pap.id l.ps[i]):=by
     simp only[Bool.or_eq_false_iff,Bool.not_eq_false',Bool.and_eq_false_iff,decide_eq_false_iff_not]at hb
     refine⟨hb.1,fun h=>?_⟩
     obtain⟨e,_⟩:=bW h
     subst e
     omega
    refine ay ?_
    refine br ?_
    simp only[go_sem]
    refine kp [1,3] [[1,0]] ?_
    repeat refine sq ?_
    refine aI hΓ fun K' hK=>?_
    simp only[go_sem,ae aa,ah,aj,an]
    repeat (refine⟨ob,?_⟩)
    refine hK _ ?_
    clear K' hK
    simp only[go_sem]
    refine⟨i+1,⟨aa,?_⟩,by(show l.ps.length-(i+1)<l.ps.length-i;omega),?_⟩
    ·exact qB hR aa hn
    refine aT [1,3] [[1,0]] ?_ ?_<;>simp only[go_sem,aO aa L7,aQ]
  ·have aV:i=l.ps.length:=by
    have :¬ (i:Int)<l.ps.length:=by simpa using hb
    omega
   clear hb
   subst aV
   repeat refine sq ?_
   refine be ?_
   simp only[go_sem]
   refine kp [1] [[1,0]] ?_
   repeat refine sq ?_
   refine rs hΓ [1,4] [[1,0]] ?_
   repeat refine sq ?_
   refine aC ?_
   repeat refine sq ?_
   refine bA (fun s:Nat=>[(4,⟨true,.v (vInt s)⟩)]) (fun s=>[]) (fun s=>s<=l.rs.length/\kL dG Rec.so l.rs s/\H0 l s) (fun s=>l.rs.length-s) 0 ?_ ?_ ?_ ?_
   ·exact⟨Nat.zero_le _,qA,fun j _ h=>by omega⟩
   ·rfl
   ·rfl
   rintro i ⟨Mj,ra,ME⟩
   simp only[go_sem]
   repeat refine sq ?_
   refine rs hΓ [1,4,69] [[1,0]] ?_
   repeat refine sq ?_
   refine au (fun hb=>?_) fun hb=>?_
   ·have aE:i<l.rs.length:=by simpa using hb
    have bc:(i:Int)<l.rs.length:=by omega
    clear hb
    obtain⟨p,hp,gW,bW⟩:=ph aE jT
    have uV:l.rs[i].lv.length<=maxLen:=by
     have h1:=Bv hw _ (List.mem_singleton.2 rfl)
     simp only[V.wf,V.wfL]at h1
     have h2:=Bv h1.2.1.2 (encR l.rs[i]) (List.mem_map_of_mem (List.getElem_mem aE))
     simp only[encR,V.wf,V.wfL,List.length_map]at h2
     exact h2.2.2.2.1.1
    obtain⟨kd,x,xi,Eg⟩:=Vj l.rs[i] uV
    repeat refine sq ?_
    refine ay ?_
    repeat refine sq ?_
    refine aC ?_
    repeat refine sq ?_
    refine rx hΓ [1,4,5] [[1,0],[5,0]] (fun K' hK=>by simp only[go_sem,ae aE,ah,aj,bc];exact fn) ?_
    repeat refine sq ?_
    refine dx hΓ hP [[],[0],[0,1],[0,1,2],u4,u5,u6,u7,u8,u7,[0,1,2,3,4,5,6,9],cz,dS,fJ,u7,[0,1,2,3,4,5,6,14],u16,iG,gO,l7,gN,gN,[0,1,2,3,4,5,6,7,8,9,10,11,12,13,14,15,16,17,18,19,21],gN,[0,1,2,3,4,5,6,7,8,9,10,11,12,13,14,15,16,17,18,19,23],gN,[0,1,2,3,4,5,6,7,8,9,10,11,12,13,14,15,16,17,18,19,25],[0,1,2,3,4,5,6,7,8,9,10,11,12,13,14,15,16,17,18,19,25,26],[0,1,2,3,4,5,6,7,8,9,10,11,12,13,14,15,16,17,18,19,25,26,27],[0,1,2,3,4,5,6,7,8,9,10,11,12,13,14,15,16,17,18,19,23,24,25,26,27,28],[0,1,2,3,4,5,6,7,8,9,10,11,12,13,14,15,16,17,18,19,23,24,25,26,27,28,29],[0,1,2,3,4,5,6,7,8,9,10,11,12,13,14,15,16,17,18,19,21,22,23,24,25,26,27,28,29,30],u32,yl,Bz] [1,4,111] [[1,0]] (by kernel_rfl) (fun K' hK=>by simp only[go_sem,ae aE,ah,aj,bc,hp,ae gW,fun b=>p7 b 21 (by decide),xi];(repeat (refine⟨by first | exact ob | (intro h;have:=bW (by simp_all);simp_all;done) | (intro h;have:=Eg (by simp_all);simp_all;done),?_⟩));exact iw) ?_
    repeat refine sq ?_
    refine au (fun hb=>?_) fun hb=>?_
    ·repeat refine sq ?_
     have dk:¬ bp l:=by
      intro h
      obtain⟨h1,h2⟩:=gu.1 h.rs i aE aE
      obtain⟨_,h4,_⟩:=Eg h1
      have h5:=h.rl i aE
      have h6:=Vk (Cf h1)
      have h7:qM l l.rs[i].pa x=true:=by unfold qM bT;simp only[Bool.and_eq_true,decide_eq_true_eq];omega
      simp only[h1,h7,Bool.not_true,Bool.false_or,Bool.or_false,Bool.and_eq_true,decide_eq_true_eq]at hb
      obtain⟨e,_⟩:=bW (by omega)
      subst e
      have :=h2 (by omega)
      have :=hb.2
      omega
     repeat refine sq ?_
     refine rx hΓ [2] [] (fun K' hK=>by simp only[go_sem,ae aE,ah,aj,bc];exact fn) ?_
     refine aq ?_
     simp only[go_sem]
     rw[nZ dk]
    ·repeat refine sq ?_
     have hn:dG l.rs[i]=true/\(0<i->Rec.so l.rs[i-1] <Rec.so l.rs[i]):=by
      simp only[Bool.or_eq_false_iff,Bool.not_eq_false',Bool.and_eq_false_iff,decide_eq_false_iff_not]at hb
      refine⟨hb.1.1,fun h=>?_⟩
      obtain⟨e,_⟩:=bW h
      subst e
      omega
     have mu:nq l.rs[i].lv<=ei l.ps l.rs[i].pa:=by
      obtain⟨_,h4,_⟩:=Eg hn.1
      simp only[Bool.or_eq_false_iff,Bool.not_eq_false']at hb
      have :=hb.2
      unfold qM bT at this
      simp only[Bool.and_eq_true,decide_eq_true_eq]at this
      omega
     refine ay ?_
     refine br ?_
     simp only[go_sem]
     refine kp [1,4] [[1,0]] ?_
     repeat refine sq ?_
     refine aI hΓ fun K' hK=>?_
     simp only[go_sem,ae aE,ah,aj,bc]
     repeat (refine⟨ob,?_⟩)
     refine hK _ ?_
     clear K' hK
     simp only[go_sem]
     refine⟨i+1,⟨aE,?_⟩,by(show l.rs.length-(i+1)<l.rs.length-i;omega),?_⟩
     ·exact⟨qB ra aE hn,fun j hj dB=>by
       rcases Nat.lt_succ_iff_lt_or_eq.1 dB with h1 | rfl
       ·exact ME j hj h1
       ·exact mu⟩
     refine aT [1,4] [[1,0]] ?_ ?_<;>simp only[go_sem,aO aE jT,aQ]
   ·have fc:i=l.rs.length:=by
     have :¬ (i:Int)<l.rs.length:=by simpa using hb
     omega
    clear hb
    subst fc
    repeat refine sq ?_
    refine be ?_
    simp only[go_sem]
    refine kp [1] [[1,0]] ?_
    repeat refine sq ?_
    refine rs hΓ [1,6] [[1,0]] ?_
    repeat refine sq ?_
    refine aC ?_
    repeat refine sq ?_
    refine bA (fun s:Nat=>[(6,⟨true,.v (vInt s)⟩)]) (fun s=>[]) (fun s=>s<=l.ts.length/\kL gR Ret.so l.ts s) (fun s=>l.ts.length-s) 0 ?_ ?_ ?_ ?_
    ·exact⟨Nat.zero_le _,qA⟩
    ·rfl
    ·rfl
    rintro i ⟨kW,xt⟩
    simp only[go_sem]
    repeat refine sq ?_
    refine rs hΓ [1,6,116] [[1,0]] ?_
    repeat refine sq ?_
    refine au (fun hb=>?_) fun hb=>?_
    ·have cC:i<l.ts.length:=by simpa using hb
     have gF:(i:Int)<l.ts.length:=by omega
     clear hb
     obtain⟨p,hp,gW,bW⟩:=ph cC fP
     repeat refine sq ?_
     refine ay ?_
     repeat refine sq ?_
     refine aC ?_
     repeat refine sq ?_
     refine dx hΓ hP [[],[0],[],[0,1,2],u4,u5,u6,u7,u8,u9,bI,cz,dS,cz,[0,1,2,3,4,5,6,7,8,9,10,13],lx,u16,iG,cz,[0,1,2,3,4,5,6,7,8,9,10,18],cz,[0,1,2,3,4,5,6,7,8,9,10,18,19,20],[0,1,2,3,4,5,6,7,8,9,10,18,19,20,21],[0,1,2,3,4,5,6,7,8,9,10,18,19,20,21,22],vQ,qo,vP] [1,6,145] [[1,0]] (by kernel_rfl) (fun K' hK=>by simp only[go_sem,ae cC,ah,aj,gF,hp,ae gW,fun b=>p7 b 22 (by decide)];(repeat (refine⟨by first | exact ob | (intro h;have:=bW (by simp_all);simp_all;done),?_⟩));exact iw) ?_
     repeat refine sq ?_
     refine au (fun hb=>?_) fun hb=>?_
     ·repeat refine sq ?_
      have dk:¬ bp l:=by
       intro h
       obtain⟨h1,h2⟩:=gu.1 h.ts i cC cC
       simp only[h1,Bool.not_true,Bool.false_or,Bool.and_eq_true,decide_eq_true_eq]at hb
       obtain⟨e,_⟩:=bW (by omega)
       subst e
       have :=h2 (by omega)
       have :=hb.2
       omega
      repeat refine sq ?_
      refine rx hΓ [2] [] (fun K' hK=>by simp only[go_sem,ae cC,ah,aj,gF];exact fn) ?_
      refine aq ?_
      simp only[go_sem]
      rw[nZ dk]
     ·repeat refine sq ?_
      have hn:gR l.ts[i]=true/\(0<i->Ret.so l.ts[i-1] <Ret.so l.ts[i]):=by
       simp only[Bool.or_eq_false_iff,Bool.not_eq_false',Bool.and_eq_false_iff,decide_eq_false_iff_not]at hb
       refine⟨hb.1,fun h=>?_⟩
       obtain⟨e,_⟩:=bW h
       subst e
       omega
      refine ay ?_
      refine br ?_
      simp only[go_sem]
      refine kp [1,6] [[1,0]] ?_
      repeat refine sq ?_
      refine aI hΓ fun K' hK=>?_
      simp only[go_sem,ae cC,ah,aj,gF]
      repeat (refine⟨ob,?_⟩)
      refine hK _ ?_
      clear K' hK
      simp only[go_sem]
      refine⟨i+1,⟨cC,?_⟩,by(show l.ts.length-(i+1)<l.ts.length-i;omega),?_⟩
      ·exact qB xt cC hn
      refine aT [1,6] [[1,0]] ?_ ?_<;>simp only[go_sem,aO cC fP,aQ]
    ·have nI:i=l.ts.length:=by
      have :¬ (i:Int)<l.ts.length:=by simpa using hb
      omega
     clear hb
     subst nI
     repeat refine sq ?_
     refine be ?_
     simp only[go_sem]
     refine kp [1] [[1,0]] ?_
     repeat refine sq ?_
     refine rs hΓ [1,7] [[1,0]] ?_
     repeat refine sq ?_
     refine aC ?_
     repeat refine sq ?_
     refine bA (fun s:Nat=>[(7,⟨true,.v (vInt s)⟩)]) (fun s=>[]) (fun s=>s<=l.ss.length/\kL jH Sig.so l.ss s/\G' l s) (fun s=>l.ss.length-s) 0 ?_ ?_ ?_ ?_
     ·exact⟨Nat.zero_le _,qA,fun j _ h=>by omega⟩
     ·rfl
     ·rfl
     rintro i ⟨hi3,MC,MB⟩
     simp only[go_sem]
     repeat refine sq ?_
     refine rs hΓ [1,7,150] [[1,0]] ?_
     repeat refine sq ?_
     refine au (fun hb=>?_) fun hb=>?_
     ·have gn:i<l.ss.length:=by simpa using hb
      have pM:(i:Int)<l.ss.length:=by omega
      clear hb
      obtain⟨p,hp,gW,bW⟩:=ph gn pN
      repeat refine sq ?_
      refine ay ?_
      repeat refine sq ?_
      refine aC ?_
      repeat refine sq ?_
      refine rx hΓ [1,7,8] [[1,0],[8,0]] (fun K' hK=>by simp only[go_sem,ae gn,ah,aj,pM];exact fn) ?_
      repeat refine sq ?_
      refine dx hΓ hP [[],[0],[0,1],[0,1,2],u4,u5,u6,u7,u8,u7,[0,1,2,3,4,5,6,9],cz,dS,fJ,u7,[0,1,2,3,4,5,6,14],u16,iG,gO,l7,gN,gN,[0,1,2,3,4,5,6,7,8,9,10,11,12,13,14,15,16,17,18,19,21],gN,[0,1,2,3,4,5,6,7,8,9,10,11,12,13,14,15,16,17,18,19,23],[0,1,2,3,4,5,6,7,8,9,10,11,12,13,14,15,16,17,18,19,21,22,23,24],vP,qn,yn] [1,7,186] [[1,0]] (by kernel_rfl) (fun K' hK=>by simp only[go_sem,ae gn,ah,aj,pM,hp,ae gW,fun b=>p7 b 23 (by decide)];(repeat (refine⟨by first | exact ob | (intro h;have:=bW (by simp_all);simp_all;done),?_⟩));exact iw) ?_
      repeat refine sq ?_
      refine au (fun hb=>?_) fun hb=>?_
      ·repeat refine sq ?_
       have dk:¬ bp l:=by
        intro h
        obtain⟨h1,h2⟩:=gu.1 h.ss i gn gn
        have h5:=h.sl i gn
        have h6:1<=l.ss[i].le:=by unfold jH bT at h1;simp only[Bool.and_eq_true,decide_eq_true_eq]at h1;omega
        have h7:qM l l.ss[i].pa l.ss[i].le=true:=by unfold qM bT;simp only[Bool.and_eq_true,decide_eq_true_eq];omega
        simp only[h1,h7,Bool.not_true,Bool.false_or,Bool.or_false,Bool.and_eq_true,decide_eq_true_eq]at hb
        obtain⟨e,_⟩:=bW (by omega)
        subst e
        have :=h2 (by omega)
        have :=hb.2
        omega
       repeat refine sq ?_
       refine rx hΓ [2] [] (fun K' hK=>by simp only[go_sem,ae gn,ah,aj,pM];exact fn) ?_
       refine aq ?_
       simp only[go_sem]
       rw[nZ dk]
      ·repeat refine sq ?_
       have hn:jH l.ss[i]=true/\(0<i->Sig.so l.ss[i-1] <Sig.so l.ss[i]):=by
        simp only[Bool.or_eq_false_iff,Bool.not_eq_false',Bool.and_eq_false_iff,decide_eq_false_iff_not]at hb
        refine⟨hb.1.1,fun h=>?_⟩
        obtain⟨e,_⟩:=bW h
        subst e
        omega
       have mu:l.ss[i].le<=ei l.ps l.ss[i].pa:=by
        simp only[Bool.or_eq_false_iff,Bool.not_eq_false']at hb
        have :=hb.2
        unfold qM bT at this
        simp only[Bool.and_eq_true,decide_eq_true_eq]at this
        omega
       refine ay ?_
       refine br ?_
       simp only[go_sem]
       refine kp [1,7] [[1,0]] ?_
       repeat refine sq ?_
       refine aI hΓ fun K' hK=>?_
       simp only[go_sem,ae gn,ah,aj,pM]
       repeat (refine⟨ob,?_⟩)
       refine hK _ ?_
       clear K' hK
       simp only[go_sem]
       refine⟨i+1,⟨gn,?_⟩,by(show l.ss.length-(i+1)<l.ss.length-i;omega),?_⟩
       ·exact⟨qB MC gn hn,fun j hj dB=>by
         rcases Nat.lt_succ_iff_lt_or_eq.1 dB with h1 | rfl
         ·exact MB j hj h1
         ·exact mu⟩
       refine aT [1,7] [[1,0]] ?_ ?_<;>simp only[go_sem,aO gn pN,aQ]
     ·have Ey:i=l.ss.length:=by
       have :¬ (i:Int)<l.ss.length:=by simpa using hb
       omega
      clear hb
      subst Ey
      repeat refine sq ?_
      refine be ?_
      simp only[go_sem]
      refine kp [1] [[1,0]] ?_
      repeat refine sq ?_
      refine rx hΓ [190] [] (fun K' hK=>by simp only[go_sem,ie];exact fn) ?_
      repeat refine sq ?_
      refine au (fun hb=>?_) fun hb=>?_
      ·repeat refine sq ?_
       have dk:¬ bp l:=fun h=>by have:=h.nd;simp[this]at hb
       repeat refine sq ?_
       refine rs hΓ [2] [] ?_
       refine aq ?_
       simp only[go_sem]
       rw[nZ dk]
      ·repeat refine sq ?_
       have Ew:(m7 l).Nodup:=by simpa using hb
       refine ay ?_
       repeat refine sq ?_
       refine rs hΓ [2] [] ?_
       refine aq ?_
       simp only[go_sem]
       rw[N1 ⟨gu.2 hR,by omega,gu.2 ra,by omega,gu.2 xt,by omega,gu.2 MC,by omega,fun j h=>ME j h h,fun j h=>MB j h h,Ew⟩]
end
set_option maxHeartbeats 8000000
noncomputable section
theorem Al(d:Nat)(a b:Int):jx Tryz.prog (d+1) 3 (vInt a) (vInt b)=some (a==b):=by
 simp only[jx,Tryz.underlying3,if_true]
theorem Yq:Tryz.prog.stoodInHeld 46=false:=by kernel_rfl
theorem Zm:Tryz.prog.eqGuardType Tryz.prog.depth 46=false:=by kernel_rfl
theorem ZF(d:Nat)(a b a' b':Int):jx Tryz.prog (d+2) 46 (.agg [vInt a,vInt b]) (.agg [vInt a',vInt b'])=some (a==a'&&b==b'):=by
 unfold jx
 simp only[Tryz.underlying46,Yq,Bool.false_eq_true,if_false,oS,qx,yu,List.getElem?_cons_zero,List.getElem?_cons_succ,Al]
 cases a==a'<;>cases b==b'<;>rfl
@[go_sem] theorem agI(obj:Name->Option O)(op:BinOp)(a b a' b':Int):jZ Tryz.prog obj op 46 (.agg [vInt a,vInt b]) (.agg [vInt a',vInt b'])=
    ⟨op=.eql\/op=.neq,.v (.bool (if op=.eql then(a==a'&&b==b')else !(a==a'&&b==b'))),obj⟩:=by
  unfold jZ
  rw[show Op.maxDepth=9998+2 from rfl,ZF]
  simp only[Zm,true_and]
theorem Yp:Tryz.prog.stoodInHeld 56=false:=by kernel_rfl
theorem Zl:Tryz.prog.eqGuardType Tryz.prog.depth 56=false:=by kernel_rfl
theorem ZE(d:Nat)(a b a' b':Int):jx Tryz.prog (d+2) 56 (.agg [vInt a,vInt b]) (.agg [vInt a',vInt b'])=some (a==a'&&b==b'):=by
 unfold jx
 simp only[Tryz.underlying56,Yp,Bool.false_eq_true,if_false,oS,qx,yu,List.getElem?_cons_zero,List.getElem?_cons_succ,Al]
 cases a==a'<;>cases b==b'<;>rfl
@[go_sem] theorem agH(obj:Name->Option O)(op:BinOp)(a b a' b':Int):jZ Tryz.prog obj op 56 (.agg [vInt a,vInt b]) (.agg [vInt a',vInt b'])=
    ⟨op=.eql\/op=.neq,.v (.bool (if op=.eql then(a==a'&&b==b')else !(a==a'&&b==b'))),obj⟩:=by
  unfold jZ
  rw[show Op.maxDepth=9998+2 from rfl,ZE]
  simp only[Zl,true_and]
theorem Yr:Tryz.prog.stoodInHeld 38=false:=by kernel_rfl
theorem Zn:Tryz.prog.eqGuardType Tryz.prog.depth 38=false:=by kernel_rfl
theorem ZG(d:Nat)(a b a' b':Int):jx Tryz.prog (d+2) 38 (.agg [vInt a,vInt b]) (.agg [vInt a',vInt b'])=some (a==a'&&b==b'):=by
 unfold jx
 simp only[Tryz.underlying38,Yr,Bool.false_eq_true,if_false,oS,qx,yu,List.getElem?_cons_zero,List.getElem?_cons_succ,Al]
 cases a==a'<;>cases b==b'<;>rfl
@[go_sem] theorem agJ(obj:Name->Option O)(op:BinOp)(a b a' b':Int):jZ Tryz.prog obj op 38 (.agg [vInt a,vInt b]) (.agg [vInt a',vInt b'])=
    ⟨op=.eql\/op=.neq,.v (.bool (if op=.eql then(a==a'&&b==b')else !(a==a'&&b==b'))),obj⟩:=by
  unfold jZ
  rw[show Op.maxDepth=9998+2 from rfl,ZG]
  simp only[Zn,true_and]
theorem Yo:Tryz.prog.stoodInHeld 81=false:=by kernel_rfl
theorem Zk:Tryz.prog.eqGuardType Tryz.prog.depth 81=false:=by kernel_rfl
theorem ZD(k:Nat)(a b c d e f g a' b' c' d' e' f' g':Int):jx Tryz.prog (k+2) 81 (.agg [vInt a,vInt b,vInt c,vInt d,vInt e,vInt f,vInt g]) (.agg [vInt a',vInt b',vInt c',vInt d',vInt e',vInt f',vInt g'])=
 some (a==a'&&(b==b'&&(c==c'&&(d==d'&&(e==e'&&(f==f'&&g==g')))))):=by
 unfold jx
 simp only[Tryz.underlying81,Yo,Bool.false_eq_true,if_false,oS,qx,yu,List.getElem?_cons_zero,List.getElem?_cons_succ,Al]
 cases a==a'<;>cases b==b'<;>cases c==c'<;>cases d==d'<;>cases e==e'<;>cases f==f'<;>cases g==g'<;>rfl
@[go_sem] theorem agG(obj:Name->Option O)(op:BinOp)(a b c d e f g a' b' c' d' e' f' g':Int):jZ Tryz.prog obj op 81 (.agg [vInt a,vInt b,vInt c,vInt d,vInt e,vInt f,vInt g]) (.agg [vInt a',vInt b',vInt c',vInt d',vInt e',vInt f',vInt g'])=
    ⟨op=.eql\/op=.neq,.v (.bool (if op=.eql then(a==a'&&(b==b'&&(c==c'&&(d==d'&&(e==e'&&(f==f'&&g==g'))))))else !(a==a'&&(b==b'&&(c==c'&&(d==d'&&(e==e'&&(f==f'&&g==g')))))))),obj⟩:=by
  unfold jZ
  rw[show Op.maxDepth=9998+2 from rfl,ZD]
  simp only[Zk,true_and]
def uo{α:Type}(a b:List α)(n:Nat):Prop:=∀ j (h:j<a.length) (h':j<b.length),j<n->a[j]=b[j]
theorem BU{α:Type}{a b:List α}{i:Nat}(h:uo a b i)(hi:∀ (h:i<a.length) (h':i<b.length),a[i]=b[i]):uo a b (i+1):=by
 intro j hj dp dB
 rcases Nat.lt_succ_iff_lt_or_eq.1 dB with h1 | rfl
 ·exact h j hj dp h1
 ·exact hi hj dp
theorem BV{α:Type}{a b:List α}(hl:a.length=b.length)(h:uo a b a.length):a=b:=List.ext_getElem hl fun j h1 h2=>h j h1 h2 h1
theorem Mv{l:List Int}{n:Int}:l.contains n=true↔∃ k,∃ (h:k<l.length),l[k]=n:=by
 rw[List.contains_iff_mem]
 constructor
 ·intro h
  obtain⟨k,hk,e⟩:=List.getElem_of_mem h
  exact⟨k,hk,e⟩
 ·rintro⟨k,hk,rfl⟩
  exact List.getElem_mem hk
@[go_sem] def P15:PSpec:=p2 cm iI (fun _ _=>True) (fun l n=>.bool (l.contains n)) true
@[go_sem] def vG:Spec:=P15.toSpec
theorem yE:aL Tryz.prog 15 P15:=by
 refine cK (rs:=[.tmp 4]) Tryz.func15 Tryz.ntmps15 fun l n hp hw=>?_
 simp only[iI,cm]at hw |-
 have hΓ:=@dT Tryz.prog
 have hl:l.length<=maxLen:=by have:=hw.1.1;simpa using this
 repeat refine sq ?_
 refine rs hΓ [0,1] [] ?_
 repeat refine sq ?_
 refine rs hΓ [0,1,5] [] ?_
 repeat refine sq ?_
 refine aC ?_
 repeat refine sq ?_
 refine bA (fun s:Nat=>[(5,⟨true,.v (vInt s)⟩)]) (fun s=>[]) (fun s=>s<=l.length/\∀ k (h:k<l.length),k<s->l[k]≠n) (fun s=>l.length-s) 0 ?_ ?_ ?_ ?_
 ·exact⟨Nat.zero_le _,by simp⟩
 ·rfl
 ·rfl
 rintro i ⟨hi,hR⟩
 simp only[go_sem]
 repeat refine sq ?_
 refine rs hΓ [0,1,5,9] [] ?_
 repeat refine sq ?_
 refine au (fun hb=>?_) fun hb=>?_
 ·have aa:i<l.length:=by simpa using hb
  have an:(i:Int)<l.length:=by omega
  clear hb
  repeat refine sq ?_
  refine ay ?_
  repeat refine sq ?_
  refine aC ?_
  repeat refine sq ?_
  refine rx hΓ [0,1,5,17] [] (fun K' hK=>by simp only[go_sem,ae aa,ah,aj,an];exact fn) ?_
  repeat refine sq ?_
  refine au (fun hb=>?_) fun hb=>?_
  ·repeat refine sq ?_
   refine rx hΓ [4] [] (fun K' hK=>by simp only[go_sem,ae aa,ah,aj,an];exact fn) ?_
   refine aq ?_
   simp only[go_sem]
   rw[Mv.2 ⟨i,aa,by simpa using hb⟩]
  ·repeat refine sq ?_
   refine ay ?_
   refine br ?_
   simp only[go_sem]
   refine kp [0,1,5] [] ?_
   repeat refine sq ?_
   refine aI hΓ fun K' hK=>?_
   simp only[go_sem,ae aa,ah,aj,an]
   repeat (refine⟨ob,?_⟩)
   refine hK _ ?_
   clear K' hK
   simp only[go_sem]
   refine⟨i+1,⟨aa,?_⟩,by(show l.length-(i+1)<l.length-i;omega),?_⟩
   ·intro k hk du
    rcases Nat.lt_succ_iff_lt_or_eq.1 du with h5 | rfl
    ·exact hR k hk h5
    ·simpa using hb
   refine aT [0,1,5] [] ?_ ?_<;>simp only[go_sem,aO aa hl,aQ]
 ·have aV:i=l.length:=by
   have :¬ (i:Int)<l.length:=by simpa using hb
   omega
  clear hb
  subst aV
  repeat refine sq ?_
  refine be ?_
  simp only[go_sem]
  refine kp [] [] ?_
  repeat refine sq ?_
  refine rs hΓ [4] [] ?_
  refine aq ?_
  simp only[go_sem]
  rw[tu Mv (fun ⟨k,hk,e⟩=>hR k hk hk e)]
@[go_sem] def P24:PSpec:=p2 cm cm (fun _ _=>True) (fun a b=>.bool (decide (a=b))) true
@[go_sem] def Gd:Spec:=P24.toSpec
theorem Hr:aL Tryz.prog 24 P24:=by
 refine cK (rs:=[.tmp 4]) Tryz.func24 Tryz.ntmps24 fun a b hp hw=>?_
 have hP:=c8
 simp only[cm]at hw |-
 have hΓ:=@dT Tryz.prog
 have hl:a.length<=maxLen:=by have:=hw.1.1;simpa using this
 repeat refine sq ?_
 refine rs hΓ [0,1] [] ?_
 repeat refine sq ?_
 refine rs hΓ [0,1,10] [] ?_
 repeat refine sq ?_
 refine au (fun hb=>?_) fun hb=>?_
 ·repeat refine sq ?_
  have dk:a≠b:=by
   rintro rfl
   simp at hb
  repeat refine sq ?_
  refine rs hΓ [4] [] ?_
  refine aq ?_
  simp only[go_sem]
  rw[decide_eq_false dk]
 ·repeat refine sq ?_
  have oO:a.length=b.length:=by
   have :(a.length:Int)=b.length:=by simpa using hb
   omega
  clear hb
  refine ay ?_
  repeat refine sq ?_
  refine rs hΓ [0,1,5] [] ?_
  repeat refine sq ?_
  refine aC ?_
  repeat refine sq ?_
  refine bA (fun s:Nat=>[(5,⟨true,.v (vInt s)⟩)]) (fun s=>[]) (fun s=>s<=a.length/\uo a b s) (fun s=>a.length-s) 0 ?_ ?_ ?_ ?_
  ·exact⟨Nat.zero_le _,fun j _ _ h=>by omega⟩
  ·rfl
  ·rfl
  rintro i ⟨hi,hR⟩
  simp only[go_sem]
  repeat refine sq ?_
  refine rs hΓ [0,1,5,14] [] ?_
  repeat refine sq ?_
  refine au (fun hb=>?_) fun hb=>?_
  ·have aa:i<a.length:=by simpa using hb
   have an:(i:Int)<a.length:=by omega
   clear hb
   have my:(i:Int)<b.length:=by omega
   have L9:i<b.length:=by omega
   repeat refine sq ?_
   refine ay ?_
   repeat refine sq ?_
   refine aC ?_
   repeat refine sq ?_
   refine dx hΓ hP [[],[],[0,1],[0,1,2],[],[],[4,5],[4,5,6],u8] [0,1,5,25] [] (by kernel_rfl) (fun K' hK=>by simp only[go_sem,ae aa,ae (show i<b.length by omega),ah,aj,an,my];exact fd) ?_
   repeat refine sq ?_
   refine au (fun hb=>?_) fun hb=>?_
   ·repeat refine sq ?_
    have dk:a≠b:=by
     rintro rfl
     simp at hb
    repeat refine sq ?_
    refine rx hΓ [4] [] (fun K' hK=>by simp only[go_sem,ae aa,ae (show i<b.length by omega),ah,aj,an,my];exact fn) ?_
    refine aq ?_
    simp only[go_sem]
    rw[decide_eq_false dk]
   ·repeat refine sq ?_
    refine ay ?_
    refine br ?_
    simp only[go_sem]
    refine kp [0,1,5] [] ?_
    repeat refine sq ?_
    refine aI hΓ fun K' hK=>?_
    simp only[go_sem,ae aa,ae (show i<b.length by omega),ah,aj,an,my]
    repeat (refine⟨ob,?_⟩)
    refine hK _ ?_
    clear K' hK
    simp only[go_sem]
    refine⟨i+1,⟨aa,?_⟩,by(show a.length-(i+1)<a.length-i;omega),?_⟩
    ·exact BU hR fun _ _=>by simpa using hb
    refine aT [0,1,5] [] ?_ ?_<;>simp only[go_sem,aO aa hl,aQ]
  ·have aV:i=a.length:=by
    have :¬ (i:Int)<a.length:=by simpa using hb
    omega
   clear hb
   subst aV
   repeat refine sq ?_
   refine be ?_
   simp only[go_sem]
   refine kp [] [] ?_
   repeat refine sq ?_
   refine rs hΓ [4] [] ?_
   refine aq ?_
   simp only[go_sem]
   rw[decide_eq_true (BV oO hR)]
@[go_sem] def P94:PSpec:=p2 cm cm (fun _ _=>True) (fun a b=>.bool (decide (a=b))) true
@[go_sem] def S94:Spec:=P94.toSpec
theorem Q8:aL Tryz.prog 94 P94:=by
 refine cK (rs:=[.tmp 4]) Tryz.func94 Tryz.ntmps94 fun a b hp hw=>?_
 have hP:=c8
 simp only[cm]at hw |-
 have hΓ:=@dT Tryz.prog
 have hl:a.length<=maxLen:=by have:=hw.1.1;simpa using this
 repeat refine sq ?_
 refine rs hΓ [0,1] [] ?_
 repeat refine sq ?_
 refine rs hΓ [0,1,10] [] ?_
 repeat refine sq ?_
 refine au (fun hb=>?_) fun hb=>?_
 ·repeat refine sq ?_
  have dk:a≠b:=by
   rintro rfl
   simp at hb
  repeat refine sq ?_
  refine rs hΓ [4] [] ?_
  refine aq ?_
  simp only[go_sem]
  rw[decide_eq_false dk]
 ·repeat refine sq ?_
  have oO:a.length=b.length:=by
   have :(a.length:Int)=b.length:=by simpa using hb
   omega
  clear hb
  refine ay ?_
  repeat refine sq ?_
  refine rs hΓ [0,1,12,13] [] ?_
  repeat refine sq ?_
  refine aC ?_
  repeat refine sq ?_
  refine bA (fun s:Nat=>[(13,⟨true,.v (vInt s)⟩)]) (fun s=>[]) (fun s=>s<=a.length/\uo a b s) (fun s=>a.length-s) 0 ?_ ?_ ?_ ?_
  ·exact⟨Nat.zero_le _,fun j _ _ h=>by omega⟩
  ·rfl
  ·rfl
  rintro i ⟨hi,hR⟩
  simp only[go_sem]
  repeat refine sq ?_
  refine rs hΓ [0,1,12,13,14] [] ?_
  repeat refine sq ?_
  refine au (fun hb=>?_) fun hb=>?_
  ·have aa:i<a.length:=by simpa using hb
   have an:(i:Int)<a.length:=by omega
   clear hb
   have my:(i:Int)<b.length:=by omega
   have L9:i<b.length:=by omega
   repeat refine sq ?_
   refine ay ?_
   repeat refine sq ?_
   refine aC ?_
   repeat refine sq ?_
   refine rx hΓ [0,1,5,12,13] [] (fun K' hK=>by simp only[go_sem,ae aa,ae (show i<b.length by omega),ah,aj,an,my];exact fn) ?_
   repeat refine sq ?_
   refine dx hΓ hP [[],[],[0,1],[0,1,2],[],[],[4,5],[4,5,6],u8] [0,1,12,13,24] [] (by kernel_rfl) (fun K' hK=>by simp only[go_sem,ae aa,ae (show i<b.length by omega),ah,aj,an,my];exact fd) ?_
   repeat refine sq ?_
   refine au (fun hb=>?_) fun hb=>?_
   ·repeat refine sq ?_
    have dk:a≠b:=by
     rintro rfl
     simp at hb
    repeat refine sq ?_
    refine rx hΓ [4] [] (fun K' hK=>by simp only[go_sem,ae aa,ae (show i<b.length by omega),ah,aj,an,my];exact fn) ?_
    refine aq ?_
    simp only[go_sem]
    rw[decide_eq_false dk]
   ·repeat refine sq ?_
    refine ay ?_
    refine br ?_
    simp only[go_sem]
    refine kp [0,1,12,13] [] ?_
    repeat refine sq ?_
    refine aI hΓ fun K' hK=>?_
    simp only[go_sem,ae aa,ae (show i<b.length by omega),ah,aj,an,my]
    repeat (refine⟨ob,?_⟩)
    refine hK _ ?_
    clear K' hK
    simp only[go_sem]
    refine⟨i+1,⟨aa,?_⟩,by(show a.length-(i+1)<a.length-i;omega),?_⟩
    ·exact BU hR fun _ _=>by simpa using hb
    refine aT [0,1,12,13] [] ?_ ?_<;>simp only[go_sem,aO aa hl,aQ]
  ·have aV:i=a.length:=by
    have :¬ (i:Int)<a.length:=by simpa using hb
    omega
   clear hb
   subst aV
   repeat refine sq ?_
   refine be ?_
   simp only[go_sem]
   refine kp [] [] ?_
   repeat refine sq ?_
   refine rs hΓ [4] [] ?_
   refine aq ?_
   simp only[go_sem]
   rw[decide_eq_true (BV oO hR)]
def adn:List (Nat×Spec):=[(24,Gd)]
attribute [go_sem] adn
def K10:List (Nat×Spec):=[]
attribute [go_sem] K10
end
end Go.Eng
