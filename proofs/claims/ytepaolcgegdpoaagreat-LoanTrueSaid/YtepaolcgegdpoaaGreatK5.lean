import Derived.Test.YtepaolcgegdpoaaGreatK4
import Derived.Test.YtepaolcgegdpoaaGreatProg
import Derived.KernelRfl
/- Texts L0 to LM1. -/
set_option linter.all false
namespace Go.Eng
open Go Go.Proofs
abbrev KS (K:List (Nat×Spec)):Prop:=∀ f s,tbl K f=some s->aL Tryz.prog f s
@[go_sem] theorem ta0:bc Tryz.prog 0=some (false,1):=by kernel_rfl
@[go_sem] theorem ta1:bc Tryz.prog 1=some (false,1):=by kernel_rfl
@[go_sem] theorem tz1:bh Tryz.prog 1=some .nilFunc:=by kernel_rfl
@[go_sem] theorem ta2:bc Tryz.prog 2=some (false,1):=by kernel_rfl
@[go_sem] theorem ti2:nG Tryz.prog 2=some .i64:=by kernel_rfl
@[go_sem] theorem tz2:bh Tryz.prog 2=some (.int .i64 0):=by kernel_rfl
@[go_sem] theorem zr:bc Tryz.prog 3=some (false,1):=by kernel_rfl
@[go_sem] theorem ti3:nG Tryz.prog 3=some .i64:=by kernel_rfl
@[go_sem] theorem tz3:bh Tryz.prog 3=some (.int .i64 0):=by kernel_rfl
@[go_sem] theorem ta4:bc Tryz.prog 4=some (false,1):=by kernel_rfl
@[go_sem] theorem tz4:bh Tryz.prog 4=some (.bool false):=by kernel_rfl
@[go_sem] theorem ahu:bc Tryz.prog 18=some (true,1):=by kernel_rfl
@[go_sem] theorem afF:iq Tryz.prog 18=some [(0,1)]:=by kernel_rfl
@[go_sem] theorem ae7:bh Tryz.prog 18=some (.agg #[(.pointer none)]):=by kernel_rfl
@[go_sem] theorem agB:bW Tryz.prog 18 0=some (0,1,false):=by kernel_rfl
@[go_sem] theorem ahn:bc Tryz.prog 22=some (false,1):=by kernel_rfl
@[go_sem] theorem agV:cr Tryz.prog 22=some (100,5,40):=by kernel_rfl
@[go_sem] theorem afV:dB Tryz.prog 22=some 0:=by kernel_rfl
@[go_sem] theorem ae1:bh Tryz.prog 22=some (.slice none 0 0):=by kernel_rfl
@[go_sem] theorem ahm:bc Tryz.prog 23=some (false,1):=by kernel_rfl
@[go_sem] theorem agU:cr Tryz.prog 23=some (131,7,56):=by kernel_rfl
@[go_sem] theorem afU:dB Tryz.prog 23=some 0:=by kernel_rfl
@[go_sem] theorem ae0:bh Tryz.prog 23=some (.slice none 0 0):=by kernel_rfl
@[go_sem] theorem ahl:bc Tryz.prog 25=some (true,3):=by kernel_rfl
@[go_sem] theorem afE:iq Tryz.prog 25=some [(0,1),(1,1),(2,1)]:=by kernel_rfl
@[go_sem] theorem aeZ:bh Tryz.prog 25=some (.agg #[(.slice none 0 0),(.slice none 0 0),(.slice none 0 0)]):=by kernel_rfl
@[go_sem] theorem agA:bW Tryz.prog 25 0=some (0,1,false):=by kernel_rfl
@[go_sem] theorem agz:bW Tryz.prog 25 1=some (1,1,false):=by kernel_rfl
@[go_sem] theorem agy:bW Tryz.prog 25 2=some (2,1,false):=by kernel_rfl
@[go_sem] theorem ahk:bc Tryz.prog 26=some (false,1):=by kernel_rfl
@[go_sem] theorem agT:cr Tryz.prog 26=some (46,2,16):=by kernel_rfl
@[go_sem] theorem afT:dB Tryz.prog 26=some 0:=by kernel_rfl
@[go_sem] theorem aeY:bh Tryz.prog 26=some (.slice none 0 0):=by kernel_rfl
@[go_sem] theorem ahj:bc Tryz.prog 27=some (false,1):=by kernel_rfl
@[go_sem] theorem agS:cr Tryz.prog 27=some (36,7,72):=by kernel_rfl
@[go_sem] theorem afS:dB Tryz.prog 27=some 0:=by kernel_rfl
@[go_sem] theorem aeX:bh Tryz.prog 27=some (.slice none 0 0):=by kernel_rfl
@[go_sem] theorem ahi:bc Tryz.prog 28=some (false,1):=by kernel_rfl
@[go_sem] theorem agR:cr Tryz.prog 28=some (40,8,80):=by kernel_rfl
@[go_sem] theorem afR:dB Tryz.prog 28=some 0:=by kernel_rfl
@[go_sem] theorem aeW:bh Tryz.prog 28=some (.slice none 0 0):=by kernel_rfl
@[go_sem] theorem ahh:bc Tryz.prog 29=some (false,1):=by kernel_rfl
@[go_sem] theorem It:cr Tryz.prog 29=some (81,7,56):=by kernel_rfl
@[go_sem] theorem afQ:dB Tryz.prog 29=some 0:=by kernel_rfl
@[go_sem] theorem aeV:bh Tryz.prog 29=some (.slice none 0 0):=by kernel_rfl
@[go_sem] theorem ahg:bc Tryz.prog 31=some (true,4):=by kernel_rfl
@[go_sem] theorem afD:iq Tryz.prog 31=some [(0,1),(1,1),(2,1),(3,1)]:=by kernel_rfl
@[go_sem] theorem aeU:bh Tryz.prog 31=some (.agg #[(.slice none 0 0),(.slice none 0 0),(.slice none 0 0),(.slice none 0 0)]):=by kernel_rfl
@[go_sem] theorem agx:bW Tryz.prog 31 0=some (0,1,false):=by kernel_rfl
@[go_sem] theorem agw:bW Tryz.prog 31 1=some (1,1,false):=by kernel_rfl
@[go_sem] theorem agv:bW Tryz.prog 31 2=some (2,1,false):=by kernel_rfl
@[go_sem] theorem agu:bW Tryz.prog 31 3=some (3,1,false):=by kernel_rfl
@[go_sem] theorem ahf:bc Tryz.prog 32=some (false,1):=by kernel_rfl
@[go_sem] theorem agQ:cr Tryz.prog 32=some (3,1,8):=by kernel_rfl
@[go_sem] theorem afP:dB Tryz.prog 32=some 0:=by kernel_rfl
@[go_sem] theorem aeT:bh Tryz.prog 32=some (.slice none 0 0):=by kernel_rfl
@[go_sem] theorem ahe:bc Tryz.prog 33=some (false,1):=by kernel_rfl
@[go_sem] theorem ahd:bc Tryz.prog 36=some (true,7):=by kernel_rfl
@[go_sem] theorem afC:iq Tryz.prog 36=some [(0,1),(1,1),(2,1),(3,1),(4,1),(5,1),(6,1)]:=by kernel_rfl
@[go_sem] theorem aeS:bh Tryz.prog 36=some (.agg #[(.int .i64 0),(.int .i64 0),(.int .i64 0),(.slice none 0 0),(.int .i64 0),(.int .i64 0),(.int .i64 0)]):=by kernel_rfl
@[go_sem] theorem agt:bW Tryz.prog 36 0=some (0,1,false):=by kernel_rfl
@[go_sem] theorem ags:bW Tryz.prog 36 1=some (1,1,false):=by kernel_rfl
@[go_sem] theorem agq:bW Tryz.prog 36 2=some (2,1,false):=by kernel_rfl
@[go_sem] theorem agp:bW Tryz.prog 36 3=some (3,1,false):=by kernel_rfl
@[go_sem] theorem ago:bW Tryz.prog 36 4=some (4,1,false):=by kernel_rfl
@[go_sem] theorem agn:bW Tryz.prog 36 5=some (5,1,false):=by kernel_rfl
@[go_sem] theorem agm:bW Tryz.prog 36 6=some (6,1,false):=by kernel_rfl
@[go_sem] theorem ahc:bc Tryz.prog 38=some (true,2):=by kernel_rfl
@[go_sem] theorem afB:iq Tryz.prog 38=some [(0,1),(1,1)]:=by kernel_rfl
@[go_sem] theorem aeR:bh Tryz.prog 38=some (.agg #[(.int .i64 0),(.int .i64 0)]):=by kernel_rfl
@[go_sem] theorem agl:bW Tryz.prog 38 0=some (0,1,false):=by kernel_rfl
@[go_sem] theorem agk:bW Tryz.prog 38 1=some (1,1,false):=by kernel_rfl
@[go_sem] theorem ahb:bc Tryz.prog 40=some (true,8):=by kernel_rfl
@[go_sem] theorem afA:iq Tryz.prog 40=some [(0,1),(1,1),(2,1),(3,1),(4,2),(6,1),(7,1)]:=by kernel_rfl
@[go_sem] theorem aeQ:bh Tryz.prog 40=some (.agg #[(.int .i64 0),(.int .i64 0),(.int .i64 0),(.slice none 0 0),(.int .i64 0),(.int .i64 0),(.int .i64 0),(.int .i64 0)]):=by kernel_rfl
@[go_sem] theorem agj:bW Tryz.prog 40 0=some (0,1,false):=by kernel_rfl
@[go_sem] theorem agi:bW Tryz.prog 40 1=some (1,1,false):=by kernel_rfl
@[go_sem] theorem agh:bW Tryz.prog 40 2=some (2,1,false):=by kernel_rfl
@[go_sem] theorem agf:bW Tryz.prog 40 3=some (3,1,false):=by kernel_rfl
@[go_sem] theorem age:bW Tryz.prog 40 4=some (4,2,true):=by kernel_rfl
@[go_sem] theorem agd:bW Tryz.prog 40 5=some (6,1,false):=by kernel_rfl
@[go_sem] theorem agc:bW Tryz.prog 40 6=some (7,1,false):=by kernel_rfl
@[go_sem] theorem aha:bc Tryz.prog 42=some (false,1):=by kernel_rfl
@[go_sem] theorem af0:nG Tryz.prog 42=some .i64:=by kernel_rfl
@[go_sem] theorem aeP:bh Tryz.prog 42=some (.int .i64 0):=by kernel_rfl
@[go_sem] theorem ag':bc Tryz.prog 43=some (false,1):=by kernel_rfl
@[go_sem] theorem ag9:bc Tryz.prog 46=some (true,2):=by kernel_rfl
@[go_sem] theorem afz:iq Tryz.prog 46=some [(0,1),(1,1)]:=by kernel_rfl
@[go_sem] theorem aeO:bh Tryz.prog 46=some (.agg #[(.int .i64 0),(.int .i64 0)]):=by kernel_rfl
@[go_sem] theorem agb:bW Tryz.prog 46 0=some (0,1,false):=by kernel_rfl
@[go_sem] theorem aga:bW Tryz.prog 46 1=some (1,1,false):=by kernel_rfl
@[go_sem] theorem ag8:bc Tryz.prog 49=some (true,3):=by kernel_rfl
@[go_sem] theorem afs:jC Tryz.prog 49=some (3,1,false):=by kernel_rfl
@[go_sem] theorem afy:iq Tryz.prog 49=some [(0,1),(1,1),(2,1)]:=by kernel_rfl
@[go_sem] theorem aeN:bh Tryz.prog 49=some (.agg #[(.int .i64 0),(.int .i64 0),(.int .i64 0)]):=by kernel_rfl
@[go_sem] theorem ag7:bc Tryz.prog 51=some (false,1):=by kernel_rfl
@[go_sem] theorem agP:cr Tryz.prog 51=some (56,2,16):=by kernel_rfl
@[go_sem] theorem afO:dB Tryz.prog 51=some 0:=by kernel_rfl
@[go_sem] theorem aeM:bh Tryz.prog 51=some (.slice none 0 0):=by kernel_rfl
@[go_sem] theorem ag6:bc Tryz.prog 52=some (false,1):=by kernel_rfl
@[go_sem] theorem ag5:bc Tryz.prog 56=some (true,2):=by kernel_rfl
@[go_sem] theorem afx:iq Tryz.prog 56=some [(0,1),(1,1)]:=by kernel_rfl
@[go_sem] theorem aeL:bh Tryz.prog 56=some (.agg #[(.int .i64 0),(.int .i64 0)]):=by kernel_rfl
@[go_sem] theorem af':bW Tryz.prog 56 0=some (0,1,false):=by kernel_rfl
@[go_sem] theorem af9:bW Tryz.prog 56 1=some (1,1,false):=by kernel_rfl
@[go_sem] theorem ag4:bc Tryz.prog 57=some (false,1):=by kernel_rfl
@[go_sem] theorem ag3:bc Tryz.prog 65=some (false,1):=by kernel_rfl
@[go_sem] theorem ag2:bc Tryz.prog 77=some (true,2):=by kernel_rfl
@[go_sem] theorem afr:jC Tryz.prog 77=some (2,1,false):=by kernel_rfl
@[go_sem] theorem afw:iq Tryz.prog 77=some [(0,1),(1,1)]:=by kernel_rfl
@[go_sem] theorem aeK:bh Tryz.prog 77=some (.agg #[(.int .i64 0),(.int .i64 0)]):=by kernel_rfl
@[go_sem] theorem ag1:bc Tryz.prog 81=some (true,7):=by kernel_rfl
@[go_sem] theorem afv:iq Tryz.prog 81=some [(0,1),(1,1),(2,1),(3,1),(4,1),(5,1),(6,1)]:=by kernel_rfl
@[go_sem] theorem RX:bh Tryz.prog 81=some (.agg #[(.int .i64 0),(.int .i64 0),(.int .i64 0),(.int .i64 0),(.int .i64 0),(.int .i64 0),(.int .i64 0)]):=by kernel_rfl
@[go_sem] theorem af8:bW Tryz.prog 81 0=some (0,1,false):=by kernel_rfl
@[go_sem] theorem af7:bW Tryz.prog 81 1=some (1,1,false):=by kernel_rfl
@[go_sem] theorem af6:bW Tryz.prog 81 2=some (2,1,false):=by kernel_rfl
@[go_sem] theorem af5:bW Tryz.prog 81 3=some (3,1,false):=by kernel_rfl
@[go_sem] theorem af4:bW Tryz.prog 81 4=some (4,1,false):=by kernel_rfl
@[go_sem] theorem af3:bW Tryz.prog 81 5=some (5,1,false):=by kernel_rfl
@[go_sem] theorem af2:bW Tryz.prog 81 6=some (6,1,false):=by kernel_rfl
@[go_sem] theorem ag0:bc Tryz.prog 95=some (false,1):=by kernel_rfl
@[go_sem] theorem aeJ:bh Tryz.prog 95=some .nilFunc:=by kernel_rfl
@[go_sem] theorem agZ:bc Tryz.prog 96=some (false,1):=by kernel_rfl
@[go_sem] theorem aeI:bh Tryz.prog 96=some .nilFunc:=by kernel_rfl
@[go_sem] theorem agY:bc Tryz.prog 97=some (false,1):=by kernel_rfl
@[go_sem] theorem aeH:bh Tryz.prog 97=some .nilFunc:=by kernel_rfl
@[go_sem] theorem agX:bc Tryz.prog 98=some (false,1):=by kernel_rfl
@[go_sem] theorem aeG:bh Tryz.prog 98=some .nilFunc:=by kernel_rfl
@[go_sem] theorem ahS:bc Tryz.prog 100=some (true,5):=by kernel_rfl
@[go_sem] theorem afu:jC Tryz.prog 100=some (5,1,false):=by kernel_rfl
@[go_sem] theorem afK:iq Tryz.prog 100=some [(0,1),(1,1),(2,1),(3,1),(4,1)]:=by kernel_rfl
@[go_sem] theorem afq:bh Tryz.prog 100=some (.agg #[(.int .i64 0),(.int .i64 0),(.int .i64 0),(.int .i64 0),(.int .i64 0)]):=by kernel_rfl
@[go_sem] theorem ahR:bc Tryz.prog 103=some (false,1):=by kernel_rfl
@[go_sem] theorem agW:cr Tryz.prog 103=some (4,1,1):=by kernel_rfl
@[go_sem] theorem afZ:dB Tryz.prog 103=some 0:=by kernel_rfl
@[go_sem] theorem afp:bh Tryz.prog 103=some (.slice none 0 0):=by kernel_rfl
@[go_sem] theorem ahQ:bc Tryz.prog 108=some (true,7):=by kernel_rfl
@[go_sem] theorem afJ:iq Tryz.prog 108=some [(0,4),(4,1),(5,1),(6,1)]:=by kernel_rfl
@[go_sem] theorem afo:bh Tryz.prog 108=some (.agg #[(.slice none 0 0),(.slice none 0 0),(.slice none 0 0),(.slice none 0 0),(.int .i64 0),(.slice none 0 0),(.slice none 0 0)]):=by kernel_rfl
@[go_sem] theorem agM:bW Tryz.prog 108 0=some (0,4,true):=by kernel_rfl
@[go_sem] theorem agL:bW Tryz.prog 108 1=some (4,1,false):=by kernel_rfl
@[go_sem] theorem agK:bW Tryz.prog 108 2=some (5,1,false):=by kernel_rfl
@[go_sem] theorem agJ:bW Tryz.prog 108 3=some (6,1,false):=by kernel_rfl
@[go_sem] theorem ahP:bc Tryz.prog 112=some (false,1):=by kernel_rfl
@[go_sem] theorem ahO:bc Tryz.prog 113=some (false,1):=by kernel_rfl
@[go_sem] theorem afn:bh Tryz.prog 113=some (.pointer none):=by kernel_rfl
@[go_sem] theorem ahN:bc Tryz.prog 115=some (false,1):=by kernel_rfl
@[go_sem] theorem afm:bh Tryz.prog 115=some (.pointer none):=by kernel_rfl
@[go_sem] theorem ahM:bc Tryz.prog 117=some (false,1):=by kernel_rfl
@[go_sem] theorem ahL:bc Tryz.prog 119=some (false,1):=by kernel_rfl
@[go_sem] theorem ahK:bc Tryz.prog 120=some (false,1):=by kernel_rfl
@[go_sem] theorem afY:dB Tryz.prog 120=some 2:=by kernel_rfl
@[go_sem] theorem afN:kL Tryz.prog 120=some (2,3):=by kernel_rfl
@[go_sem] theorem afl:bh Tryz.prog 120=some (.map none):=by kernel_rfl
@[go_sem] theorem ahJ:bc Tryz.prog 121=some (false,1):=by kernel_rfl
@[go_sem] theorem afX:dB Tryz.prog 121=some 2:=by kernel_rfl
@[go_sem] theorem afM:kL Tryz.prog 121=some (0,38):=by kernel_rfl
@[go_sem] theorem afk:bh Tryz.prog 121=some (.map none):=by kernel_rfl
@[go_sem] theorem ahI:bc Tryz.prog 123=some (true,5):=by kernel_rfl
@[go_sem] theorem afI:iq Tryz.prog 123=some [(0,1),(1,1),(2,1),(3,1),(4,1)]:=by kernel_rfl
@[go_sem] theorem afj:bh Tryz.prog 123=some (.agg #[(.pointer none),(.slice none 0 0),(.slice none 0 0),(.map none),(.map none)]):=by kernel_rfl
@[go_sem] theorem agI:bW Tryz.prog 123 0=some (0,1,false):=by kernel_rfl
@[go_sem] theorem agH:bW Tryz.prog 123 1=some (1,1,false):=by kernel_rfl
@[go_sem] theorem agG:bW Tryz.prog 123 2=some (2,1,false):=by kernel_rfl
@[go_sem] theorem agF:bW Tryz.prog 123 3=some (3,1,false):=by kernel_rfl
@[go_sem] theorem agE:bW Tryz.prog 123 4=some (4,1,false):=by kernel_rfl
@[go_sem] theorem ahH:bc Tryz.prog 125=some (true,2):=by kernel_rfl
@[go_sem] theorem afH:iq Tryz.prog 125=some [(0,1),(1,1)]:=by kernel_rfl
@[go_sem] theorem afi:bh Tryz.prog 125=some (.agg #[(.int .i64 0),(.int .i64 0)]):=by kernel_rfl
@[go_sem] theorem agD:bW Tryz.prog 125 0=some (0,1,false):=by kernel_rfl
@[go_sem] theorem agC:bW Tryz.prog 125 1=some (1,1,false):=by kernel_rfl
@[go_sem] theorem ahG:bc Tryz.prog 131=some (true,7):=by kernel_rfl
@[go_sem] theorem aft:jC Tryz.prog 131=some (7,1,false):=by kernel_rfl
@[go_sem] theorem afG:iq Tryz.prog 131=some [(0,1),(1,1),(2,1),(3,1),(4,1),(5,1),(6,1)]:=by kernel_rfl
@[go_sem] theorem afh:bh Tryz.prog 131=some (.agg #[(.int .i64 0),(.int .i64 0),(.int .i64 0),(.int .i64 0),(.int .i64 0),(.int .i64 0),(.int .i64 0)]):=by kernel_rfl
@[go_sem] theorem ahF:bc Tryz.prog 135=some (false,1):=by kernel_rfl
@[go_sem] theorem afg:bh Tryz.prog 135=some .nilFunc:=by kernel_rfl
@[go_sem] theorem ahE:bc Tryz.prog 139=some (false,1):=by kernel_rfl
@[go_sem] theorem aff:bh Tryz.prog 139=some .nilFunc:=by kernel_rfl
@[go_sem] theorem ahD:bc Tryz.prog 140=some (false,1):=by kernel_rfl
@[go_sem] theorem afe:bh Tryz.prog 140=some .nilFunc:=by kernel_rfl
@[go_sem] theorem ahC:bc Tryz.prog 150=some (false,1):=by kernel_rfl
@[go_sem] theorem afd:bh Tryz.prog 150=some .nilFunc:=by kernel_rfl
@[go_sem] theorem ahB:bc Tryz.prog 153=some (false,1):=by kernel_rfl
@[go_sem] theorem afc:bh Tryz.prog 153=some .nilFunc:=by kernel_rfl
@[go_sem] theorem ahA:bc Tryz.prog 155=some (false,1):=by kernel_rfl
@[go_sem] theorem afb:bh Tryz.prog 155=some .nilFunc:=by kernel_rfl
@[go_sem] theorem ahz:bc Tryz.prog 157=some (false,1):=by kernel_rfl
@[go_sem] theorem afa:bh Tryz.prog 157=some .nilFunc:=by kernel_rfl
@[go_sem] theorem ahy:bc Tryz.prog 159=some (false,1):=by kernel_rfl
@[go_sem] theorem ae':bh Tryz.prog 159=some .nilFunc:=by kernel_rfl
@[go_sem] theorem ahx:bc Tryz.prog 160=some (false,1):=by kernel_rfl
@[go_sem] theorem afW:dB Tryz.prog 160=some 2:=by kernel_rfl
@[go_sem] theorem afL:kL Tryz.prog 160=some (0,4):=by kernel_rfl
@[go_sem] theorem ae9:bh Tryz.prog 160=some (.map none):=by kernel_rfl
@[go_sem] theorem ahw:bc Tryz.prog 161=some (false,1):=by kernel_rfl
@[go_sem] theorem ae8:bh Tryz.prog 161=some .nilFunc:=by kernel_rfl
@[go_sem] theorem ahv:bc Tryz.prog 164=some (false,1):=by kernel_rfl
@[go_sem] theorem aht:bc Tryz.prog 186=some (false,1):=by kernel_rfl
@[go_sem] theorem ae6:bh Tryz.prog 186=some .nilFunc:=by kernel_rfl
@[go_sem] theorem ahs:bc Tryz.prog 188=some (false,1):=by kernel_rfl
@[go_sem] theorem ae5:bh Tryz.prog 188=some .nilFunc:=by kernel_rfl
@[go_sem] theorem ahr:bc Tryz.prog 191=some (false,1):=by kernel_rfl
@[go_sem] theorem ae4:bh Tryz.prog 191=some .nilFunc:=by kernel_rfl
@[go_sem] theorem ahq:bc Tryz.prog 201=some (false,1):=by kernel_rfl
@[go_sem] theorem ae3:bh Tryz.prog 201=some .nilFunc:=by kernel_rfl
@[go_sem] theorem ahp:bc Tryz.prog 205=some (false,1):=by kernel_rfl
@[go_sem] theorem aho:bc Tryz.prog 208=some (false,1):=by kernel_rfl
@[go_sem] theorem af1:nG Tryz.prog 208=some .u64:=by kernel_rfl
@[go_sem] theorem ae2:bh Tryz.prog 208=some (.int .u64 0):=by kernel_rfl
theorem eK:Tryz.prog.follows .mixedOrders=true:=by kernel_rfl
structure Pap where
 (id lv:Int)
 deriving Inhabited,DecidableEq
structure Rec where
 (so bo pa:Int)
 lv:List Int
 (da kn un:Int)
 deriving Inhabited,DecidableEq
structure Ret where
 (so re pe:Int)
 lv:List Int
 (lo hi kn un:Int)
 deriving Inhabited,DecidableEq
structure Sig where
 (so pe pa le da kn un:Int)
 deriving Inhabited,DecidableEq
structure Led where
 ps:List Pap
 rs:List Rec
 ts:List Ret
 ss:List Sig
 deriving Inhabited,DecidableEq
def kD:V->Int
 | .int _ n=>n
 |_=>0
def BA:V->Bool
 | .bool b=>b
 |_=>false
def Pv:V->List Int
 | .sl l=>l.map kD
 |_=>[]
def cP(p:Pap):V:=.agg [vInt p.id,vInt p.lv]
def rO:V->Pap
 | .agg [.int _ a,.int _ b]=>⟨a,b⟩
 |_=>default
def encR(r:Rec):V:=.agg [vInt r.so,vInt r.bo,vInt r.pa,.sl (r.lv.map vInt),vInt r.da,vInt r.kn,vInt r.un]
def lq:V->Rec
 | .agg [.int _ a,.int _ b,.int _ c,.sl l,.int _ d,.int _ e,.int _ f]=>⟨a,b,c,l.map kD,d,e,f⟩
 |_=>default
def c9(r:Ret):V:=.agg [vInt r.so,vInt r.re,vInt r.pe,.sl (r.lv.map vInt),vInt r.lo,vInt r.hi,vInt r.kn,vInt r.un]
def m6:V->Ret
 | .agg [.int _ a,.int _ b,.int _ c,.sl l,.int _ d,.int _ g,.int _ e,.int _ f]=>⟨a,b,c,l.map kD,d,g,e,f⟩
 |_=>default
def encS(s:Sig):V:=.agg [vInt s.so,vInt s.pe,vInt s.pa,vInt s.le,vInt s.da,vInt s.kn,vInt s.un]
def jT:V->Sig
 | .agg [.int _ a,.int _ b,.int _ c,.int _ d,.int _ e,.int _ f,.int _ g]=>⟨a,b,c,d,e,f,g⟩
 |_=>default
def ft(l:Led):V:=.agg [.sl (l.ps.map cP),.sl (l.rs.map encR),.sl (l.ts.map c9),.sl (l.ss.map encS)]
def Pt:V->Led
 | .agg [.sl a,.sl b,.sl c,.sl d]=>⟨a.map rO,b.map lq,c.map m6,d.map jT⟩
 |_=>default
def gk(l:Led):V:=.ptr [.sl (l.ps.map cP),.sl (l.rs.map encR),.sl (l.ts.map c9),.sl (l.ss.map encS)]
def Bx:V->Led
 | .ptr [.sl a,.sl b,.sl c,.sl d]=>⟨a.map rO,b.map lq,c.map m6,d.map jT⟩
 |_=>default
@[go_sem] theorem o7(l:List Int):(l.map vInt).map kD=l:=by rw[List.map_map];exact List.map_id _
@[go_sem] theorem ail(l:List Bool):(l.map V.bool).map BA=l:=by rw[List.map_map];exact List.map_id _
theorem abo(p:Pap):rO (cP p)=p:=rfl
theorem abj(r:Rec):lq (encR r)=r:=by
 cases r;simp only[encR,lq,o7]
theorem abe(r:Ret):m6 (c9 r)=r:=by
 cases r;simp only[c9,m6,o7]
theorem abg(r:Sig):jT (encS r)=r:=rfl
theorem qV{α:Type}{e:α->V}{d:V->α}(h:∀ a,d (e a)=a)(l:List α):(l.map e).map d=l:=by
 rw[List.map_map]
 have :d∘e=id:=funext h
 rw[this,List.map_id]
@[go_sem] theorem Po(l:List Pap):(l.map cP).map rO=l:=qV abo l
@[go_sem] theorem Bv(l:List Rec):(l.map encR).map lq=l:=qV abj l
@[go_sem] theorem Pm(l:List Ret):(l.map c9).map m6=l:=qV abe l
@[go_sem] theorem vY(l:List Sig):(l.map encS).map jT=l:=qV abg l
@[go_sem] theorem aic(p:Pap):(⟨p.id,p.lv⟩:Pap)=p:=rfl
@[go_sem] theorem aib(r:Rec):(⟨r.so,r.bo,r.pa,r.lv,r.da,r.kn,r.un⟩:Rec)=r:=rfl
@[go_sem] theorem ah7(r:Ret):(⟨r.so,r.re,r.pe,r.lv,r.lo,r.hi,r.kn,r.un⟩:Ret)=r:=rfl
@[go_sem] theorem ah8(r:Sig):(⟨r.so,r.pe,r.pa,r.le,r.da,r.kn,r.un⟩:Sig)=r:=rfl
@[go_sem] theorem aih(l:Led):(⟨l.ps,l.rs,l.ts,l.ss⟩:Led)=l:=rfl
def iI:En Int:=⟨vInt,kD⟩
def iB:En Bool:=⟨.bool,BA⟩
def dL:En (List Int):=⟨fun l=>.sl (l.map vInt),Pv⟩
def iP:En Pap:=⟨cP,rO⟩
def iR:En Rec:=⟨encR,lq⟩
def iT:En Ret:=⟨c9,m6⟩
def iS:En Sig:=⟨encS,jT⟩
def iL:En Led:=⟨ft,Pt⟩
def lS:En Led:=⟨gk,Bx⟩
attribute [go_sem] iI iB dL iP iR iT iS iL lS kD BA Pv cP rO encR lq c9 m6 encS jT ft Pt gk Bx
def bO(n lo hi:Int):Bool:=decide (lo<=n)&&decide (n<=hi)
def dayB(n:Int):Bool:=bO n 0 100000
noncomputable section
@[go_sem] def P96:PSpec:=p3 iI iI iI (fun _ _ _=>True) (fun n lo hi=>.bool (bO n lo hi)) true
@[go_sem] def uo:Spec:=P96.toSpec
theorem sk:aU Tryz.prog 96 P96:=by
 refine mq (rs:=[.tmp 6]) Tryz.func96 Tryz.ntmps96 fun n lo hi hp hw=>?_
 simp only[iI]at hw |-
 have hΓ:=@fx Tryz.prog
 repeat refine sq ?_
 refine rs hΓ [0,1,2] [] ?_
 repeat refine sq ?_
 refine rs hΓ [6] [] ?_
 refine aA ?_
 simp only[go_sem]
 all_goals exact dV
@[go_sem] def P189:PSpec:=p1 iI (fun _=>True) (fun _=>.bool false) true
@[go_sem] def ac9:Spec:=P189.toSpec
theorem Tj:aU Tryz.prog 189 P189:=by
 refine gp (rs:=[.tmp 2]) Tryz.func189 Tryz.ntmps189 fun n hp hw=>?_
 simp only[iI]at hw |-
 have hΓ:=@fx Tryz.prog
 repeat refine sq ?_
 refine rs hΓ [0] [] ?_
 repeat refine sq ?_
 refine rs hΓ [2] [] ?_
 refine aA ?_
 simp only[go_sem]
 all_goals exact dV
def K1:List (Nat×Spec):=[(96,uo),(189,ac9)]
theorem wx:KS K1:=tc sk.sound<|tc Tj.sound<|tn
attribute [go_sem] K1
@[go_sem] def P144:PSpec:=p1 iI (fun _=>True) (fun n=>.bool (bO n 1 999)) true
@[go_sem] def Q9:Spec:=P144.toSpec
theorem I4:aU Tryz.prog 144 P144:=by
 refine gp (rs:=[.tmp 2]) Tryz.func144 Tryz.ntmps144 fun n hp hw=>?_
 simp only[iI]at hw |-
 have hΓ:=wx
 repeat refine sq ?_
 refine rs hΓ [0] [] ?_
 repeat refine sq ?_
 refine rs hΓ [2] [] ?_
 refine aA ?_
 simp only[go_sem]
 all_goals exact dV
@[go_sem] def P145:PSpec:=p1 iI (fun _=>True) (fun n=>.bool (bO n 1 30)) true
@[go_sem] def HI:Spec:=P145.toSpec
theorem CY:aU Tryz.prog 145 P145:=by
 refine gp (rs:=[.tmp 2]) Tryz.func145 Tryz.ntmps145 fun n hp hw=>?_
 simp only[iI]at hw |-
 have hΓ:=wx
 repeat refine sq ?_
 refine rs hΓ [0] [] ?_
 repeat refine sq ?_
 refine rs hΓ [2] [] ?_
 refine aA ?_
 simp only[go_sem]
 all_goals exact dV
@[go_sem] def P147:PSpec:=p1 iI (fun _=>True) (fun n=>.bool (bO n 1 99999)) true
@[go_sem] def Q8:Spec:=P147.toSpec
theorem I3:aU Tryz.prog 147 P147:=by
 refine gp (rs:=[.tmp 2]) Tryz.func147 Tryz.ntmps147 fun n hp hw=>?_
 simp only[iI]at hw |-
 have hΓ:=wx
 repeat refine sq ?_
 refine rs hΓ [0] [] ?_
 repeat refine sq ?_
 refine rs hΓ [2] [] ?_
 refine aA ?_
 simp only[go_sem]
 all_goals exact dV
@[go_sem] def P148:PSpec:=p1 iI (fun _=>True) (fun n=>.bool (bO n 1 99)) true
@[go_sem] def Q7:Spec:=P148.toSpec
theorem I2:aU Tryz.prog 148 P148:=by
 refine gp (rs:=[.tmp 2]) Tryz.func148 Tryz.ntmps148 fun n hp hw=>?_
 simp only[iI]at hw |-
 have hΓ:=wx
 repeat refine sq ?_
 refine rs hΓ [0] [] ?_
 repeat refine sq ?_
 refine rs hΓ [2] [] ?_
 refine aA ?_
 simp only[go_sem]
 all_goals exact dV
@[go_sem] def P150:PSpec:=p1 iI (fun _=>True) (fun n=>.bool (dayB n)) true
@[go_sem] def HH:Spec:=P150.toSpec
theorem CX:aU Tryz.prog 150 P150:=by
 refine gp (rs:=[.tmp 2]) Tryz.func150 Tryz.ntmps150 fun n hp hw=>?_
 simp only[iI]at hw |-
 have hΓ:=wx
 repeat refine sq ?_
 refine rs hΓ [0] [] ?_
 repeat refine sq ?_
 refine rs hΓ [2] [] ?_
 refine aA ?_
 simp only[go_sem]
 all_goals exact dV
def m8(a b:Int):Int:=if a<b then -1 else if b<a then 1 else 0
@[go_sem] def P140:PSpec:=p2 iI iI (fun _ _=>True) (fun a b=>vInt (m8 a b)) true
@[go_sem] def adi:Spec:=P140.toSpec
theorem TD:aU Tryz.prog 140 P140:=by
 refine eZ (rs:=[.tmp 4]) Tryz.func140 Tryz.ntmps140 fun a b hp hw=>?_
 simp only[iI]at hw |-
 have hΓ:=wx
 repeat refine sq ?_
 refine rs hΓ [0,1] [] ?_
 repeat refine sq ?_
 refine rs hΓ [0,1,5] [] ?_
 repeat refine sq ?_
 refine rs hΓ [0,1,5,6] [] ?_
 repeat refine sq ?_
 refine rs hΓ [0,1,6,11] [] ?_
 repeat refine eX ?_
 refine ay (fun hb=>?_) fun hb=>?_
 ·repeat refine eX ?_
  repeat refine sq ?_
  refine rs hΓ [12] [] ?_
  repeat refine eX ?_
  refine ay (fun hb=>?_) fun hb=>?_
  ·repeat refine eX ?_
   repeat refine sq ?_
   refine rs hΓ [4] [] ?_
   refine aA ?_
   simp only[go_sem]
   all_goals first | rfl | (simp;done) | (grind [m8];done)
  ·repeat refine eX ?_
   refine aE ?_
   repeat refine sq ?_
   refine rs hΓ [4] [] ?_
   refine aA ?_
   simp only[go_sem]
   all_goals first | rfl | (simp;done) | (grind [m8];done)
 ·repeat refine eX ?_
  refine aE ?_
  repeat refine sq ?_
  refine rs hΓ [0,1,13] [] ?_
  repeat refine eX ?_
  refine ay (fun hb=>?_) fun hb=>?_
  ·repeat refine eX ?_
   repeat refine sq ?_
   refine rs hΓ [4] [] ?_
   refine aA ?_
   simp only[go_sem]
   all_goals first | rfl | (simp;done) | (grind [m8];done)
  ·repeat refine eX ?_
   refine aE ?_
   repeat refine sq ?_
   refine rs hΓ [0,1,16] [] ?_
   repeat refine eX ?_
   refine ay (fun hb=>?_) fun hb=>?_
   ·repeat refine eX ?_
    repeat refine sq ?_
    refine rs hΓ [4] [] ?_
    refine aA ?_
    simp only[go_sem]
    all_goals first | rfl | (simp;done) | (grind [m8];done)
   ·repeat refine eX ?_
    refine aE ?_
    repeat refine sq ?_
    refine rs hΓ [19] [] ?_
    repeat refine eX ?_
    refine ay (fun hb=>?_) fun hb=>?_
    ·repeat refine eX ?_
     repeat refine sq ?_
     refine rs hΓ [4] [] ?_
     refine aA ?_
     simp only[go_sem]
     all_goals first | rfl | (simp;done) | (grind [m8];done)
    ·repeat refine eX ?_
     refine aE ?_
     repeat refine sq ?_
     refine rs hΓ [4] [] ?_
     refine aA ?_
     simp only[go_sem]
     all_goals first | rfl | (simp;done) | (grind [m8];done)
def bI(since Ij known:Int):Bool:=decide (since<=known)&&(Ij==0||decide (known<Ij))
@[go_sem] def P157:PSpec:=p3 iI iI iI (fun _ _ _=>True) (fun a b c=>.bool (bI a b c)) true
@[go_sem] def Cj:Spec:=P157.toSpec
theorem CV:aU Tryz.prog 157 P157:=by
 refine mq (rs:=[.tmp 6]) Tryz.func157 Tryz.ntmps157 fun a b c hp hw=>?_
 simp only[iI]at hw |-
 have hΓ:=@fx Tryz.prog
 repeat refine sq ?_
 refine rs hΓ [0,1,2] [] ?_
 repeat refine sq ?_
 refine rs hΓ [6] [] ?_
 refine aA ?_
 simp only[go_sem]
 all_goals first | rfl | (simp;done) | (grind [bI];done)
@[go_sem] def P162:PSpec:=p3 iI iI iI (fun _ _ _=>True) (fun a b c=>.bool (bI a b c)) true
@[go_sem] def S162:Spec:=P162.toSpec
theorem Tv:aU Tryz.prog 162 P162:=by
 refine mq (rs:=[.tmp 6]) Tryz.func162 Tryz.ntmps162 fun a b c hp hw=>?_
 simp only[iI]at hw |-
 have hΓ:=@fx Tryz.prog
 repeat refine sq ?_
 refine rs hΓ [0,1,2] [] ?_
 repeat refine sq ?_
 refine rs hΓ [6] [] ?_
 refine aA ?_
 simp only[go_sem]
 all_goals first | rfl | (simp;done) | (grind [bI];done)
theorem MX:aL Tryz.prog 162 S162:=Tv.sound
end
noncomputable section
def lA(k u:Int):Bool:=dayB k&&(u==0||(decide (k<u)&&decide (u<=100000)))
def K2:List (Nat×Spec):=[(96,uo),(145,HI),(150,HH),(144,Q9),(147,Q8),(148,Q7)]
theorem aeh:KS K2:=tc sk.sound<|tc CY.sound<|tc CX.sound<|tc I4.sound<|tc I3.sound<|tc I2.sound<|tn
attribute [go_sem] K2
theorem R4(k u:Int):(dayB k&&(u==0||bO u (IntKind.i64.wrap (k+1)) 100000))=lA k u:=by
 unfold lA
 cases h:dayB k with
 |false=>rfl
 |true=>
  unfold dayB bO at h
  simp only[Bool.and_eq_true,decide_eq_true_eq]at h
  rw[wrap_i64 (by omega) (by omega)]
  unfold bO
  simp only[Bool.true_and]
  congr 2
@[go_sem] def P151:PSpec:=p2 iI iI (fun _ _=>True) (fun a b=>.bool (lA a b)) true
@[go_sem] def adg:Spec:=P151.toSpec
theorem TB:aU Tryz.prog 151 P151:=by
 refine eZ (rs:=[.tmp 4]) Tryz.func151 Tryz.ntmps151 fun k u hp hw=>?_
 simp only[iI]at hw |-
 have hΓ:=aeh
 repeat refine sq ?_
 refine rs hΓ [0,1] [] ?_
 repeat refine sq ?_
 refine rs hΓ [4] [] ?_
 refine aA ?_
 simp only[go_sem]
 all_goals first | rfl | (simp;done) | (exact congrArg V.bool (R4 _ _);done)
open Classical in
def sr(l:List Int):Bool:=decide (∀ j (h:j<l.length),0<j->l[j-1] <l[j])
theorem zD{l:List Int}:sr l=true↔∀ j (h:j<l.length),0<j->l[j-1] <l[j]:=by unfold sr;exact decide_eq_true_iff
theorem T8{l:List Int}{j:Nat}(h:j<l.length)(h0:0<j)(hb:l[j-1]>=l[j]):sr l=false:=by
 rw[Bool.eq_false_iff]
 intro k
 have :=zD.1 k j h h0
 omega
theorem HZ{i n:Nat}(h0:0<i)(h:i<=n)(hn:n<=maxLen):IntKind.i64.wrap ((i:Int)-1)=((i-1:Nat):Int):=Ct (by omega) (Nat.le_trans h hn)
@[go_sem] def P130:PSpec:=p1 dL (fun _=>True) (fun l=>.bool (sr l)) true
@[go_sem] def Q':Spec:=P130.toSpec
set_option maxHeartbeats 4000000 in
theorem TF:aU Tryz.prog 130 P130:=by
 refine gp (rs:=[.tmp 2]) Tryz.func130 Tryz.ntmps130 fun l hp hw=>?_
 have hP:=eK
 simp only[dL]at hw |-
 have hΓ:=@fx Tryz.prog
 have hl:l.length<=maxLen:=by have:=hw.1.1;simpa using this
 repeat refine sq ?_
 refine rs hΓ [0] [] ?_
 repeat refine sq ?_
 refine rs hΓ [0,3] [] ?_
 repeat refine sq ?_
 refine aN ?_
 repeat refine sq ?_
 refine cB (fun i:Nat=>[(3,⟨true,.v (vInt i)⟩)]) (fun i=>[]) (fun i=>0<i/\∀ j (h:j<l.length),j<i->0<j->l[j-1] <l[j]) (fun i=>l.length-i) 1 ?_ ?_ ?_ ?_
 ·exact⟨Nat.one_pos,fun j h h1 h2=>by omega⟩
 ·rfl
 ·rfl
 rintro i ⟨h0,hz⟩
 simp only[go_sem]
 repeat refine sq ?_
 refine rs hΓ [0,3,7] [] ?_
 repeat refine sq ?_
 refine ay (fun hb=>?_) fun hb=>?_
 ·have ab:i<l.length:=by simpa using hb
  have au:(i:Int)<l.length:=by omega
  have rm:=HZ h0 (Nat.le_of_lt ab) hl
  have E1:(0:Int)<=((i-1:Nat):Int):=by omega
  have rq:((i-1:Nat):Int)<l.length:=by omega
  have E0:i-1<l.length:=by omega
  repeat refine sq ?_
  refine aE ?_
  repeat refine sq ?_
  refine aN ?_
  repeat refine sq ?_
  refine dx hΓ hP [[],[],[1],[0,1,2],u4,[],[],[5,6],[5,6,7],u9] [0,3,19] [] (by kernel_rfl) (fun K' hK=>by simp only[go_sem,rm,ah ab,ah E0,ai,aj,au,rq];exact fd) ?_
  repeat refine sq ?_
  refine ay (fun hb=>?_) fun hb=>?_
  ·repeat refine sq ?_
   refine rs hΓ [2] [] ?_
   refine aA ?_
   simp only[go_sem]
   rw[T8 ab h0 (by simpa using hb)]
  ·replace hb:l[i-1] <l[i]:=by simpa using hb
   repeat refine sq ?_
   refine aE ?_
   refine bQ ?_
   simp only[go_sem]
   refine kp [0,3] [] ?_
   repeat refine sq ?_
   refine aP hΓ fun K' hK=>?_
   simp only[go_sem]
   repeat (refine⟨ob,?_⟩)
   refine hK _ ?_
   clear K' hK
   simp only[go_sem]
   refine⟨i+1,⟨by omega,fun j h h1 h2=>?_⟩,by omega,?_⟩
   ·rcases Nat.lt_succ_iff_lt_or_eq.1 h1 with h3 | rfl
    ·exact hz j h h3 h2
    ·exact hb
   refine bd [0,3] [] ?_ ?_<;>simp only[go_sem,a7 ab hl,bb]
 ·have bB:l.length<=i:=by
    have :¬ (i:Int)<l.length:=by simpa using hb
    omega
  repeat refine sq ?_
  refine bT ?_
  simp only[go_sem]
  refine kp [] [] ?_
  repeat refine sq ?_
  refine rs hΓ [2] [] ?_
  refine aA ?_
  simp only[go_sem]
  rw[zD.2 fun j h h0=>hz j h (by omega) h0]
end
noncomputable section
def K3:List (Nat×Spec):=[(130,Q'),(145,HI),(96,uo)]
theorem ad3:KS K3:=tc TF.sound<|tc CY.sound<|tc sk.sound<|tn
attribute [go_sem] K3
def lP(l:List Int):Bool:=decide (0<l.length)&&sr l&&bO (l.getD 0 0) 1 30&&bO (l.getD (l.length-1) 0) 1 30
@[go_sem] def P149:PSpec:=p1 dL (fun _=>True) (fun l=>.bool (lP l)) true
@[go_sem] def adh:Spec:=P149.toSpec
set_option maxHeartbeats 4000000 in
theorem TC:aU Tryz.prog 149 P149:=by
 refine gp (rs:=[.tmp 2]) Tryz.func149 Tryz.ntmps149 fun l hp hw=>?_
 simp only[dL]at hw |-
 have hΓ:=ad3
 have hl:l.length<=maxLen:=by have:=hw.1.1;simpa using this
 by_cases h0:l.length=0
 ·have e0:l=[]:=List.length_eq_zero_iff.1 h0
  subst e0
  repeat refine sq ?_
  refine rs hΓ [0] [] ?_
  repeat refine sq ?_
  refine rs hΓ [2] [] ?_
  refine aA ?_
  simp only[go_sem]
  rfl
 ·have hq:0<l.length:=by omega
  have bL:(0:Int)<l.length:=by omega
  have oW:=Ct h0 hl
  have AI:((l.length-1:Nat):Int)<l.length:=by omega
  have lW:l.length-1<l.length:=by omega
  have hp3:(0:Int)<=((l.length-1:Nat):Int):=by omega
  have ZS:(l.map vInt).getD 0 default=vInt (l.getD 0 0):=by rw[ah hq,cj hq]
  have eF:(l.map vInt).getD (l.length-1) default=vInt (l.getD (l.length-1) 0):=by rw[ah lW,cj lW]
  have hd:decide ((l.length:Int)>0)=true:=by simpa using hq
  repeat refine sq ?_
  refine rs hΓ [0] [] ?_
  repeat refine sq ?_
  refine rx hΓ [2] [] (fun K' hK=>by simp only[go_sem,oW,ZS,eF,ai,Int.toNat_zero,aj,bL,AI,hd,decide_true];exact fn) ?_
  refine aA ?_
  simp only[go_sem]
  have E0:decide (0<l.length)=true:=by simpa using hq
  simp only[lP,E0,Bool.true_and,Bool.decide_and,Bool.decide_eq_true]
theorem zO{i n:Nat}(h:i<n)(hn:n<=maxLen):∃ p:Nat,(IntKind.i64.wrap ((i:Int)-1)).toNat=p/\p<n/\(0<i->p=i-1/\0<=IntKind.i64.wrap ((i:Int)-1)/\IntKind.i64.wrap ((i:Int)-1)<n):=by
 unfold maxLen at hn
 rcases Nat.eq_zero_or_pos i with rfl | hp
 ·exact⟨0,by decide,h,fun h=>by omega⟩
 ·have:IntKind.i64.wrap ((i:Int)-1)=((i-1:Nat):Int):=by rw[wrap_i64 (by omega) (by omega)];omega
  exact⟨i-1,by rw[this];rfl,by omega,fun _=>⟨rfl,by omega,by omega⟩⟩
theorem C7{l:List Int}(hr:sr l=true):∀ (k j:Nat) (h:j+k<l.length),l[j]+k<=l[j+k]
 | 0,j,h=>by simp
 |k+1,j,h=>by
  have h1:=C7 hr k j (by omega)
  have h2:=zD.1 hr (j+k+1) (by omega) (by omega)
  have e:j+k+1-1=j+k:=by omega
  simp only[e]at h2
  show l[j]+((k+1:Nat):Int)<=l[j+k+1]
  omega
theorem qY{l:List Int}:lP l=true↔0<l.length/\l.length<=30/\sr l=true/\∀ j (h:j<l.length),bO l[j] 1 30=true:=by
 unfold lP
 simp only[Bool.and_eq_true,decide_eq_true_eq]
 constructor
 ·rintro⟨⟨⟨h1,h2⟩,h3⟩,h4⟩
  have lW:l.length-1<l.length:=by omega
  rw[cj h1]at h3
  rw[cj lW]at h4
  unfold bO at h3 h4 |-
  simp only[Bool.and_eq_true,decide_eq_true_eq]at h3 h4 |-
  have fc:∀ j (h:j<l.length),l[0]+j<=l[j]:=fun j h=>by
   have :=C7 h2 j 0 (by omega)
   simpa using this
  have hS:∀ j (h:j<l.length),l[j]<=l[l.length-1]:=fun j h=>by
   have :=C7 h2 (l.length-1-j) j (by omega)
   have e:j+(l.length-1-j)=l.length-1:=by omega
   simp only[e]at this
   omega
  refine⟨h1,?_,h2,fun j h=>?_⟩
  ·have:=fc _ lW;omega
  ·have a:=fc j h;have b:=hS j h;omega
 ·rintro⟨h1,h2,h3,h4⟩
  have lW:l.length-1<l.length:=by omega
  refine⟨⟨⟨h1,h3⟩,?_⟩,?_⟩
  ·rw[cj h1];exact h4 0 h1
  ·rw[cj lW];exact h4 _ lW
theorem wh{b:Bool}{p:Prop}(h:b=true↔p)(hn:¬ p):b=false:=by
 cases b with
 |false=>rfl
 |true=>exact(hn (h.1 rfl)).elim
end
set_option maxHeartbeats 8000000
noncomputable section
def K4:List (Nat×Spec):=[(96,uo),(144,Q9),(145,HI),(147,Q8),(148,Q7),(149,adh),(150,HH),(151,adg)]
theorem Cp:KS K4:=tc sk.sound<|tc I4.sound<|tc CY.sound<|tc I3.sound<|tc I2.sound<|tc TC.sound<|tc CX.sound<|tc TB.sound<|tn
attribute [go_sem] K4
def ib(b:Bool)(n:Int):Int:=if b then 0 else n
theorem Bo(b:Bool)(n:Int)(hn:n≠0):(ib b n != 0)=!b:=by cases b<;>simp[ib,hn]
def mD(p:Pap):Bool:=bO p.id 1 999&&bO p.lv 1 30
def eh(r:Rec):Bool:=bO r.so 1 99999&&bO r.bo 1 99&&bO r.pa 1 999&&lP r.lv&&dayB r.da&&lA r.kn r.un
def j9(r:Ret):Bool:=bO r.so 1 99999&&bO r.re 1 99999&&bO r.pe 1 99&&lP r.lv&&bO r.lo 0 r.hi&&dayB r.hi&&lA r.kn r.un
def kN(s:Sig):Bool:=bO s.so 1 99999&&bO s.pe 0 99&&bO s.pa 1 999&&bO s.le 1 30&&dayB s.da&&lA s.kn s.un
@[go_sem] def P61:PSpec:=p1 iP (fun _=>True) (fun x=>vInt (ib (mD x) 20)) true
@[go_sem] def S61:Spec:=P61.toSpec
theorem S9:aU Tryz.prog 61 P61:=by
 refine gp (rs:=[.tmp 2]) Tryz.func61 Tryz.ntmps61 fun x hp hw=>?_
 simp only[iP,cP]at hw |-
 have hΓ:=Cp
 repeat refine sq ?_
 refine rs hΓ [1] [[1,0]] ?_
 repeat refine sq ?_
 refine rs hΓ [12] [] ?_
 repeat refine eX ?_
 refine ay (fun hb=>?_) fun hb=>?_
 ·repeat refine eX ?_
  repeat refine sq ?_
  refine rs hΓ [2] [] ?_
  refine aA ?_
  simp only[go_sem]
  all_goals first | rfl | (simp;done) | (grind [mD,ib];done)
 ·repeat refine eX ?_
  refine aE ?_
  repeat refine sq ?_
  refine rs hΓ [2] [] ?_
  refine aA ?_
  simp only[go_sem]
  all_goals first | rfl | (simp;done) | (grind [mD,ib];done)
@[go_sem] def P63:PSpec:=p1 iR (fun _=>True) (fun x=>vInt (ib (eh x) 21)) true
@[go_sem] def S63:Spec:=P63.toSpec
theorem S8:aU Tryz.prog 63 P63:=by
 refine gp (rs:=[.tmp 2]) Tryz.func63 Tryz.ntmps63 fun x hp hw=>?_
 simp only[iR,encR]at hw |-
 have hΓ:=Cp
 repeat refine sq ?_
 refine rs hΓ [1] [[1,0]] ?_
 repeat refine sq ?_
 refine rs hΓ [38] [] ?_
 repeat refine eX ?_
 refine ay (fun hb=>?_) fun hb=>?_
 ·repeat refine eX ?_
  repeat refine sq ?_
  refine rs hΓ [2] [] ?_
  refine aA ?_
  simp only[go_sem]
  all_goals first | rfl | (simp;done) | (grind [eh,ib];done)
 ·repeat refine eX ?_
  refine aE ?_
  repeat refine sq ?_
  refine rs hΓ [2] [] ?_
  refine aA ?_
  simp only[go_sem]
  all_goals first | rfl | (simp;done) | (grind [eh,ib];done)
@[go_sem] def P65:PSpec:=p1 iT (fun _=>True) (fun x=>vInt (ib (j9 x) 22)) true
@[go_sem] def S65:Spec:=P65.toSpec
theorem S7:aU Tryz.prog 65 P65:=by
 refine gp (rs:=[.tmp 2]) Tryz.func65 Tryz.ntmps65 fun x hp hw=>?_
 simp only[iT,c9]at hw |-
 have hΓ:=Cp
 repeat refine sq ?_
 refine rs hΓ [1] [[1,0]] ?_
 repeat refine sq ?_
 refine rs hΓ [49] [] ?_
 repeat refine eX ?_
 refine ay (fun hb=>?_) fun hb=>?_
 ·repeat refine eX ?_
  repeat refine sq ?_
  refine rs hΓ [2] [] ?_
  refine aA ?_
  simp only[go_sem]
  all_goals first | rfl | (simp;done) | (grind [j9,ib];done)
 ·repeat refine eX ?_
  refine aE ?_
  repeat refine sq ?_
  refine rs hΓ [2] [] ?_
  refine aA ?_
  simp only[go_sem]
  all_goals first | rfl | (simp;done) | (grind [j9,ib];done)
@[go_sem] def P67:PSpec:=p1 iS (fun _=>True) (fun x=>vInt (ib (kN x) 23)) true
@[go_sem] def QX:Spec:=P67.toSpec
theorem S5:aU Tryz.prog 67 P67:=by
 refine gp (rs:=[.tmp 2]) Tryz.func67 Tryz.ntmps67 fun x hp hw=>?_
 simp only[iS,encS]at hw |-
 have hΓ:=Cp
 repeat refine sq ?_
 refine rs hΓ [1] [[1,0]] ?_
 repeat refine sq ?_
 refine rs hΓ [38] [] ?_
 repeat refine eX ?_
 refine ay (fun hb=>?_) fun hb=>?_
 ·repeat refine eX ?_
  repeat refine sq ?_
  refine rs hΓ [2] [] ?_
  refine aA ?_
  simp only[go_sem]
  all_goals first | rfl | (simp;done) | (grind [kN,ib];done)
 ·repeat refine eX ?_
  refine aE ?_
  repeat refine sq ?_
  refine rs hΓ [2] [] ?_
  refine aA ?_
  simp only[go_sem]
  all_goals first | rfl | (simp;done) | (grind [kN,ib];done)
@[go_sem] def P110:PSpec:=p1 iP (fun _=>True) (fun x=>vInt x.id) true
@[go_sem] def adr:Spec:=P110.toSpec
theorem TM:aU Tryz.prog 110 P110:=by
 refine gp (rs:=[.tmp 2]) Tryz.func110 Tryz.ntmps110 fun x hp hw=>?_
 simp only[iP,cP]at hw |-
 have hΓ:=@fx Tryz.prog
 repeat refine sq ?_
 refine rs hΓ [1] [[1,0]] ?_
 repeat refine sq ?_
 refine rs hΓ [2] [] ?_
 refine aA ?_
 simp only[go_sem]
 all_goals exact dV
@[go_sem] def P112:PSpec:=p1 iR (fun _=>True) (fun x=>vInt x.so) true
@[go_sem] def adp:Spec:=P112.toSpec
theorem TK:aU Tryz.prog 112 P112:=by
 refine gp (rs:=[.tmp 2]) Tryz.func112 Tryz.ntmps112 fun x hp hw=>?_
 simp only[iR,encR]at hw |-
 have hΓ:=@fx Tryz.prog
 repeat refine sq ?_
 refine rs hΓ [1] [[1,0]] ?_
 repeat refine sq ?_
 refine rs hΓ [2] [] ?_
 refine aA ?_
 simp only[go_sem]
 all_goals exact dV
@[go_sem] def P114:PSpec:=p1 iT (fun _=>True) (fun x=>vInt x.so) true
@[go_sem] def adn:Spec:=P114.toSpec
theorem TI:aU Tryz.prog 114 P114:=by
 refine gp (rs:=[.tmp 2]) Tryz.func114 Tryz.ntmps114 fun x hp hw=>?_
 simp only[iT,c9]at hw |-
 have hΓ:=@fx Tryz.prog
 repeat refine sq ?_
 refine rs hΓ [1] [[1,0]] ?_
 repeat refine sq ?_
 refine rs hΓ [2] [] ?_
 refine aA ?_
 simp only[go_sem]
 all_goals exact dV
@[go_sem] def P116:PSpec:=p1 iS (fun _=>True) (fun x=>vInt x.so) true
@[go_sem] def adl:Spec:=P116.toSpec
theorem TG:aU Tryz.prog 116 P116:=by
 refine gp (rs:=[.tmp 2]) Tryz.func116 Tryz.ntmps116 fun x hp hw=>?_
 simp only[iS,encS]at hw |-
 have hΓ:=@fx Tryz.prog
 repeat refine sq ?_
 refine rs hΓ [1] [[1,0]] ?_
 repeat refine sq ?_
 refine rs hΓ [2] [] ?_
 refine aA ?_
 simp only[go_sem]
 all_goals exact dV
end
set_option maxHeartbeats 8000000
noncomputable section
def K5:List (Nat×Spec):=[(61,S61),(63,S63),(65,S65),(67,QX),(110,adr),(112,adp),(114,adn),(116,adl)]
theorem Co:KS K5:=tc S9.sound<|tc S8.sound<|tc S7.sound<|tc S5.sound<|tc TM.sound<|tc TK.sound<|tc TI.sound<|tc TG.sound<|tn
attribute [go_sem] K5
def oP{α:Type}(fI:α->Bool)(num:α->Int)(l:List α)(n:Nat):Prop:=∀ j (h:j<l.length),j<n->fI l[j]=true/\(0<j->num l[j-1] <num l[j])
open Classical in
def jx{α:Type}(fI:α->Bool)(num:α->Int)(l:List α):Bool:=decide (oP fI num l l.length)
theorem kH{α:Type}{fI:α->Bool}{num:α->Int}{l:List α}:jx fI num l=true↔oP fI num l l.length:=by unfold jx;exact @decide_eq_true_iff _ (Classical.propDecidable _)
theorem zV{α:Type}{fI:α->Bool}{num:α->Int}{l:List α}:oP fI num l 0:=fun j _ h=>by omega
theorem zW{α:Type}{fI:α->Bool}{num:α->Int}{l:List α}{i:Nat}(h:oP fI num l i)(hi:i<l.length)(hc:fI l[i]=true/\(0<i->num l[i-1] <num l[i])):oP fI num l (i+1):=by
 intro j hj fe
 rcases Nat.lt_succ_iff_lt_or_eq.1 fe with h1 | rfl
 ·exact h j hj h1
 ·exact hc
@[go_sem] def P109:PSpec:=p4 (fP iP) iI (iF 61) (iF 110) (fun _ _ _ _=>True) (fun l m _ _=>.bool (jx mD Pap.id l&&decide ((l.length:Int)<=m))) true
@[go_sem] def ads:Spec:=P109.toSpec
theorem TN:aU Tryz.prog 109 P109:=by
 refine pv (rs:=[.tmp 8]) Tryz.func109 Tryz.ntmps109 fun l m _ _ hp hw=>?_
 have hP:=eK
 simp only[iF,iI,iP,fP,iC,cP]at hw |-
 have hΓ:=Co
 have hl:l.length<=maxLen:=by have:=hw.1.1;simpa using this
 repeat refine sq ?_
 refine rs hΓ [0,1,2,3] [] ?_
 repeat refine sq ?_
 refine rs hΓ [0,1,2,3,11,12,13] [] ?_
 repeat refine sq ?_
 refine aN ?_
 repeat refine sq ?_
 refine cB (fun s:Nat=>[(13,⟨true,.v (vInt s)⟩)]) (fun s=>[]) (fun s=>s<=l.length/\oP mD Pap.id l s) (fun s=>l.length-s) 0 ?_ ?_ ?_ ?_
 ·exact⟨Nat.zero_le _,zV⟩
 ·rfl
 ·rfl
 rintro i ⟨hi,hR⟩
 simp only[go_sem]
 repeat refine sq ?_
 refine rs hΓ [0,1,2,3,11,12,13,14] [] ?_
 repeat refine sq ?_
 refine ay (fun hb=>?_) fun hb=>?_
 ·have ab:i<l.length:=by simpa using hb
  have au:(i:Int)<l.length:=by omega
  clear hb
  obtain⟨p,hp,kW,cT⟩:=zO ab hl
  repeat refine sq ?_
  refine aE ?_
  repeat refine sq ?_
  refine aN ?_
  repeat refine sq ?_
  refine rx hΓ [0,1,2,3,9,10,11,12,13] [[10,0]] (fun K' hK=>by simp only[go_sem,ah ab,ai,aj,au];exact fn) ?_
  repeat refine sq ?_
  refine dx hΓ hP [[],[],[0,1],[0,1,2],u4,u5,u6,u7,u8,u8,u8,[0,1,2,3,4,5,6,7,10],[0,1,2,3,4,5,6,7,9,10,11],[0,1,2,3,4,5,6,7,9,10,11,12],il,u8,u8,lz,gS,kK,nE] [0,1,2,3,11,12,13,38] [] (by kernel_rfl) (fun K' hK=>by simp only[go_sem,ah ab,ai,aj,au,hp,ah kW,fun b=>Bo b 20 (by decide)];(repeat (refine⟨by first | exact ob | (intro h;have:=cT (by simp_all);simp_all;done),?_⟩));exact fG) ?_
  repeat refine sq ?_
  refine ay (fun hb=>?_) fun hb=>?_
  ·repeat refine sq ?_
   have kC:jx mD Pap.id l=false:=by
    rw[wh kH]
    intro h
    obtain⟨h1,h2⟩:=h i ab ab
    simp only[h1,Bool.not_true,Bool.false_or,Bool.and_eq_true,decide_eq_true_eq]at hb
    obtain⟨e,_⟩:=cT (by omega)
    subst e
    have :=h2 (by omega)
    have :=hb.2
    omega
   repeat refine sq ?_
   refine rx hΓ [8] [] (fun K' hK=>by simp only[go_sem,ah ab,ai,aj,au];exact fn) ?_
   refine aA ?_
   simp only[go_sem]
   rw[kC];rfl
  ·repeat refine sq ?_
   have hn:mD l[i]=true/\(0<i->Pap.id l[i-1] <Pap.id l[i]):=by
    simp only[Bool.or_eq_false_iff,Bool.not_eq_false',Bool.and_eq_false_iff,decide_eq_false_iff_not]at hb
    refine⟨hb.1,fun h=>?_⟩
    obtain⟨e,_⟩:=cT h
    subst e
    omega
   refine aE ?_
   refine bQ ?_
   simp only[go_sem]
   refine kp [0,1,2,3,11,12,13] [] ?_
   repeat refine sq ?_
   refine aP hΓ fun K' hK=>?_
   simp only[go_sem,ah ab,ai,aj,au]
   repeat (refine⟨ob,?_⟩)
   refine hK _ ?_
   clear K' hK
   simp only[go_sem]
   refine⟨i+1,⟨ab,?_⟩,by(show l.length-(i+1)<l.length-i;omega),?_⟩
   ·exact zW hR ab hn
   refine bd [0,1,2,3,11,12,13] [] ?_ ?_<;>simp only[go_sem,a7 ab hl,bb]
 ·have bB:i=l.length:=by
   have :¬ (i:Int)<l.length:=by simpa using hb
   omega
  clear hb
  subst bB
  repeat refine sq ?_
  refine bT ?_
  simp only[go_sem]
  refine kp [0,1] [] ?_
  repeat refine sq ?_
  refine rs hΓ [8] [] ?_
  refine aA ?_
  simp only[go_sem]
  rw[kH.2 hR];rfl
@[go_sem] def P111:PSpec:=p4 (fP iR) iI (iF 63) (iF 112) (fun _ _ _ _=>True) (fun l m _ _=>.bool (jx eh Rec.so l&&decide ((l.length:Int)<=m))) true
@[go_sem] def adq:Spec:=P111.toSpec
theorem TL:aU Tryz.prog 111 P111:=by
 refine pv (rs:=[.tmp 8]) Tryz.func111 Tryz.ntmps111 fun l m _ _ hp hw=>?_
 have hP:=eK
 simp only[iF,iI,iR,fP,iC,encR]at hw |-
 have hΓ:=Co
 have hl:l.length<=maxLen:=by have:=hw.1.1;simpa using this
 repeat refine sq ?_
 refine rs hΓ [0,1,2,3] [] ?_
 repeat refine sq ?_
 refine rs hΓ [0,1,2,3,11,12,13] [] ?_
 repeat refine sq ?_
 refine aN ?_
 repeat refine sq ?_
 refine cB (fun s:Nat=>[(13,⟨true,.v (vInt s)⟩)]) (fun s=>[]) (fun s=>s<=l.length/\oP eh Rec.so l s) (fun s=>l.length-s) 0 ?_ ?_ ?_ ?_
 ·exact⟨Nat.zero_le _,zV⟩
 ·rfl
 ·rfl
 rintro i ⟨hi,hR⟩
 simp only[go_sem]
 repeat refine sq ?_
 refine rs hΓ [0,1,2,3,11,12,13,14] [] ?_
 repeat refine sq ?_
 refine ay (fun hb=>?_) fun hb=>?_
 ·have ab:i<l.length:=by simpa using hb
  have au:(i:Int)<l.length:=by omega
  clear hb
  obtain⟨p,hp,kW,cT⟩:=zO ab hl
  repeat refine sq ?_
  refine aE ?_
  repeat refine sq ?_
  refine aN ?_
  repeat refine sq ?_
  refine rx hΓ [0,1,2,3,9,10,11,12,13] [[10,0]] (fun K' hK=>by simp only[go_sem,ah ab,ai,aj,au];exact fn) ?_
  repeat refine sq ?_
  refine dx hΓ hP [[],[],[0,1],[0,1,2],u4,u5,u6,u7,u8,u8,u8,[0,1,2,3,4,5,6,7,10],[0,1,2,3,4,5,6,7,9,10,11],[0,1,2,3,4,5,6,7,9,10,11,12],il,u8,u8,lz,gS,kK,nE] [0,1,2,3,11,12,13,38] [] (by kernel_rfl) (fun K' hK=>by simp only[go_sem,ah ab,ai,aj,au,hp,ah kW,fun b=>Bo b 21 (by decide)];(repeat (refine⟨by first | exact ob | (intro h;have:=cT (by simp_all);simp_all;done),?_⟩));exact fG) ?_
  repeat refine sq ?_
  refine ay (fun hb=>?_) fun hb=>?_
  ·repeat refine sq ?_
   have kC:jx eh Rec.so l=false:=by
    rw[wh kH]
    intro h
    obtain⟨h1,h2⟩:=h i ab ab
    simp only[h1,Bool.not_true,Bool.false_or,Bool.and_eq_true,decide_eq_true_eq]at hb
    obtain⟨e,_⟩:=cT (by omega)
    subst e
    have :=h2 (by omega)
    have :=hb.2
    omega
   repeat refine sq ?_
   refine rx hΓ [8] [] (fun K' hK=>by simp only[go_sem,ah ab,ai,aj,au];exact fn) ?_
   refine aA ?_
   simp only[go_sem]
   rw[kC];rfl
  ·repeat refine sq ?_
   have hn:eh l[i]=true/\(0<i->Rec.so l[i-1] <Rec.so l[i]):=by
    simp only[Bool.or_eq_false_iff,Bool.not_eq_false',Bool.and_eq_false_iff,decide_eq_false_iff_not]at hb
    refine⟨hb.1,fun h=>?_⟩
    obtain⟨e,_⟩:=cT h
    subst e
    omega
   refine aE ?_
   refine bQ ?_
   simp only[go_sem]
   refine kp [0,1,2,3,11,12,13] [] ?_
   repeat refine sq ?_
   refine aP hΓ fun K' hK=>?_
   simp only[go_sem,ah ab,ai,aj,au]
   repeat (refine⟨ob,?_⟩)
   refine hK _ ?_
   clear K' hK
   simp only[go_sem]
   refine⟨i+1,⟨ab,?_⟩,by(show l.length-(i+1)<l.length-i;omega),?_⟩
   ·exact zW hR ab hn
   refine bd [0,1,2,3,11,12,13] [] ?_ ?_<;>simp only[go_sem,a7 ab hl,bb]
 ·have bB:i=l.length:=by
   have :¬ (i:Int)<l.length:=by simpa using hb
   omega
  clear hb
  subst bB
  repeat refine sq ?_
  refine bT ?_
  simp only[go_sem]
  refine kp [0,1] [] ?_
  repeat refine sq ?_
  refine rs hΓ [8] [] ?_
  refine aA ?_
  simp only[go_sem]
  rw[kH.2 hR];rfl
@[go_sem] def P113:PSpec:=p4 (fP iT) iI (iF 65) (iF 114) (fun _ _ _ _=>True) (fun l m _ _=>.bool (jx j9 Ret.so l&&decide ((l.length:Int)<=m))) true
@[go_sem] def ado:Spec:=P113.toSpec
theorem TJ:aU Tryz.prog 113 P113:=by
 refine pv (rs:=[.tmp 8]) Tryz.func113 Tryz.ntmps113 fun l m _ _ hp hw=>?_
 have hP:=eK
 simp only[iF,iI,fP,iT,iC,c9]at hw |-
 have hΓ:=Co
 have hl:l.length<=maxLen:=by have:=hw.1.1;simpa using this
 repeat refine sq ?_
 refine rs hΓ [0,1,2,3] [] ?_
 repeat refine sq ?_
 refine rs hΓ [0,1,2,3,11,12,13] [] ?_
 repeat refine sq ?_
 refine aN ?_
 repeat refine sq ?_
 refine cB (fun s:Nat=>[(13,⟨true,.v (vInt s)⟩)]) (fun s=>[]) (fun s=>s<=l.length/\oP j9 Ret.so l s) (fun s=>l.length-s) 0 ?_ ?_ ?_ ?_
 ·exact⟨Nat.zero_le _,zV⟩
 ·rfl
 ·rfl
 rintro i ⟨hi,hR⟩
 simp only[go_sem]
 repeat refine sq ?_
 refine rs hΓ [0,1,2,3,11,12,13,14] [] ?_
 repeat refine sq ?_
 refine ay (fun hb=>?_) fun hb=>?_
 ·have ab:i<l.length:=by simpa using hb
  have au:(i:Int)<l.length:=by omega
  clear hb
  obtain⟨p,hp,kW,cT⟩:=zO ab hl
  repeat refine sq ?_
  refine aE ?_
  repeat refine sq ?_
  refine aN ?_
  repeat refine sq ?_
  refine rx hΓ [0,1,2,3,9,10,11,12,13] [[10,0]] (fun K' hK=>by simp only[go_sem,ah ab,ai,aj,au];exact fn) ?_
  repeat refine sq ?_
  refine dx hΓ hP [[],[],[0,1],[0,1,2],u4,u5,u6,u7,u8,u8,u8,[0,1,2,3,4,5,6,7,10],[0,1,2,3,4,5,6,7,9,10,11],[0,1,2,3,4,5,6,7,9,10,11,12],il,u8,u8,lz,gS,kK,nE] [0,1,2,3,11,12,13,38] [] (by kernel_rfl) (fun K' hK=>by simp only[go_sem,ah ab,ai,aj,au,hp,ah kW,fun b=>Bo b 22 (by decide)];(repeat (refine⟨by first | exact ob | (intro h;have:=cT (by simp_all);simp_all;done),?_⟩));exact fG) ?_
  repeat refine sq ?_
  refine ay (fun hb=>?_) fun hb=>?_
  ·repeat refine sq ?_
   have kC:jx j9 Ret.so l=false:=by
    rw[wh kH]
    intro h
    obtain⟨h1,h2⟩:=h i ab ab
    simp only[h1,Bool.not_true,Bool.false_or,Bool.and_eq_true,decide_eq_true_eq]at hb
    obtain⟨e,_⟩:=cT (by omega)
    subst e
    have :=h2 (by omega)
    have :=hb.2
    omega
   repeat refine sq ?_
   refine rx hΓ [8] [] (fun K' hK=>by simp only[go_sem,ah ab,ai,aj,au];exact fn) ?_
   refine aA ?_
   simp only[go_sem]
   rw[kC];rfl
  ·repeat refine sq ?_
   have hn:j9 l[i]=true/\(0<i->Ret.so l[i-1] <Ret.so l[i]):=by
    simp only[Bool.or_eq_false_iff,Bool.not_eq_false',Bool.and_eq_false_iff,decide_eq_false_iff_not]at hb
    refine⟨hb.1,fun h=>?_⟩
    obtain⟨e,_⟩:=cT h
    subst e
    omega
   refine aE ?_
   refine bQ ?_
   simp only[go_sem]
   refine kp [0,1,2,3,11,12,13] [] ?_
   repeat refine sq ?_
   refine aP hΓ fun K' hK=>?_
   simp only[go_sem,ah ab,ai,aj,au]
   repeat (refine⟨ob,?_⟩)
   refine hK _ ?_
   clear K' hK
   simp only[go_sem]
   refine⟨i+1,⟨ab,?_⟩,by(show l.length-(i+1)<l.length-i;omega),?_⟩
   ·exact zW hR ab hn
   refine bd [0,1,2,3,11,12,13] [] ?_ ?_<;>simp only[go_sem,a7 ab hl,bb]
 ·have bB:i=l.length:=by
   have :¬ (i:Int)<l.length:=by simpa using hb
   omega
  clear hb
  subst bB
  repeat refine sq ?_
  refine bT ?_
  simp only[go_sem]
  refine kp [0,1] [] ?_
  repeat refine sq ?_
  refine rs hΓ [8] [] ?_
  refine aA ?_
  simp only[go_sem]
  rw[kH.2 hR];rfl
@[go_sem] def P115:PSpec:=p4 (fP iS) iI (iF 67) (iF 116) (fun _ _ _ _=>True) (fun l m _ _=>.bool (jx kN Sig.so l&&decide ((l.length:Int)<=m))) true
@[go_sem] def adm:Spec:=P115.toSpec
theorem TH:aU Tryz.prog 115 P115:=by
 refine pv (rs:=[.tmp 8]) Tryz.func115 Tryz.ntmps115 fun l m _ _ hp hw=>?_
 have hP:=eK
 simp only[iF,iI,iS,fP,iC,encS]at hw |-
 have hΓ:=Co
 have hl:l.length<=maxLen:=by have:=hw.1.1;simpa using this
 repeat refine sq ?_
 refine rs hΓ [0,1,2,3] [] ?_
 repeat refine sq ?_
 refine rs hΓ [0,1,2,3,11,12,13] [] ?_
 repeat refine sq ?_
 refine aN ?_
 repeat refine sq ?_
 refine cB (fun s:Nat=>[(13,⟨true,.v (vInt s)⟩)]) (fun s=>[]) (fun s=>s<=l.length/\oP kN Sig.so l s) (fun s=>l.length-s) 0 ?_ ?_ ?_ ?_
 ·exact⟨Nat.zero_le _,zV⟩
 ·rfl
 ·rfl
 rintro i ⟨hi,hR⟩
 simp only[go_sem]
 repeat refine sq ?_
 refine rs hΓ [0,1,2,3,11,12,13,14] [] ?_
 repeat refine sq ?_
 refine ay (fun hb=>?_) fun hb=>?_
 ·have ab:i<l.length:=by simpa using hb
  have au:(i:Int)<l.length:=by omega
  clear hb
  obtain⟨p,hp,kW,cT⟩:=zO ab hl
  repeat refine sq ?_
  refine aE ?_
  repeat refine sq ?_
  refine aN ?_
  repeat refine sq ?_
  refine rx hΓ [0,1,2,3,9,10,11,12,13] [[10,0]] (fun K' hK=>by simp only[go_sem,ah ab,ai,aj,au];exact fn) ?_
  repeat refine sq ?_
  refine dx hΓ hP [[],[],[0,1],[0,1,2],u4,u5,u6,u7,u8,u8,u8,[0,1,2,3,4,5,6,7,10],[0,1,2,3,4,5,6,7,9,10,11],[0,1,2,3,4,5,6,7,9,10,11,12],il,u8,u8,lz,gS,kK,nE] [0,1,2,3,11,12,13,38] [] (by kernel_rfl) (fun K' hK=>by simp only[go_sem,ah ab,ai,aj,au,hp,ah kW,fun b=>Bo b 23 (by decide)];(repeat (refine⟨by first | exact ob | (intro h;have:=cT (by simp_all);simp_all;done),?_⟩));exact fG) ?_
  repeat refine sq ?_
  refine ay (fun hb=>?_) fun hb=>?_
  ·repeat refine sq ?_
   have kC:jx kN Sig.so l=false:=by
    rw[wh kH]
    intro h
    obtain⟨h1,h2⟩:=h i ab ab
    simp only[h1,Bool.not_true,Bool.false_or,Bool.and_eq_true,decide_eq_true_eq]at hb
    obtain⟨e,_⟩:=cT (by omega)
    subst e
    have :=h2 (by omega)
    have :=hb.2
    omega
   repeat refine sq ?_
   refine rx hΓ [8] [] (fun K' hK=>by simp only[go_sem,ah ab,ai,aj,au];exact fn) ?_
   refine aA ?_
   simp only[go_sem]
   rw[kC];rfl
  ·repeat refine sq ?_
   have hn:kN l[i]=true/\(0<i->Sig.so l[i-1] <Sig.so l[i]):=by
    simp only[Bool.or_eq_false_iff,Bool.not_eq_false',Bool.and_eq_false_iff,decide_eq_false_iff_not]at hb
    refine⟨hb.1,fun h=>?_⟩
    obtain⟨e,_⟩:=cT h
    subst e
    omega
   refine aE ?_
   refine bQ ?_
   simp only[go_sem]
   refine kp [0,1,2,3,11,12,13] [] ?_
   repeat refine sq ?_
   refine aP hΓ fun K' hK=>?_
   simp only[go_sem,ah ab,ai,aj,au]
   repeat (refine⟨ob,?_⟩)
   refine hK _ ?_
   clear K' hK
   simp only[go_sem]
   refine⟨i+1,⟨ab,?_⟩,by(show l.length-(i+1)<l.length-i;omega),?_⟩
   ·exact zW hR ab hn
   refine bd [0,1,2,3,11,12,13] [] ?_ ?_<;>simp only[go_sem,a7 ab hl,bb]
 ·have bB:i=l.length:=by
   have :¬ (i:Int)<l.length:=by simpa using hb
   omega
  clear hb
  subst bB
  repeat refine sq ?_
  refine bT ?_
  simp only[go_sem]
  refine kp [0,1] [] ?_
  repeat refine sq ?_
  refine rs hΓ [8] [] ?_
  refine aA ?_
  simp only[go_sem]
  rw[kH.2 hR];rfl
end
set_option maxHeartbeats 8000000
noncomputable section
theorem VT{i j:Nat}(hi:i<=maxLen)(hj:j<=maxLen):IntKind.i64.wrap ((IntKind.u64.wrap (IntKind.i64.wrap ((i:Int)+(j:Int)))).fdiv (2 ^ min (Int.toNat 1) 64))=(((i+j) / 2:Nat):Int):=by
 unfold maxLen at hi hj
 have h1:min (Int.toNat 1) 64=1:=by decide
 have h2:IntKind.u64.wrap (IntKind.i64.wrap ((i:Int)+(j:Int)))=((i+j:Nat):Int):=by
  rw[IntKind.wrap_u64,IntKind.wrap_i64]
  omega
 rw[h1,h2]
 have h3:(((i+j:Nat):Int)).fdiv (2 ^ 1)=(((i+j) / 2:Nat):Int):=by
  rw[Int.fdiv_eq_ediv_of_nonneg _ (by decide)]
  omega
 rw[h3,wrap_i64 (by omega) (by omega)]
theorem PM{a b:Int}:m8 a b<0↔a<b:=by
 unfold m8
 split
 ·simp[*]
 ·split<;>simp<;>omega
theorem abI{a b:Int}:(m8 a b==0)=(a==b):=by
 unfold m8
 split
 ·have:a≠b:=by omega
  simp[this]
 ·split
  ·have:a≠b:=by omega
   simp[this]
  ·have:a=b:=by omega
   simp[this]
def srt{α:Type}(num:α->Int)(l:List α):Prop:=∀ i j (hi:i<l.length) (hj:j<l.length),i<j->num l[i] <num l[j]
theorem Sd{α:Type}{num:α->Int}{l:List α}(h:∀ j (h:j<l.length),0<j->num l[j-1] <num l[j]):srt num l:=by
 intro i j hi hj bF
 induction j with
 |zero=>omega
 |succ j ih=>
  have h1:=h (j+1) hj (by omega)
  simp only[Nat.add_sub_cancel]at h1
  rcases Nat.lt_succ_iff_lt_or_eq.1 bF with h2 | rfl
  ·have:=ih (by omega) h2;omega
  ·exact h1
theorem w9{α:Type}{fI:α->Bool}{num:α->Int}{l:List α}(h:oP fI num l l.length):srt num l:=Sd fun j hj h0=>(h j hj hj).2 h0
def sH{α:Type}(num:α->Int)(l:List α)(x:Int):Nat:=(l.takeWhile fun y=>decide (num y<x)).length
def qe{α:Type}(num:α->Int)(l:List α)(x:Int):Bool:=l.any fun y=>num y==x
theorem DY{α:Type}{num:α->Int}{l:List α}{x:Int}{i:Nat}(hi:i<=l.length)(h1:∀ k (h:k<l.length),k<i->num l[k] <x)(h2:∀ k (h:k<l.length),i<=k->x<=num l[k]):sH num l x=i:=by
 unfold sH
 induction l generalizing i with
 |nil=>simp at hi |-;omega
 |cons a r ih=>
  cases i with
  |zero=>
   have :=h2 0 (by simp) (Nat.le_refl _)
   simp only[List.getElem_cons_zero]at this
   have hd:decide (num a<x)=false:=by simp;omega
   simp[hd]
  |succ i=>
   have :=h1 0 (by simp) (by omega)
   simp only[List.getElem_cons_zero]at this
   have hd:decide (num a<x)=true:=by simp;omega
   simp only[List.takeWhile_cons,hd,if_true,List.length_cons]
   rw[ih (by simpa using hi) (fun k hk dO=>by have:=h1 (k+1) (by simpa using hk) (by omega);simpa using this) (fun k hk dO=>by have:=h2 (k+1) (by simpa using hk) (by omega);simpa using this)]
theorem Bc{α:Type}{num:α->Int}{l:List α}{x:Int}:qe num l x=true↔∃ k,∃ (h:k<l.length),num l[k]=x:=by
 unfold qe
 rw[List.any_eq_true]
 constructor
 ·rintro⟨y,hy,h⟩
  obtain⟨k,hk,rfl⟩:=List.getElem_of_mem hy
  exact⟨k,hk,by simpa using h⟩
 ·rintro⟨k,hk,h⟩
  exact⟨_,List.getElem_mem hk,by simpa using h⟩
theorem aai{α:Type}{num:α->Int}{l:List α}{x:Int}{i:Nat}(hs:srt num l)(hi:i<l.length)(h1:∀ k (h:k<l.length),k<i->num l[k] <x)(h2:∀ k (h:k<l.length),i<=k->x<=num l[k]):qe num l x=(num l[i]==x):=by
 rw[Bool.eq_iff_iff,Bc]
 simp only[beq_iff_eq]
 constructor
 ·rintro⟨k,hk,e⟩
  rcases Nat.lt_trichotomy k i with h3 | h3 | h3
  ·have:=h1 k hk h3;omega
  ·subst h3;exact e
  ·have:=hs i k hi hk h3
   have :=h2 i hi (Nat.le_refl _)
   omega
 ·intro e
  exact⟨i,hi,e⟩
theorem aah{α:Type}{num:α->Int}{l:List α}{x:Int}(h1:∀ k (h:k<l.length),num l[k] <x):qe num l x=false:=by
 rw[Bool.eq_false_iff]
 intro h
 obtain⟨k,hk,e⟩:=Bc.1 h
 have :=h1 k hk
 omega
def K6a:List (Nat×Spec):=[(140,adi)]
theorem adO:KS K6a:=tc TD.sound<|tn
attribute [go_sem] K6a
@[go_sem] def P169:PSpec:=p2 iP iI (fun _ _=>True) (fun p x=>vInt (m8 p.id x)) true
@[go_sem] def ade:Spec:=P169.toSpec
theorem Tr:aU Tryz.prog 169 P169:=by
 refine eZ (rs:=[.tmp 4]) Tryz.func169 Tryz.ntmps169 fun p x hp hw=>?_
 simp only[iI,iP,cP]at hw |-
 have hΓ:=adO
 repeat refine sq ?_
 refine rs hΓ [1,2] [[2,0]] ?_
 repeat refine sq ?_
 refine rs hΓ [4] [] ?_
 refine aA ?_
 simp only[go_sem]
 all_goals exact dV
def K6b:List (Nat×Spec):=[(169,ade)]
theorem adN:KS K6b:=tc Tr.sound<|tn
attribute [go_sem] K6b
@[go_sem] def P168:PSpec:=p3 (fP iP) iI (iF 169) (fun l _ _=>srt Pap.id l) (fun l x _=>.tup [vInt (sH Pap.id l x),.bool (qe Pap.id l x)]) true
@[go_sem] def adf:Spec:=P168.toSpec
set_option maxRecDepth 10000 in
theorem Ts:aU Tryz.prog 168 P168:=by
 refine mq (rs:=[.tmp 6,.tmp 7]) Tryz.func168 Tryz.ntmps168 fun l x _ hp hw=>?_
 simp only[iF,iI,iP,fP,iC,cP]at hw |-
 have hΓ:=adN
 have hs:=hp
 have hl:l.length<=maxLen:=by have:=hw.1.1;simpa using this
 repeat refine sq ?_
 refine rs hΓ [0,1,2] [] ?_
 repeat refine sq ?_
 refine rs hΓ [0,1,2,8] [] ?_
 repeat refine sq ?_
 refine rs hΓ [0,1,2,8,9,10] [] ?_
 repeat refine sq ?_
 refine aN ?_
 repeat refine sq ?_
 refine cB (fun ij:Nat×Nat=>[(9,⟨true,.v (vInt ij.1)⟩),(10,⟨true,.v (vInt ij.2)⟩)]) (fun i=>[]) (fun ij=>ij.1<=ij.2/\ij.2<=l.length/\(∀ k (h:k<l.length),k<ij.1->Pap.id l[k] <x)/\(∀ k (h:k<l.length),ij.2<=k->x<=Pap.id l[k])) (fun ij=>ij.2-ij.1) (0,l.length) ?_ ?_ ?_ ?_
 ·exact⟨Nat.zero_le _,Nat.le_refl _,fun k h hk=>by omega,fun k h hk=>by omega⟩
 ·rfl
 ·rfl
 rintro⟨i,j⟩ ⟨bF,iz,fc,hS⟩
 simp only[go_sem]
 repeat refine sq ?_
 refine rs hΓ [0,1,2,8,9,10,17] [] ?_
 repeat refine sq ?_
 refine ay (fun hb=>?_) fun hb=>?_
 ·have ab:i<j:=by simpa using hb
  repeat refine sq ?_
  refine aE ?_
  repeat refine sq ?_
  refine aN ?_
  repeat refine sq ?_
  refine rx hΓ [0,1,2,8,9,10,11] [] (fun K' hK=>by simp only[go_sem,VT (show i<=maxLen by omega) (show j<=maxLen by omega)];exact fn) ?_
  obtain⟨h,hh⟩:∃ h,h=(i+j) / 2:=⟨_,rfl⟩
  rw[<-hh]
  have h1:i<=h:=by omega
  have h2:h<j:=by omega
  have h3:h<l.length:=by omega
  have h3':(h:Int)<l.length:=by omega
  repeat refine sq ?_
  refine rx hΓ [0,1,2,8,9,10,11,31] [] (fun K' hK=>by simp only[go_sem,ah h3,ai,aj,h3'];exact fn) ?_
  repeat refine sq ?_
  refine ay (fun hb=>?_) fun hb=>?_
  ·have hx:Pap.id l[h] <x:=by simpa[PM]using hb
   repeat refine sq ?_
   refine aP hΓ fun K' hK=>?_
   simp only[go_sem]
   repeat (refine⟨ob,?_⟩)
   refine hK _ ?_
   clear K' hK
   simp only[go_sem]
   refine⟨(h+1,j),⟨by omega,iz,fun k hk Fy=>?_,hS⟩,by omega,?_⟩
   ·rcases Nat.lt_succ_iff_lt_or_eq.1 Fy with h5 | h5
    ·have:=hs k h hk h3 h5;omega
    ·subst h5;exact hx
   ·refine bd [0,1,2,8,9,10] [] ?_ ?_<;>simp only[go_sem,a7 h3 hl,bb]
  ·have hx:x<=Pap.id l[h]:=by
     have :¬ Pap.id l[h] <x:=by simpa[PM]using hb
     omega
   repeat refine sq ?_
   refine aP hΓ fun K' hK=>?_
   simp only[go_sem]
   repeat (refine⟨ob,?_⟩)
   refine hK _ ?_
   clear K' hK
   simp only[go_sem]
   refine⟨(i,h),⟨by omega,by omega,fc,fun k hk Fy=>?_⟩,by omega,?_⟩
   ·rcases Nat.lt_or_eq_of_le Fy with h5 | h5
    ·have:=hs h k h3 hk h5;omega
    ·subst h5;exact hx
   ·refine bd [0,1,2,8,9,10] [] ?_ ?_<;>simp only[go_sem]
 ·have he:i=j:=by
    have :¬ (i:Int)<j:=by simpa using hb
    omega
  subst he
  repeat refine sq ?_
  refine bT ?_
  simp only[go_sem]
  refine kp [0,1,2,8,9] [] ?_
  by_cases fC:i<l.length
  ·have FG:(i:Int)<l.length:=by omega
   repeat refine sq ?_
   refine rx hΓ [6,7] [] (fun K' hK=>by simp only[go_sem,ah fC,ai,aj,FG];exact fn) ?_
   refine aA ?_
   simp only[go_sem]
   rw[DY iz fc hS,aai hs fC fc hS]
   simp[abI]
  ·have AX:i=l.length:=by omega
   have FG:¬ (i:Int)<l.length:=by omega
   obtain⟨k0,n0,aab⟩:∃ k0 n0,(l.map cP).getD i default=.int k0 n0:=by
    refine⟨default,default,?_⟩
    rw[List.getD_eq_getElem?_getD,List.getElem?_eq_none (by simp;omega)]
    rfl
   repeat refine sq ?_
   refine rx hΓ [6,7] [] (fun K' hK=>by simp only[go_sem,aab,ai,aj,FG];exact fn) ?_
   refine aA ?_
   simp only[go_sem]
   rw[DY iz fc hS,aah fun k hk=>fc k hk (by omega)]
   simp
def cM(l:List Pap)(id:Int):Int:=match l.find? fun p=>p.id==id with
 |some p=>p.lv
 |none=>0
theorem KF{l:List Pap}{x:Int}{i:Nat}(hi:i<l.length)(h:l[i].id=x)(h1:∀ k (h:k<l.length),k<i->l[k].id≠x):cM l x=l[i].lv:=by
 unfold cM
 have :(l.find? fun p=>p.id==x)=some l[i]:=by
  rw[List.find?_eq_some_iff_getElem]
  exact⟨by simpa using h,i,hi,rfl,fun j hj=>by simpa using h1 j (by omega) hj⟩
 rw[this]
theorem KE{l:List Pap}{x:Int}(h1:∀ k (h:k<l.length),l[k].id≠x):cM l x=0:=by
 unfold cM
 have :(l.find? fun p=>p.id==x)=none:=by
  rw[List.find?_eq_none]
  intro p hp
  obtain⟨k,hk,rfl⟩:=List.getElem_of_mem hp
  simpa using h1 k hk
 rw[this]
theorem VY{l:List Pap}{x:Int}(hs:srt Pap.id l)(h:qe Pap.id l x=true):∃ (h:sH Pap.id l x<l.length),l[sH Pap.id l x].lv=cM l x:=by
 obtain⟨k,hk,e⟩:=Bc.1 h
 have e2:sH Pap.id l x=k:=DY (Nat.le_of_lt hk) (fun j hj od=>by have:=hs j k hj hk od;omega) (fun j hj od=>by
  rcases Nat.lt_or_eq_of_le od with h | rfl
  ·have:=hs k j hk hj h;omega
  ·omega)
 refine⟨e2▸hk,?_⟩
 rw[KF hk e fun j hj od=>by have:=hs j k hj hk od;omega]
 congr
theorem VX{l:List Pap}{x:Int}(h:qe Pap.id l x=false):cM l x=0:=KE fun k hk e=>by
 rw[Bc.2 ⟨k,hk,e⟩]at h;cases h
def K6:List (Nat×Spec):=[(168,adf)]
theorem adP:KS K6:=tc Ts.sound<|tn
attribute [go_sem] K6
@[go_sem] def P79:PSpec:=p2 lS iI (fun l _=>srt Pap.id l.ps) (fun l x=>vInt (cM l.ps x)) true
@[go_sem] def yW:Spec:=P79.toSpec
theorem CR:aU Tryz.prog 79 P79:=by
 refine eZ (rs:=[.tmp 4]) Tryz.func79 Tryz.ntmps79 fun l x hp hw=>?_
 simp only[iI,lS,gk]at hw |-
 have hΓ:=adP
 repeat refine sq ?_
 refine rs hΓ [0,1] [] ?_
 repeat refine sq ?_
 refine rx hΓ [0,5,6] [] (fun K' hK=>by simp only[go_sem,hp];exact fn) ?_
 repeat refine sq ?_
 refine rs hΓ [0,5,17] [] ?_
 repeat refine sq ?_
 refine ay (fun hb=>?_) fun hb=>?_
 ·repeat refine sq ?_
  have hf:qe Pap.id l.ps x=false:=by simpa using hb
  repeat refine sq ?_
  refine rs hΓ [4] [] ?_
  refine aA ?_
  simp only[go_sem]
  rw[VX hf]
 ·repeat refine sq ?_
  have hf:qe Pap.id l.ps x=true:=by simpa using hb
  obtain⟨Zt,kZ⟩:=VY hp hf
  have Zs:(sH Pap.id l.ps x:Int)<l.ps.length:=by omega
  refine aE ?_
  repeat refine sq ?_
  refine rx hΓ [4] [] (fun K' hK=>by simp only[go_sem,ah Zt,ai,aj,Zs];exact fn) ?_
  refine aA ?_
  simp only[go_sem]
  rw[kZ]
@[go_sem] def P84:PSpec:=p2 iL iI (fun _ _=>True) (fun l x=>vInt (cM l.ps x)) true
@[go_sem] def Cf:Spec:=P84.toSpec
theorem SZ:aU Tryz.prog 84 P84:=by
 refine eZ (rs:=[.tmp 4]) Tryz.func84 Tryz.ntmps84 fun l x hp hw=>?_
 simp only[iI,iL,ft]at hw |-
 have hΓ:=@fx Tryz.prog
 have hl:l.ps.length<=maxLen:=by have:=hw.1;simp[V.wfL,V.wf]at this;omega
 repeat refine sq ?_
 refine rs hΓ [1,2] [[2,0]] ?_
 repeat refine sq ?_
 refine rs hΓ [1,2,5] [[2,0]] ?_
 repeat refine sq ?_
 refine aN ?_
 repeat refine sq ?_
 refine cB (fun s:Nat=>[(5,⟨true,.v (vInt s)⟩)]) (fun s=>[]) (fun s=>s<=l.ps.length/\∀ k (h:k<l.ps.length),k<s->l.ps[k].id≠x) (fun s=>l.ps.length-s) 0 ?_ ?_ ?_ ?_
 ·exact⟨Nat.zero_le _,by simp⟩
 ·rfl
 ·rfl
 rintro i ⟨hi,hR⟩
 simp only[go_sem]
 repeat refine sq ?_
 refine rs hΓ [1,2,5,10] [[2,0]] ?_
 repeat refine sq ?_
 refine ay (fun hb=>?_) fun hb=>?_
 ·have ab:i<l.ps.length:=by simpa using hb
  have au:(i:Int)<l.ps.length:=by omega
  clear hb
  repeat refine sq ?_
  refine aE ?_
  repeat refine sq ?_
  refine aN ?_
  repeat refine sq ?_
  refine rx hΓ [1,2,5,20] [[2,0]] (fun K' hK=>by simp only[go_sem,ah ab,ai,aj,au];exact fn) ?_
  repeat refine sq ?_
  refine ay (fun hb=>?_) fun hb=>?_
  ·repeat refine sq ?_
   refine rx hΓ [4] [] (fun K' hK=>by simp only[go_sem,ah ab,ai,aj,au];exact fn) ?_
   refine aA ?_
   simp only[go_sem]
   rw[KF ab (by simpa using hb) hR]
  ·repeat refine sq ?_
   refine aE ?_
   refine bQ ?_
   simp only[go_sem]
   refine kp [1,2,5] [[2,0]] ?_
   repeat refine sq ?_
   refine aP hΓ fun K' hK=>?_
   simp only[go_sem,ah ab,ai,aj,au]
   repeat (refine⟨ob,?_⟩)
   refine hK _ ?_
   clear K' hK
   simp only[go_sem]
   refine⟨i+1,⟨ab,?_⟩,by(show l.ps.length-(i+1)<l.ps.length-i;omega),?_⟩
   ·intro k hk dO
    rcases Nat.lt_succ_iff_lt_or_eq.1 dO with h5 | rfl
    ·exact hR k hk h5
    ·simpa using hb
   refine bd [1,2,5] [[2,0]] ?_ ?_<;>simp only[go_sem,a7 ab hl,bb]
 ·have bB:i=l.ps.length:=by
   have :¬ (i:Int)<l.ps.length:=by simpa using hb
   omega
  clear hb
  subst bB
  repeat refine sq ?_
  refine bT ?_
  simp only[go_sem]
  refine kp [] [] ?_
  repeat refine sq ?_
  refine rs hΓ [4] [] ?_
  refine aA ?_
  simp only[go_sem]
  rw[KE fun k hk=>hR k hk hk]
end
end Go.Eng
set_option linter.unusedVariables false
namespace Go.Eng
open Go Go.Proofs Go.RowKit Go.Lib Go.Shelf
end Go.Eng
set_option linter.unusedVariables false
namespace Go.Eng
open Go Go.Proofs Go.RowKit Go.Lib Go.Shelf
set_option maxHeartbeats 2000000 in
set_option maxRecDepth 100000 in
theorem ab4(n c:Nat)(w:World):Calls Tryz.prog 132 #[.slice none n c] w fun e w'=>e=.returned (.slice none 0 0)/\w'=w:=by
 have mixed:Tryz.prog.follows Departure.mixedOrders=true:=by kernel_rfl
 have qT:∀ (w:World) (a:Option Addr) (n c n' c':Nat),(binOp .eql 29 (.slice a n c) (.slice none n' c')).run Tryz.prog w=.ok (.bool a.isNone) w:=fun w a n c n' c'=>Lib.run_eql_slice_nil w _ _ a n c n' c' Tryz.underlying29
 go_enter Tryz.func132,Tryz.ntmps132
 go_wp2
 go_ret
 exact⟨rfl,rfl⟩
set_option maxHeartbeats 2000000 in
set_option maxRecDepth 100000 in
theorem ab3(a:Addr)(n c:Nat)(w:World)(v':Value)(w':World)
 (cZ:∀ ty,(Builtin.append_ #[29,29] ty #[.slice (some ⟨w.heap.size,0,none⟩) 0 0,.slice (some a) n c]).run Tryz.prog (w.alloc (.cells #[] 81))=.ok v' w'):
 Calls Tryz.prog 132 #[.slice (some a) n c] w fun e w1=>e=.returned v'/\w1=w':=by
 have mixed:Tryz.prog.follows Departure.mixedOrders=true:=by kernel_rfl
 have qT:∀ (w:World) (a:Option Addr) (n c n' c':Nat),(binOp .eql 29 (.slice a n c) (.slice none n' c')).run Tryz.prog w=.ok (.bool a.isNone) w:=fun w a n c n' c'=>Lib.run_eql_slice_nil w _ _ a n c n' c' Tryz.underlying29
 go_enter Tryz.func132,Tryz.ntmps132
 go_wp2_with (at_builtin;refine Lib.wpList_append_run _ rfl _ _ _ _ rfl _ _ rfl rfl _ _ (cZ _) ?_)
 go_ret
 exact⟨rfl,rfl⟩
set_option maxHeartbeats 2000000 in
set_option maxRecDepth 100000 in
theorem ab1(n c:Nat)(w:World):Calls Tryz.prog 176 #[.slice none n c] w fun e w'=>e=.returned (.slice none 0 0)/\w'=w:=by
 have mixed:Tryz.prog.follows Departure.mixedOrders=true:=by kernel_rfl
 have qT:∀ (w:World) (a:Option Addr) (n c n' c':Nat),(binOp .eql 26 (.slice a n c) (.slice none n' c')).run Tryz.prog w=.ok (.bool a.isNone) w:=fun w a n c n' c'=>Lib.run_eql_slice_nil w _ _ a n c n' c' Tryz.underlying26
 go_enter Tryz.func176,Tryz.ntmps176
 go_wp2
 go_ret
 exact⟨rfl,rfl⟩
set_option maxHeartbeats 2000000 in
set_option maxRecDepth 100000 in
theorem ab0(a:Addr)(n c:Nat)(w:World)(v':Value)(w':World)
 (cZ:∀ ty,(Builtin.append_ #[26,26] ty #[.slice (some ⟨w.heap.size,0,none⟩) 0 0,.slice (some a) n c]).run Tryz.prog (w.alloc (.cells #[] 46))=.ok v' w'):
 Calls Tryz.prog 176 #[.slice (some a) n c] w fun e w1=>e=.returned v'/\w1=w':=by
 have mixed:Tryz.prog.follows Departure.mixedOrders=true:=by kernel_rfl
 have qT:∀ (w:World) (a:Option Addr) (n c n' c':Nat),(binOp .eql 26 (.slice a n c) (.slice none n' c')).run Tryz.prog w=.ok (.bool a.isNone) w:=fun w a n c n' c'=>Lib.run_eql_slice_nil w _ _ a n c n' c' Tryz.underlying26
 go_enter Tryz.func176,Tryz.ntmps176
 go_wp2_with (at_builtin;refine Lib.wpList_append_run _ rfl _ _ _ _ rfl _ _ rfl rfl _ _ (cZ _) ?_)
 go_ret
 exact⟨rfl,rfl⟩
set_option maxHeartbeats 2000000 in
set_option maxRecDepth 100000 in
theorem abY(n c:Nat)(w:World):Calls Tryz.prog 177 #[.slice none n c] w fun e w'=>e=.returned (.slice none 0 0)/\w'=w:=by
 have mixed:Tryz.prog.follows Departure.mixedOrders=true:=by kernel_rfl
 have qT:∀ (w:World) (a:Option Addr) (n c n' c':Nat),(binOp .eql 27 (.slice a n c) (.slice none n' c')).run Tryz.prog w=.ok (.bool a.isNone) w:=fun w a n c n' c'=>Lib.run_eql_slice_nil w _ _ a n c n' c' Tryz.underlying27
 go_enter Tryz.func177,Tryz.ntmps177
 go_wp2
 go_ret
 exact⟨rfl,rfl⟩
set_option maxHeartbeats 2000000 in
set_option maxRecDepth 100000 in
theorem abX(a:Addr)(n c:Nat)(w:World)(v':Value)(w':World)
 (cZ:∀ ty,(Builtin.append_ #[27,27] ty #[.slice (some ⟨w.heap.size,0,none⟩) 0 0,.slice (some a) n c]).run Tryz.prog (w.alloc (.cells #[] 36))=.ok v' w'):
 Calls Tryz.prog 177 #[.slice (some a) n c] w fun e w1=>e=.returned v'/\w1=w':=by
 have mixed:Tryz.prog.follows Departure.mixedOrders=true:=by kernel_rfl
 have qT:∀ (w:World) (a:Option Addr) (n c n' c':Nat),(binOp .eql 27 (.slice a n c) (.slice none n' c')).run Tryz.prog w=.ok (.bool a.isNone) w:=fun w a n c n' c'=>Lib.run_eql_slice_nil w _ _ a n c n' c' Tryz.underlying27
 go_enter Tryz.func177,Tryz.ntmps177
 go_wp2_with (at_builtin;refine Lib.wpList_append_run _ rfl _ _ _ _ rfl _ _ rfl rfl _ _ (cZ _) ?_)
 go_ret
 exact⟨rfl,rfl⟩
set_option maxHeartbeats 2000000 in
set_option maxRecDepth 100000 in
theorem abV(n c:Nat)(w:World):Calls Tryz.prog 178 #[.slice none n c] w fun e w'=>e=.returned (.slice none 0 0)/\w'=w:=by
 have mixed:Tryz.prog.follows Departure.mixedOrders=true:=by kernel_rfl
 have qT:∀ (w:World) (a:Option Addr) (n c n' c':Nat),(binOp .eql 28 (.slice a n c) (.slice none n' c')).run Tryz.prog w=.ok (.bool a.isNone) w:=fun w a n c n' c'=>Lib.run_eql_slice_nil w _ _ a n c n' c' Tryz.underlying28
 go_enter Tryz.func178,Tryz.ntmps178
 go_wp2
 go_ret
 exact⟨rfl,rfl⟩
set_option maxHeartbeats 2000000 in
set_option maxRecDepth 100000 in
theorem abU(a:Addr)(n c:Nat)(w:World)(v':Value)(w':World)
 (cZ:∀ ty,(Builtin.append_ #[28,28] ty #[.slice (some ⟨w.heap.size,0,none⟩) 0 0,.slice (some a) n c]).run Tryz.prog (w.alloc (.cells #[] 40))=.ok v' w'):
 Calls Tryz.prog 178 #[.slice (some a) n c] w fun e w1=>e=.returned v'/\w1=w':=by
 have mixed:Tryz.prog.follows Departure.mixedOrders=true:=by kernel_rfl
 have qT:∀ (w:World) (a:Option Addr) (n c n' c':Nat),(binOp .eql 28 (.slice a n c) (.slice none n' c')).run Tryz.prog w=.ok (.bool a.isNone) w:=fun w a n c n' c'=>Lib.run_eql_slice_nil w _ _ a n c n' c' Tryz.underlying28
 go_enter Tryz.func178,Tryz.ntmps178
 go_wp2_with (at_builtin;refine Lib.wpList_append_run _ rfl _ _ _ _ rfl _ _ rfl rfl _ _ (cZ _) ?_)
 go_ret
 exact⟨rfl,rfl⟩
set_option maxHeartbeats 2000000 in
set_option maxRecDepth 100000 in
theorem abS(n c:Nat)(w:World):Calls Tryz.prog 179 #[.slice none n c] w fun e w'=>e=.returned (.slice none 0 0)/\w'=w:=by
 have mixed:Tryz.prog.follows Departure.mixedOrders=true:=by kernel_rfl
 have qT:∀ (w:World) (a:Option Addr) (n c n' c':Nat),(binOp .eql 32 (.slice a n c) (.slice none n' c')).run Tryz.prog w=.ok (.bool a.isNone) w:=fun w a n c n' c'=>Lib.run_eql_slice_nil w _ _ a n c n' c' Tryz.underlying32
 go_enter Tryz.func179,Tryz.ntmps179
 go_wp2
 go_ret
 exact⟨rfl,rfl⟩
set_option maxHeartbeats 2000000 in
set_option maxRecDepth 100000 in
theorem abR(a:Addr)(n c:Nat)(w:World)(v':Value)(w':World)
 (cZ:∀ ty,(Builtin.append_ #[32,32] ty #[.slice (some ⟨w.heap.size,0,none⟩) 0 0,.slice (some a) n c]).run Tryz.prog (w.alloc (.cells #[] 3))=.ok v' w'):
 Calls Tryz.prog 179 #[.slice (some a) n c] w fun e w1=>e=.returned v'/\w1=w':=by
 have mixed:Tryz.prog.follows Departure.mixedOrders=true:=by kernel_rfl
 have qT:∀ (w:World) (a:Option Addr) (n c n' c':Nat),(binOp .eql 32 (.slice a n c) (.slice none n' c')).run Tryz.prog w=.ok (.bool a.isNone) w:=fun w a n c n' c'=>Lib.run_eql_slice_nil w _ _ a n c n' c' Tryz.underlying32
 go_enter Tryz.func179,Tryz.ntmps179
 go_wp2_with (at_builtin;refine Lib.wpList_append_run _ rfl _ _ _ _ rfl _ _ rfl rfl _ _ (cZ _) ?_)
 go_ret
 exact⟨rfl,rfl⟩
def Z81:Value:=.agg #[.int .i64 0,.int .i64 0,.int .i64 0,.int .i64 0,.int .i64 0,.int .i64 0,.int .i64 0]
def Z46:Value:=.agg #[.int .i64 0,.int .i64 0]
def Z36:Value:=.agg #[.int .i64 0,.int .i64 0,.int .i64 0,.slice none 0 0,.int .i64 0,.int .i64 0,.int .i64 0]
def Z40:Value:=.agg #[.int .i64 0,.int .i64 0,.int .i64 0,.slice none 0 0,.int .i64 0,.int .i64 0,.int .i64 0,.int .i64 0]
theorem nU(n:Nat)(h:n<1000000000):n≠yid:=by unfold yid;omega
theorem PN:se Tryz.prog 132 29 81 7 56 Z81:=
 ⟨by kernel_rfl,by kernel_rfl,nU _ (by decide),iX Tryz.func132 (by rfl) (by kernel_rfl),ab4,ab3⟩
theorem ab2:se Tryz.prog 176 26 46 2 16 Z46:=
 ⟨by kernel_rfl,by kernel_rfl,nU _ (by decide),iX Tryz.func176 (by rfl) (by kernel_rfl),ab1,ab0⟩
theorem abZ:se Tryz.prog 177 27 36 7 72 Z36:=
 ⟨by kernel_rfl,by kernel_rfl,nU _ (by decide),iX Tryz.func177 (by rfl) (by kernel_rfl),abY,abX⟩
theorem abW:se Tryz.prog 178 28 40 8 80 Z40:=
 ⟨by kernel_rfl,by kernel_rfl,nU _ (by decide),iX Tryz.func178 (by rfl) (by kernel_rfl),abV,abU⟩
theorem abT:se Tryz.prog 179 32 3 1 8 (.int .i64 0):=
 ⟨by kernel_rfl,by kernel_rfl,nU _ (by decide),iX Tryz.func179 (by rfl) (by kernel_rfl),abS,abR⟩
open Go Go.Proofs
def fH(l:List Int):List (V×V):=l.map fun s=>(vInt s,.bool true)
def o6(es:List (V×V)):List Int:=es.map fun q=>kD q.1
@[go_sem] theorem abf(l:List Int):o6 (fH l)=l:=by
  unfold o6 fH
  rw[List.map_map]
  exact List.map_id _
def r9(l:List Int)(s:Int):List Int:=if l.contains s then l else l++[s]
theorem VU(l:List Int)(s:Int):fk (fH l) (vInt s)=if l.contains s then some (.bool true)else none:=by
 induction l with
 |nil=>rfl
 |cons a r ih=>
  show (if fO (vInt a) (vInt s)=true then some (V.bool true)else fk (fH r) (vInt s))=_
  rw[ih]
  by_cases h:a=s
  ·subst h;simp[fO]
  ·have h':(a==s)=false:=by simpa using h
   have hU:(s==a)=false:=by simpa using fun e=>h e.symm
   have h3:¬ s=a:=fun e=>h e.symm
   simp[fO,h',h3]
theorem DV(l:List Int)(s:Int):(fk (fH l) (vInt s)).getD (.bool false)=.bool (l.contains s):=by
 rw[VU]
 cases l.contains s<;>rfl
theorem DT(l:List Int)(s:Int):eo (fH l) (vInt s) (.bool true)=fH (r9 l s):=by
 induction l with
 |nil=>rfl
 |cons a r ih=>
  show (if fO (vInt a) (vInt s)=true then(vInt s,V.bool true)::fH r else(vInt a,V.bool true)::eo (fH r) (vInt s) (.bool true))=_
  rw[ih]
  unfold r9
  by_cases h:a=s
  ·subst h;simp[fO,fH]
  ·have h':(a==s)=false:=by simpa using h
   have hU:(s==a)=false:=by simpa using fun e=>h e.symm
   simp only[fO,h',Bool.false_eq_true,if_false,List.contains_cons,hU,Bool.false_or]
   split<;>rfl
def Dx(obj:Name->Option O)(_:Name):List D->List Name
 |[_,.ref nm _]=>nm::(match obj nm with | some (.box [.map mm])=>[mm] | _=>[])
 |_=>[]
def qN(obj:Name->Option O)(_:Name):List D->R
 |[.v (.int .i64 s),.ref nm 0]=>match obj nm with
  |some (.box [.map mm])=>match obj mm with
   |some (.map 0 es)=>⟨(mm==nm)=false/\fH (o6 es)=es,.v (.bool (!(o6 es).contains s)),upd obj mm (some (.map 0 (fH (r9 (o6 es) s))))⟩
   |_=>.bad obj
  |_=>.bad obj
 |_=>.bad obj
def onceS:Spec:=⟨qN,Dx,Dx⟩
theorem U':onceS.Near:=by
 refine xe fun obj obj2 t ds ha=>?_
 unfold Dx at ha |-
 split
 ·rename_i d nm off
  simp only at ha
  have h1:obj2 nm=obj nm:=ha nm (by simp)
  refine⟨by rw[h1],?_⟩
  have hJ:∀ wr,bU wr obj obj2->b8 (R.bad obj) (R.bad obj2) obj obj2 wr:=fun wr h=>.none wr h
  unfold qN
  split
  ·rename_i s kP e
   simp only[List.cons.injEq,D.ref.injEq,and_true]at e
   obtain⟨_,rfl,rfl⟩:=e
   simp only[h1]
   split at ha
   ·rename_i mm hm
    have h2:obj2 mm=obj mm:=ha mm (by simp)
    simp only[h2,hm]
    split
    ·exact .one (by simp) ha
    ·exact hJ _ ha
   ·exact hJ _ ha
  ·exact hJ _ ha
 ·refine⟨rfl,?_⟩
  rename_i mS
  unfold qN
  split
  ·exact(mS _ _ _ rfl).elim
  ·exact .none _ (fun _ h=>by cases h)
attribute [go_sem] onceS qN
def w7:CSpec where
 pre:=fun os ds=>∃ (ss:List Int) (s:Int),os=[.box [.map [1,1]],.map 0 (fH ss)]/\ds=[.v (vInt s),.ref [0,1] 0]
 out:=fun os ds=>match os,ds with
  |[_,.map _ es],[.v (.int _ s),_]=>⟨[(1,.map 0 (fH (r9 (o6 es) s)))],[],.v (.bool (!(o6 es).contains s))⟩
  |_,_=>⟨[],[],.any⟩
theorem U9{f:FuncId}(h:aL Tryz.prog f w7.toSpec)(aF:f≠yid):aL Tryz.prog f onceS:=by
 refine wI h U' aF fun obj t ds aa=>?_
 change (qN obj t ds).ok at aa
 refine⟨ds,rfl,fun _ _ _ _ h=>h,?_⟩
 show _/\_=(qN obj t ds).d/\_=(qN obj t ds).obj
 unfold qN at aa |-
 split at aa
 ·rename_i s nm
  split at aa
  ·rename_i mm hb
   split at aa
   ·rename_i es hm
    obtain⟨mN,Z2⟩:=aa
    have Fm:mm≠nm:=by simpa using mN
    have hbe:(nm==mm)=false:=by simpa using fun e=>Fm e.symm
    have hr:reach obj [.v (.int .i64 s),.ref nm 0]=[nm,mm]:=by
     unfold reach
     show dk obj (2997+1+1+1) [nm] []=[nm,mm]
     simp only[dk,cJ,List.any_nil,Bool.false_eq_true,if_false,hb,kQ,cw,ki,List.nil_append,List.append_nil,List.any_cons,hbe,Bool.or_false,hm,List.cons_append]
    have i0:idx [nm,mm] nm=0:=by simp[idx]
    have i1:idx [nm,mm] mm=1:=by simp[idx,Ne.symm Fm]
    have e1:cF obj [.v (.int .i64 s),.ref nm 0]=[.box [.map [1,1]],.map 0 es]:=by
     unfold cF
     rw[hr]
     simp only[List.map_cons,List.map_nil,cE,hb,hm,O.ren,D.renL,D.ren,cin,i1]
    have e2:db obj [.v (.int .i64 s),.ref nm 0]=[.v (.int .i64 s),.ref [0,1] 0]:=by
     unfold db
     rw[hr]
     simp only[D.renL,D.ren,cin,i0]
    have gN:w7.out [.box [.map [1,1]],.map 0 es] [.v (.int .i64 s),.ref [0,1] 0]=⟨[(1,.map 0 (fH (r9 (o6 es) s)))],[],.v (.bool (!(o6 es).contains s))⟩:=rfl
    have dM:w7.pre [.box [.map [1,1]],.map 0 es] [.v (.int .i64 s),.ref [0,1] 0]:=⟨o6 es,s,by rw[Z2],rfl⟩
    have e3:(shut obj [nm,mm]&&D.closL (cJ [nm,mm]) [.v (.int .i64 s),.ref nm 0]&&fresh obj t [])=true:=by
     simp[shut,hb,hm,O.clos,D.closL,D.clos,cJ,fresh]
    simp only[CSpec.toSpec,e1,e2,hr,gN,e3,dM,hb,hm,and_self,dv,cH,D.ren,D.renL,O.ren,cout,List.getD_cons_zero,List.getD_cons_succ]
   ·exact aa.elim
  ·exact aa.elim
 ·exact aa.elim
set_option maxHeartbeats 8000000
noncomputable section
def S117:Spec:=onceS
attribute [go_sem] S117
theorem Yg:aL Tryz.prog 117 S117:=by
 refine U9 ?_ (nU _ (by decide))
 refine oy (nt:=12) (rs:=[.tmp 3]) Tryz.func117 rfl (by rfl) (by kernel_rfl) (iX Tryz.func117 rfl (by kernel_rfl)) (nU _ (by decide)) ?_
 rintro os ds ⟨ss,s,rfl,rfl⟩
 refine⟨Nat.le_of_ble_eq_true rfl,?_⟩
 have gN:w7.out [.box [.map [1,1]],.map 0 (fH ss)] [.v (vInt s),.ref [0,1] 0]=⟨[(1,.map 0 (fH (r9 ss s)))],[],.v (.bool (!ss.contains s))⟩:=by
  simp only[w7,abf]
 rw[gN]
 refine iG ?_
 have hΓ:=@fx Tryz.prog
 have dU:∀ hs,ck [0] (bY [0] hs) (aR [.box [.map [1,1]],.map 0 (fH ss)])=True:=fun hs=>eq_true (nP (by
  intro o ho dom hd
  simp only[List.mem_cons,List.not_mem_nil,or_false]at ho
  rcases ho with rfl | rfl
  ·simp[O.clos,D.closL,D.clos,hd]
  ·rfl) hs)
 have h0:aR [.box [.map [1,1]],.map 0 (fH ss)] [0,1]=some (.box [.map [1,1]]):=rfl
 have h1:aR [.box [.map [1,1]],.map 0 (fH ss)] [1,1]=some (.map 0 (fH ss)):=rfl
 generalize hH:aR [.box [.map [1,1]],.map 0 (fH ss)]=H at *
 have ae:∀ hs es,ck [0] (bY [0] hs) (upd H [1,1] (some (.map 0 es)))=True:=fun hs es=>eq_true (uv rfl (by rw[dU];trivial))
 have br:∀ hs es,ck [0] (bY [0] hs) (fun nm=>if nm=[1,1]then some (.map 0 es)else H nm)=True:=ae
 repeat refine sq ?_
 refine rx hΓ [0,1] [] (fun K' hK=>by simp only[go_sem,dU];(repeat (refine⟨ob,?_⟩));exact hK _ (by simp only[go_sem,dU]) (by simp only[go_sem,dU]<;>rfl)) ?_
 repeat refine sq ?_
 refine rx hΓ [0,1,4] [] (fun K' hK=>by simp only[go_sem,dU,h0,h1,DV];(repeat (refine⟨ob,?_⟩));exact hK _ (by simp only[go_sem,dU,h0,h1,DV]) (by simp only[go_sem,dU,h0,h1,DV]<;>rfl)) ?_
 repeat refine sq ?_
 refine rx hΓ [4] [] (fun K' hK=>by simp only[go_sem,dU,ae,br,h0,h1,DT];(repeat (refine⟨ob,?_⟩));exact hK _ (by simp only[go_sem,dU,ae,br,h0,h1,DT]) (by simp only[go_sem,dU,ae,br,h0,h1,DT]<;>rfl)) ?_
 repeat refine sq ?_
 refine rx hΓ [3] [] (fun K' hK=>by simp only[go_sem,dU,ae,br];(repeat (refine⟨ob,?_⟩));exact hK _ (by simp only[go_sem,dU,ae,br]) (by simp only[go_sem,dU,ae,br]<;>rfl)) ?_
 refine aA ?_
 simp only[go_sem]
 exact⟨h0,rfl⟩
def K7:List (Nat×Spec):=[(109,ads),(111,adq),(113,ado),(115,adm),(117,S117),(79,yW)]
theorem adI:KS K7:=tc TN.sound<|tc TL.sound<|tc TJ.sound<|tc TH.sound<|tc Yg<|tc CR.sound<|tn
attribute [go_sem] K7
def sn{α:Type}(pre:List Int)(f:α->Int)(l:List α)(i:Nat):List Int:=(l.take i).foldl (fun a x=>a++[f x]) pre
theorem px{α:Type}(pre:List Int)(f:α->Int)(l:List α)(i:Nat):sn pre f l i=pre++(l.take i).map f:=by
 unfold sn
 generalize l.take i=k
 induction k generalizing pre with
 |nil=>simp
 |cons a r ih=>simp[ih]
theorem CK{α:Type}{pre:List Int}{f:α->Int}{l:List α}{i:Nat}(h:i<l.length)(hc:(sn pre f l i).contains (f l[i])=false):r9 (sn pre f l i) (f l[i])=sn pre f l (i+1):=by
 unfold r9
 rw[hc,px,px,List.take_add_one,List.getElem?_eq_getElem h]
 simp only[Bool.false_eq_true,if_false,Option.toList_some,List.map_append,List.map_cons,List.map_nil,List.append_assoc]
def pQ(l:List Int):Int:=l.getD (l.length-1) 0
def uI(l:Led):List Int:=l.rs.map Rec.so++l.ts.map Ret.so++l.ss.map Sig.so
structure bA (l:Led):Prop where
 ps:jx mD Pap.id l.ps=true
 psn:l.ps.length<=12
 rs:jx eh Rec.so l.rs=true
 rsn:l.rs.length<=60
 ts:jx j9 Ret.so l.ts=true
 tsn:l.ts.length<=60
 ss:jx kN Sig.so l.ss=true
 ssn:l.ss.length<=60
 rl:∀ j (h:j<l.rs.length),pQ l.rs[j].lv<=cM l.ps l.rs[j].pa
 sl:∀ j (h:j<l.ss.length),l.ss[j].le<=cM l.ps l.ss[j].pa
 nd:(uI l).Nodup
open Classical in
def xa(l:Led):Bool:=decide (bA l)
theorem DB{l:Led}:xa l=true↔bA l:=by unfold xa;exact @decide_eq_true_iff _ (Classical.propDecidable _)
def kE(l:Led):Int:=ib (xa l) 24
theorem yF{l:Led}(h:¬ bA l):kE l=24:=by unfold kE;rw[wh DB h];rfl
theorem G9{l:Led}(h:bA l):kE l=0:=by unfold kE;rw[DB.2 h];rfl
def mE{α:Type}(pre:List Int)(f:α->Int)(l:List α)(i:Nat):Prop:=∀ j (h:j<l.length),j<i->(sn pre f l j).contains (f l[j])=false
theorem DN{α:Type}{pre:List Int}{f:α->Int}{l:List α}{i:Nat}(h:mE pre f l i)(hi:i<l.length)(hc:(sn pre f l i).contains (f l[i])=false):mE pre f l (i+1):=by
 intro j hj fe
 rcases Nat.lt_succ_iff_lt_or_eq.1 fe with h1 | rfl
 ·exact h j hj h1
 ·exact hc
theorem vf{α:Type}{pre:List Int}{f:α->Int}{l:List α}(hp:pre.Nodup):mE pre f l l.length↔(pre++l.map f).Nodup:=by
 constructor
 ·intro h
  rw[List.nodup_append]
  refine⟨hp,?_,?_⟩
  ·rw[List.nodup_iff_pairwise_ne,List.pairwise_map,List.pairwise_iff_getElem]
   intro i j hi hj bF e
   have :=h j hj hj
   rw[px]at this
   simp only[List.contains_append,Bool.or_eq_false_iff]at this
   have h2:=this.2
   have :(List.map f (List.take j l)).contains (f l[j])=true:=by
    rw[List.contains_iff_mem,List.mem_map]
    exact⟨l[i],by rw[List.mem_take_iff_getElem];exact⟨i,by omega,rfl⟩,e⟩
   rw[h2]at this;cases this
  ·intro a ha b hb e
   subst e
   obtain⟨x,hx,rfl⟩:=List.mem_map.1 hb
   obtain⟨j,hj,rfl⟩:=List.getElem_of_mem hx
   have :=h j hj hj
   rw[px]at this
   simp only[List.contains_append,Bool.or_eq_false_iff]at this
   have h2:=this.1
   rw[List.contains_iff_mem.2 ha]at h2;cases h2
 ·intro h j hj _
  rw[List.nodup_append]at h
  obtain⟨_,h1,h2⟩:=h
  rw[px,Bool.eq_false_iff]
  intro hc
  rw[List.contains_iff_mem,List.mem_append]at hc
  rcases hc with hc | hc
  ·exact h2 _ hc _ (List.mem_map_of_mem (List.getElem_mem hj)) rfl
  ·obtain⟨x,hx,e⟩:=List.mem_map.1 hc
   obtain⟨i,hi,rfl⟩:=List.mem_take_iff_getElem.1 hx
   rw[List.nodup_iff_pairwise_ne,List.pairwise_map,List.pairwise_iff_getElem]at h1
   exact h1 i j (by omega) hj (by omega) e
theorem Ko{α:Type}{pre:List Int}{f:α->Int}{l:List α}(h:(pre++l.map f).Nodup):pre.Nodup:=(List.nodup_append.1 h).1
def Um(l:Led)(i:Nat):Prop:=∀ j (h:j<l.rs.length),j<i->pQ l.rs[j].lv<=cM l.ps l.rs[j].pa
def Sh(l:Led)(i:Nat):Prop:=∀ j (h:j<l.ss.length),j<i->l.ss[j].le<=cM l.ps l.ss[j].pa
theorem HL{l:Led}(h:bA l):mE [] Rec.so l.rs l.rs.length/\mE (sn [] Rec.so l.rs l.rs.length) Ret.so l.ts l.ts.length/\mE (sn (sn [] Rec.so l.rs l.rs.length) Ret.so l.ts l.ts.length) Sig.so l.ss l.ss.length:=by
 have hn:=h.nd
 unfold uI at hn
 have e1:sn [] Rec.so l.rs l.rs.length=l.rs.map Rec.so:=by rw[px,List.take_length];rfl
 have e2:sn (sn [] Rec.so l.rs l.rs.length) Ret.so l.ts l.ts.length=l.rs.map Rec.so++l.ts.map Ret.so:=by rw[px,e1,List.take_length]
 have n2:=Ko hn
 have n1:=Ko n2
 refine⟨(vf (by simp)).2 (by simpa using n1),?_,?_⟩
 ·rw[e1];exact(vf n1).2 n2
 ·rw[e2];exact(vf n2).2 hn
theorem adB{l:Led}(h1:mE [] Rec.so l.rs l.rs.length)(h2:mE (sn [] Rec.so l.rs l.rs.length) Ret.so l.ts l.ts.length)(h3:mE (sn (sn [] Rec.so l.rs l.rs.length) Ret.so l.ts l.ts.length) Sig.so l.ss l.ss.length):(uI l).Nodup:=by
 have e1:sn [] Rec.so l.rs l.rs.length=l.rs.map Rec.so:=by rw[px,List.take_length];rfl
 have e2:sn (sn [] Rec.so l.rs l.rs.length) Ret.so l.ts l.ts.length=l.rs.map Rec.so++l.ts.map Ret.so:=by rw[px,e1,List.take_length]
 have n1:(l.rs.map Rec.so).Nodup:=by simpa using(vf (pre:=[]) (by simp)).1 h1
 have n2:=(vf n1).1 (by rw[e1]at h2;exact h2)
 exact(vf n2).1 (by rw[e2]at h3;exact h3)
theorem ack{a b c d:Bool}{p q r s:Prop}[Decidable p][Decidable q][Decidable r][Decidable s](h:(!(a&&decide p)||!(b&&decide q)||!(c&&decide r)||!(d&&decide s))=false):a=true/\p/\b=true/\q/\c=true/\r/\d=true/\s:=by
 simp only[Bool.or_eq_false_iff,Bool.not_eq_false',Bool.and_eq_true,decide_eq_true_eq]at h
 obtain⟨⟨⟨⟨h1,h2⟩,h3,h4⟩,h5,h6⟩,h7,h8⟩:=h
 exact⟨h1,h2,h3,h4,h5,h6,h7,h8⟩
theorem ni{α:Type}{fI:α->Bool}{num:α->Int}{l:List α}(h:jx fI num l=true){j:Nat}(hj:j<l.length):fI l[j]=true:=(kH.1 h j hj hj).1
theorem Un{r:Rec}(h:eh r=true):0<r.lv.length:=by
 unfold eh at h
 simp only[Bool.and_eq_true]at h
 exact(qY.1 h.1.1.2).1
@[go_sem] def P37:PSpec:=p1 iL (fun _=>True) (fun l=>vInt (kE l)) true
@[go_sem] def Ch:Spec:=P37.toSpec
theorem CT:aU Tryz.prog 37 P37:=by
 refine gp (rs:=[.tmp 2]) Tryz.func37 Tryz.ntmps37 fun l hp hw=>?_
 have hP:=eK
 simp only[iL,ft]at hw |-
 have hΓ:=adI
 repeat refine sq ?_
 refine rs hΓ [1] [[1,0]] ?_
 repeat refine sq ?_
 refine rs hΓ [1,32] [[1,0]] ?_
 repeat refine sq ?_
 refine ay (fun hb=>?_) fun hb=>?_
 ·repeat refine sq ?_
  have kC:¬ bA l:=by
   intro h
   rw[h.ps,h.rs,h.ts,h.ss]at hb
   have h1:=h.psn
   have h2:=h.rsn
   have h3:=h.tsn
   have h4:=h.ssn
   simp only[Bool.true_and,Bool.or_eq_true,Bool.not_eq_true',decide_eq_false_iff_not]at hb
   omega
  repeat refine sq ?_
  refine rs hΓ [2] [] ?_
  refine aA ?_
  simp only[go_sem]
  rw[yF kC]
 ·repeat refine sq ?_
  obtain⟨fR,E2,bP,lV,sU,AB,sW,AE⟩:=ack hb
  have vz:srt Pap.id l.ps:=w9 (kH.1 fR)
  have AT:l.rs.length<=maxLen:=by unfold maxLen;omega
  have ku:l.ts.length<=maxLen:=by unfold maxLen;omega
  have p6:l.ss.length<=maxLen:=by unfold maxLen;omega
  refine aE ?_
  repeat refine sq ?_
  refine rs hΓ [1,3] [[1,0],[3,0],[33,0]] ?_
  repeat refine sq ?_
  refine rs hΓ [1,4] [[1,0],[3,0],[33,0]] ?_
  repeat refine sq ?_
  refine rs hΓ [1,4,36,37,38] [[1,0],[3,0],[33,0]] ?_
  repeat refine sq ?_
  refine aN ?_
  repeat refine sq ?_
  refine cB (fun s:Nat=>[(38,⟨true,.v (vInt s)⟩)]) (fun s=>[([33,0],.map 0 (fH (sn [] Rec.so l.rs s)))]) (fun s=>s<=l.rs.length/\mE [] Rec.so l.rs s/\Um l s) (fun s=>l.rs.length-s) 0 ?_ ?_ ?_ ?_
  ·exact⟨Nat.zero_le _,fun j _ h=>by omega,fun j _ h=>by omega⟩
  ·rfl
  ·rfl
  rintro i ⟨hi,hR,Ou⟩
  simp only[go_sem]
  repeat refine sq ?_
  refine rs hΓ [1,4,36,37,38,39] [[1,0],[3,0],[33,0]] ?_
  repeat refine sq ?_
  refine ay (fun hb=>?_) fun hb=>?_
  ·have ab:i<l.rs.length:=by simpa using hb
   have au:(i:Int)<l.rs.length:=by omega
   clear hb
   have hv:=Un (ni bP ab)
   have Ax:l.rs[i].lv.length<=maxLen:=by have h0:=(qY.1 (by have h:=ni bP ab;unfold eh at h;simp only[Bool.and_eq_true]at h;exact h.1.1.2:lP l.rs[i].lv=true)).2.1;unfold maxLen;omega
   have xF:=Ct (by omega:¬ l.rs[i].lv.length=0) Ax
   have E1:((l.rs[i].lv.length-1:Nat):Int)<l.rs[i].lv.length:=by omega
   have rq:l.rs[i].lv.length-1<l.rs[i].lv.length:=by omega
   have ZO:(l.rs[i].lv.map vInt).getD (l.rs[i].lv.length-1) default=vInt (pQ l.rs[i].lv):=by unfold pQ;rw[ah rq,cj rq]
   repeat refine sq ?_
   refine aE ?_
   repeat refine sq ?_
   refine aN ?_
   repeat refine sq ?_
   refine rx hΓ [1,4,6,36,37,38] [[1,0],[3,0],[6,0],[33,0]] (fun K' hK=>by simp only[go_sem,ah ab,ai,aj,au];exact fn) ?_
   repeat refine sq ?_
   refine dx hΓ hP [[],[],[1],[0,1,2],u4,u5,u6,u7,u6,[0,1,2,3,4,5,8],[0,1,2,3,4,5,8,9],[0,1,2,3,4,5,8,9,10],eg,gT,u6,[0,1,2,3,4,5,14],[0,1,2,3,4,5,14,15],lz,gS] [1,4,36,37,38,60] [[1,0],[3,0],[33,0]] (by kernel_rfl) (fun K' hK=>by simp only[go_sem,ah ab,ai,aj,au,vz,xF,ZO,E1];exact fd) ?_
   repeat refine sq ?_
   refine ay (fun hb=>?_) fun hb=>?_
   ·repeat refine sq ?_
    have kC:¬ bA l:=by
     intro h
     have h1:=(HL h).1 i ab ab
     have h2:=h.rl i ab
     rw[h1]at hb
     simp only[Bool.not_false,Bool.not_true,Bool.false_or,decide_eq_true_eq]at hb
     omega
    repeat refine sq ?_
    refine rx hΓ [2] [] (fun K' hK=>by simp only[go_sem,ah ab,ai,aj,au];exact fn) ?_
    refine aA ?_
    simp only[go_sem]
    rw[yF kC]
   ·repeat refine sq ?_
    have rC:(sn [] Rec.so l.rs i).contains l.rs[i].so=false:=by
     simp only[Bool.or_eq_false_iff,Bool.not_not]at hb
     exact hb.1
    have vD:pQ l.rs[i].lv<=cM l.ps l.rs[i].pa:=by
     simp only[Bool.or_eq_false_iff,decide_eq_false_iff_not]at hb
     omega
    rw[CK ab rC]
    refine aE ?_
    refine bQ ?_
    simp only[go_sem]
    refine kp [1,4,36,37,38] [[1,0],[3,0],[33,0]] ?_
    repeat refine sq ?_
    refine aP hΓ fun K' hK=>?_
    simp only[go_sem,ah ab,ai,aj,au]
    repeat (refine⟨ob,?_⟩)
    refine hK _ ?_
    clear K' hK
    simp only[go_sem]
    refine⟨i+1,⟨ab,?_⟩,by(show l.rs.length-(i+1)<l.rs.length-i;omega),?_⟩
    ·exact⟨DN hR ab rC,fun j hj fe=>by
      rcases Nat.lt_succ_iff_lt_or_eq.1 fe with h1 | rfl
      ·exact Ou j hj h1
      ·exact vD⟩
    refine bd [1,4,36,37,38] [[1,0],[3,0],[33,0]] ?_ ?_<;>simp only[go_sem,a7 ab AT,bb]
  ·have bB:i=l.rs.length:=by
    have :¬ (i:Int)<l.rs.length:=by simpa using hb
    omega
   clear hb
   subst bB
   repeat refine sq ?_
   refine bT ?_
   simp only[go_sem]
   refine kp [1,4] [[1,0],[3,0],[33,0]] ?_
   repeat refine sq ?_
   refine rs hΓ [1,4,63,64,65] [[1,0],[3,0],[33,0]] ?_
   repeat refine sq ?_
   refine aN ?_
   repeat refine sq ?_
   refine cB (fun s:Nat=>[(65,⟨true,.v (vInt s)⟩)]) (fun s=>[([33,0],.map 0 (fH (sn (sn [] Rec.so l.rs l.rs.length) Ret.so l.ts s)))]) (fun s=>s<=l.ts.length/\mE (sn [] Rec.so l.rs l.rs.length) Ret.so l.ts s) (fun s=>l.ts.length-s) 0 ?_ ?_ ?_ ?_
   ·exact⟨Nat.zero_le _,fun j _ h=>by omega⟩
   ·rfl
   ·rfl
   rintro i ⟨NY,Ot⟩
   simp only[go_sem]
   repeat refine sq ?_
   refine rs hΓ [1,4,63,64,65,66] [[1,0],[3,0],[33,0]] ?_
   repeat refine sq ?_
   refine ay (fun hb=>?_) fun hb=>?_
   ·have aT:i<l.ts.length:=by simpa using hb
    have bH:(i:Int)<l.ts.length:=by omega
    clear hb
    repeat refine sq ?_
    refine aE ?_
    repeat refine sq ?_
    refine aN ?_
    repeat refine sq ?_
    refine rx hΓ [1,4,8,63,64,65] [[1,0],[3,0],[8,0],[33,0]] (fun K' hK=>by simp only[go_sem,ah aT,ai,aj,bH];exact fn) ?_
    repeat refine sq ?_
    refine rx hΓ [1,4,63,64,65,73] [[1,0],[3,0],[33,0]] (fun K' hK=>by simp only[go_sem,ah aT,ai,aj,bH];exact fn) ?_
    repeat refine sq ?_
    refine ay (fun hb=>?_) fun hb=>?_
    ·repeat refine sq ?_
     have kC:¬ bA l:=by
      intro h
      have h1:=(HL h).2.1 i aT aT
      rw[h1]at hb
      cases hb
     repeat refine sq ?_
     refine rx hΓ [2] [] (fun K' hK=>by simp only[go_sem,ah aT,ai,aj,bH];exact fn) ?_
     refine aA ?_
     simp only[go_sem]
     rw[yF kC]
    ·repeat refine sq ?_
     have rC:(sn (sn [] Rec.so l.rs l.rs.length) Ret.so l.ts i).contains l.ts[i].so=false:=by
      simpa only[Bool.not_not]using hb
     rw[CK aT rC]
     refine aE ?_
     refine bQ ?_
     simp only[go_sem]
     refine kp [1,4,63,64,65] [[1,0],[3,0],[33,0]] ?_
     repeat refine sq ?_
     refine aP hΓ fun K' hK=>?_
     simp only[go_sem,ah aT,ai,aj,bH]
     repeat (refine⟨ob,?_⟩)
     refine hK _ ?_
     clear K' hK
     simp only[go_sem]
     refine⟨i+1,⟨aT,?_⟩,by(show l.ts.length-(i+1)<l.ts.length-i;omega),?_⟩
     ·exact DN Ot aT rC
     refine bd [1,4,63,64,65] [[1,0],[3,0],[33,0]] ?_ ?_<;>simp only[go_sem,a7 aT ku,bb]
   ·have lY:i=l.ts.length:=by
     have :¬ (i:Int)<l.ts.length:=by simpa using hb
     omega
    clear hb
    subst lY
    repeat refine sq ?_
    refine bT ?_
    simp only[go_sem]
    refine kp [1,4] [[1,0],[3,0],[33,0]] ?_
    repeat refine sq ?_
    refine rs hΓ [1,4,76,77,78] [[1,0],[3,0],[33,0]] ?_
    repeat refine sq ?_
    refine aN ?_
    repeat refine sq ?_
    refine cB (fun s:Nat=>[(78,⟨true,.v (vInt s)⟩)]) (fun s=>[([33,0],.map 0 (fH (sn (sn (sn [] Rec.so l.rs l.rs.length) Ret.so l.ts l.ts.length) Sig.so l.ss s)))]) (fun s=>s<=l.ss.length/\mE (sn (sn [] Rec.so l.rs l.rs.length) Ret.so l.ts l.ts.length) Sig.so l.ss s/\Sh l s) (fun s=>l.ss.length-s) 0 ?_ ?_ ?_ ?_
    ·exact⟨Nat.zero_le _,fun j _ h=>by omega,fun j _ h=>by omega⟩
    ·rfl
    ·rfl
    rintro i ⟨lX,Oq,Oo⟩
    simp only[go_sem]
    repeat refine sq ?_
    refine rs hΓ [1,4,76,77,78,79] [[1,0],[3,0],[33,0]] ?_
    repeat refine sq ?_
    refine ay (fun hb=>?_) fun hb=>?_
    ·have cz:i<l.ss.length:=by simpa using hb
     have gw:(i:Int)<l.ss.length:=by omega
     clear hb
     repeat refine sq ?_
     refine aE ?_
     repeat refine sq ?_
     refine aN ?_
     repeat refine sq ?_
     refine rx hΓ [1,4,10,76,77,78] [[1,0],[3,0],[10,0],[33,0]] (fun K' hK=>by simp only[go_sem,ah cz,ai,aj,gw];exact fn) ?_
     repeat refine sq ?_
     refine dx hΓ hP [[],[],[1],[0,1,2],u4,u5,u6,u7,u6,[0,1,2,3,4,5,8],[0,1,2,3,4,5,8,9],dX,eg] [1,4,76,77,78,94] [[1,0],[3,0],[33,0]] (by kernel_rfl) (fun K' hK=>by simp only[go_sem,ah cz,ai,aj,gw,vz];exact fd) ?_
     repeat refine sq ?_
     refine ay (fun hb=>?_) fun hb=>?_
     ·repeat refine sq ?_
      have kC:¬ bA l:=by
       intro h
       have h1:=(HL h).2.2 i cz cz
       have h2:=h.sl i cz
       rw[h1]at hb
       simp only[Bool.not_false,Bool.not_true,Bool.false_or,decide_eq_true_eq]at hb
       omega
      repeat refine sq ?_
      refine rx hΓ [2] [] (fun K' hK=>by simp only[go_sem,ah cz,ai,aj,gw];exact fn) ?_
      refine aA ?_
      simp only[go_sem]
      rw[yF kC]
     ·repeat refine sq ?_
      have rC:(sn (sn (sn [] Rec.so l.rs l.rs.length) Ret.so l.ts l.ts.length) Sig.so l.ss i).contains l.ss[i].so=false:=by
       simp only[Bool.or_eq_false_iff,Bool.not_not]at hb
       exact hb.1
      have vD:l.ss[i].le<=cM l.ps l.ss[i].pa:=by
       simp only[Bool.or_eq_false_iff,decide_eq_false_iff_not]at hb
       omega
      rw[CK cz rC]
      refine aE ?_
      refine bQ ?_
      simp only[go_sem]
      refine kp [1,4,76,77,78] [[1,0],[3,0],[33,0]] ?_
      repeat refine sq ?_
      refine aP hΓ fun K' hK=>?_
      simp only[go_sem,ah cz,ai,aj,gw]
      repeat (refine⟨ob,?_⟩)
      refine hK _ ?_
      clear K' hK
      simp only[go_sem]
      refine⟨i+1,⟨cz,?_⟩,by(show l.ss.length-(i+1)<l.ss.length-i;omega),?_⟩
      ·exact⟨DN Oq cz rC,fun j hj fe=>by
        rcases Nat.lt_succ_iff_lt_or_eq.1 fe with h1 | rfl
        ·exact Oo j hj h1
        ·exact vD⟩
      refine bd [1,4,76,77,78] [[1,0],[3,0],[33,0]] ?_ ?_<;>simp only[go_sem,a7 cz p6,bb]
    ·have p8:i=l.ss.length:=by
      have :¬ (i:Int)<l.ss.length:=by simpa using hb
      omega
     clear hb
     subst p8
     repeat refine sq ?_
     refine bT ?_
     simp only[go_sem]
     refine kp [] [] ?_
     repeat refine sq ?_
     refine rs hΓ [2] [] ?_
     refine aA ?_
     simp only[go_sem]
     rw[G9 ⟨fR,by omega,bP,by omega,sU,by omega,sW,by omega,fun j h=>Ou j h h,fun j h=>Oo j h h,adB hR Ot Oq⟩]
end
noncomputable section
def K8a:List (Nat×Spec):=[(84,Cf)]
attribute [go_sem] K8a
structure Fol where
 (pa le:Int)
 deriving Inhabited,DecidableEq
def gA(f:Fol):V:=.agg [vInt f.pa,vInt f.le]
def By:V->Fol
 | .agg [.int _ a,.int _ b]=>⟨a,b⟩
 |_=>default
def iQ:En Fol:=⟨gA,By⟩
attribute [go_sem] gA By iQ
@[go_sem] theorem mW(p:Fol):(⟨p.pa,p.le⟩:Fol)=p:=rfl
end
noncomputable section
def K9:List (Nat×Spec):=[]
attribute [go_sem] K9
end
noncomputable section
theorem Bp(d:Nat)(a b:Int):jt Tryz.prog (d+1) 3 (vInt a) (vInt b)=some (a==b):=by
 simp only[jt,Tryz.underlying3,if_true]
theorem Z5:Tryz.prog.stoodInHeld 46=false:=by kernel_rfl
theorem aaI:Tryz.prog.eqGuardType Tryz.prog.depth 46=false:=by kernel_rfl
theorem aa5(d:Nat)(a b a' b':Int):jt Tryz.prog (d+2) 46 (.agg [vInt a,vInt b]) (.agg [vInt a',vInt b'])=some (a==a'&&b==b'):=by
 unfold jt
 simp only[Tryz.underlying46,Z5,Bool.false_eq_true,if_false,o5,qK,zr,List.getElem?_cons_zero,List.getElem?_cons_succ,Bp]
 cases a==a'<;>cases b==b'<;>rfl
@[go_sem] theorem aio(obj:Name->Option O)(op:BinOp)(a b a' b':Int):jW Tryz.prog obj op 46 (.agg [vInt a,vInt b]) (.agg [vInt a',vInt b'])=
    ⟨op=.eql\/op=.neq,.v (.bool (if op=.eql then(a==a'&&b==b')else !(a==a'&&b==b'))),obj⟩:=by
  unfold jW
  rw[show Op.maxDepth=9998+2 from rfl,aa5]
  simp only[aaI,true_and]
theorem Z4:Tryz.prog.stoodInHeld 56=false:=by kernel_rfl
theorem aaH:Tryz.prog.eqGuardType Tryz.prog.depth 56=false:=by kernel_rfl
theorem aa4(d:Nat)(a b a' b':Int):jt Tryz.prog (d+2) 56 (.agg [vInt a,vInt b]) (.agg [vInt a',vInt b'])=some (a==a'&&b==b'):=by
 unfold jt
 simp only[Tryz.underlying56,Z4,Bool.false_eq_true,if_false,o5,qK,zr,List.getElem?_cons_zero,List.getElem?_cons_succ,Bp]
 cases a==a'<;>cases b==b'<;>rfl
@[go_sem] theorem ain(obj:Name->Option O)(op:BinOp)(a b a' b':Int):jW Tryz.prog obj op 56 (.agg [vInt a,vInt b]) (.agg [vInt a',vInt b'])=
    ⟨op=.eql\/op=.neq,.v (.bool (if op=.eql then(a==a'&&b==b')else !(a==a'&&b==b'))),obj⟩:=by
  unfold jW
  rw[show Op.maxDepth=9998+2 from rfl,aa4]
  simp only[aaH,true_and]
theorem Z6:Tryz.prog.stoodInHeld 38=false:=by kernel_rfl
theorem aaJ:Tryz.prog.eqGuardType Tryz.prog.depth 38=false:=by kernel_rfl
theorem aa6(d:Nat)(a b a' b':Int):jt Tryz.prog (d+2) 38 (.agg [vInt a,vInt b]) (.agg [vInt a',vInt b'])=some (a==a'&&b==b'):=by
 unfold jt
 simp only[Tryz.underlying38,Z6,Bool.false_eq_true,if_false,o5,qK,zr,List.getElem?_cons_zero,List.getElem?_cons_succ,Bp]
 cases a==a'<;>cases b==b'<;>rfl
@[go_sem] theorem aip(obj:Name->Option O)(op:BinOp)(a b a' b':Int):jW Tryz.prog obj op 38 (.agg [vInt a,vInt b]) (.agg [vInt a',vInt b'])=
    ⟨op=.eql\/op=.neq,.v (.bool (if op=.eql then(a==a'&&b==b')else !(a==a'&&b==b'))),obj⟩:=by
  unfold jW
  rw[show Op.maxDepth=9998+2 from rfl,aa6]
  simp only[aaJ,true_and]
theorem Z3:Tryz.prog.stoodInHeld 81=false:=by kernel_rfl
theorem aaG:Tryz.prog.eqGuardType Tryz.prog.depth 81=false:=by kernel_rfl
theorem aa3(k:Nat)(a b c d e f g a' b' c' d' e' f' g':Int):jt Tryz.prog (k+2) 81 (.agg [vInt a,vInt b,vInt c,vInt d,vInt e,vInt f,vInt g]) (.agg [vInt a',vInt b',vInt c',vInt d',vInt e',vInt f',vInt g'])=
 some (a==a'&&(b==b'&&(c==c'&&(d==d'&&(e==e'&&(f==f'&&g==g')))))):=by
 unfold jt
 simp only[Tryz.underlying81,Z3,Bool.false_eq_true,if_false,o5,qK,zr,List.getElem?_cons_zero,List.getElem?_cons_succ,Bp]
 cases a==a'<;>cases b==b'<;>cases c==c'<;>cases d==d'<;>cases e==e'<;>cases f==f'<;>cases g==g'<;>rfl
@[go_sem] theorem aim(obj:Name->Option O)(op:BinOp)(a b c d e f g a' b' c' d' e' f' g':Int):jW Tryz.prog obj op 81 (.agg [vInt a,vInt b,vInt c,vInt d,vInt e,vInt f,vInt g]) (.agg [vInt a',vInt b',vInt c',vInt d',vInt e',vInt f',vInt g'])=
    ⟨op=.eql\/op=.neq,.v (.bool (if op=.eql then(a==a'&&(b==b'&&(c==c'&&(d==d'&&(e==e'&&(f==f'&&g==g'))))))else !(a==a'&&(b==b'&&(c==c'&&(d==d'&&(e==e'&&(f==f'&&g==g')))))))),obj⟩:=by
  unfold jW
  rw[show Op.maxDepth=9998+2 from rfl,aa3]
  simp only[aaG,true_and]
theorem Oi{l:List Int}{n:Int}:l.contains n=true↔∃ k,∃ (h:k<l.length),l[k]=n:=by
 rw[List.contains_iff_mem]
 constructor
 ·intro h
  obtain⟨k,hk,e⟩:=List.getElem_of_mem h
  exact⟨k,hk,e⟩
 ·rintro⟨k,hk,rfl⟩
  exact List.getElem_mem hk
@[go_sem] def P15:PSpec:=p2 dL iI (fun _ _=>True) (fun l n=>.bool (l.contains n)) true
@[go_sem] def ph:Spec:=P15.toSpec
set_option maxHeartbeats 4000000 in
theorem uT:aU Tryz.prog 15 P15:=by
 refine eZ (rs:=[.tmp 4]) Tryz.func15 Tryz.ntmps15 fun l n hp hw=>?_
 simp only[iI,dL]at hw |-
 have hΓ:=@fx Tryz.prog
 have hl:l.length<=maxLen:=by have:=hw.1.1;simpa using this
 repeat refine sq ?_
 refine rs hΓ [0,1] [] ?_
 repeat refine sq ?_
 refine rs hΓ [0,1,5] [] ?_
 repeat refine sq ?_
 refine aN ?_
 repeat refine sq ?_
 refine cB (fun s:Nat=>[(5,⟨true,.v (vInt s)⟩)]) (fun s=>[]) (fun s=>s<=l.length/\∀ k (h:k<l.length),k<s->l[k]≠n) (fun s=>l.length-s) 0 ?_ ?_ ?_ ?_
 ·exact⟨Nat.zero_le _,by simp⟩
 ·rfl
 ·rfl
 rintro i ⟨hi,hR⟩
 simp only[go_sem]
 repeat refine sq ?_
 refine rs hΓ [0,1,5,9] [] ?_
 repeat refine sq ?_
 refine ay (fun hb=>?_) fun hb=>?_
 ·have ab:i<l.length:=by simpa using hb
  have au:(i:Int)<l.length:=by omega
  clear hb
  repeat refine sq ?_
  refine aE ?_
  repeat refine sq ?_
  refine aN ?_
  repeat refine sq ?_
  refine rx hΓ [0,1,5,17] [] (fun K' hK=>by simp only[go_sem,ah ab,ai,aj,au];exact fn) ?_
  repeat refine sq ?_
  refine ay (fun hb=>?_) fun hb=>?_
  ·repeat refine sq ?_
   refine rx hΓ [4] [] (fun K' hK=>by simp only[go_sem,ah ab,ai,aj,au];exact fn) ?_
   refine aA ?_
   simp only[go_sem]
   rw[Oi.2 ⟨i,ab,by simpa using hb⟩]
  ·repeat refine sq ?_
   refine aE ?_
   refine bQ ?_
   simp only[go_sem]
   refine kp [0,1,5] [] ?_
   repeat refine sq ?_
   refine aP hΓ fun K' hK=>?_
   simp only[go_sem,ah ab,ai,aj,au]
   repeat (refine⟨ob,?_⟩)
   refine hK _ ?_
   clear K' hK
   simp only[go_sem]
   refine⟨i+1,⟨ab,?_⟩,by(show l.length-(i+1)<l.length-i;omega),?_⟩
   ·intro k hk dO
    rcases Nat.lt_succ_iff_lt_or_eq.1 dO with h5 | rfl
    ·exact hR k hk h5
    ·simpa using hb
   refine bd [0,1,5] [] ?_ ?_<;>simp only[go_sem,a7 ab hl,bb]
 ·have bB:i=l.length:=by
   have :¬ (i:Int)<l.length:=by simpa using hb
   omega
  clear hb
  subst bB
  repeat refine sq ?_
  refine bT ?_
  simp only[go_sem]
  refine kp [] [] ?_
  repeat refine sq ?_
  refine rs hΓ [4] [] ?_
  refine aA ?_
  simp only[go_sem]
  rw[wh Oi (fun ⟨k,hk,e⟩=>hR k hk hk e)]
def aeC:List (Nat×Spec):=[]
attribute [go_sem] aeC
def K10:List (Nat×Spec):=[]
attribute [go_sem] K10
end
noncomputable section
theorem aU.conv{P:Program}{f:FuncId}{s s':PSpec}(h:aU P f s)(hf:s'.flat=s.flat)(hp:∀ xs,s'.pre xs->s.pre xs/\s'.fn xs=s.fn xs):aU P f s':=by
 refine⟨h.ne,h.enter,fun dm xs hx=>?_,fun m w xs args hm hx dM=>?_⟩
 ·rw[(hp xs hx).2];exact h.flat (hf▸dm) xs (hp xs hx).1
 ·rw[(hp xs dM).2];exact h.calls m w xs args hm hx (hp xs dM).1
def S132:Spec:=we Tryz.prog 29
theorem Ya:aL Tryz.prog 132 S132:=abO PN
attribute [go_sem] S132
def K11:List (Nat×Spec):=[(132,S132)]
attribute [go_sem] K11
def abE(l:Led):List (Name×O):=[([8,0],.arr 2 (l.ps.map cP)),([11,0],.arr 7 (l.rs.map encR)),([14,0],.arr 8 (l.ts.map c9)),([17,0],.arr 7 (l.ss.map encS))]
def abF(l:Led):D:=.agg [.msl [8,0] l.ps.length,.msl [11,0] l.rs.length,.msl [14,0] l.ts.length,.msl [17,0] l.ss.length]
attribute [go_sem] abE abF
theorem Kc(l:List Pap):∀ y∈l.map cP,y.cells.length=2/\y.okc=true:=by
 intro y hy;obtain⟨x,_,rfl⟩:=List.mem_map.1 hy;exact⟨rfl,rfl⟩
theorem Dz(l:List Rec):∀ y∈l.map encR,y.cells.length=7/\y.okc=true:=by
 intro y hy;obtain⟨x,_,rfl⟩:=List.mem_map.1 hy;exact⟨rfl,rfl⟩
theorem Ka(l:List Ret):∀ y∈l.map c9,y.cells.length=8/\y.okc=true:=by
 intro y hy;obtain⟨x,_,rfl⟩:=List.mem_map.1 hy;exact⟨rfl,rfl⟩
theorem Kb(l:List Sig):∀ y∈l.map encS,y.cells.length=7/\y.okc=true:=by
 intro y hy;obtain⟨x,_,rfl⟩:=List.mem_map.1 hy;exact⟨rfl,rfl⟩
theorem Ke(l:List Int):∀ y∈l.map vInt,y.cells.length=1/\y.okc=true:=by
 intro y hy;obtain⟨x,_,rfl⟩:=List.mem_map.1 hy;exact⟨rfl,rfl⟩
theorem an{p:Prop}(h:p:=by first | exact Kc _ | exact Dz _ | exact Ka _ | exact Kb _ | exact Ke _ | ((repeat' apply And.intro)<;>first | rfl | omega | (unfold maxLen;omega) | trivial | decide | exact Kc _ | exact Dz _ | exact Ka _ | exact Kb _ | exact Ke _) | exact ob):p:=h
theorem ak{p:Prop}(h:p:=by(repeat (refine⟨an,?_⟩));exact hK _ (by simp only[go_sem]) (by simp only[go_sem]<;>rfl)):p:=h
theorem fF{p:Prop}(h:p:=by(repeat (refine⟨an,?_⟩));(first | refine⟨by rfl,?_⟩ | skip);exact hK _ (by simp only[go_sem]) (by simp only[go_sem]<;>rfl)):p:=h
end
noncomputable section
def oT:En (Nat×Int):=⟨fun g=>.clo (.func g.1) [] [.ptr [vInt g.2]],fun v=>match v with | .clo (.func g) _ [.ptr [.int _ s]]=>(g,s) | _=>default⟩
def lR:En Int:=⟨fun s=>.ptr [vInt s],fun v=>match v with | .ptr [.int _ s]=>s | _=>0⟩
attribute [go_sem] oT lR
@[go_sem] def P171:PSpec:=p2 iR lR (fun _ _=>True) (fun x s=>.bool (x.so==s)) true
@[go_sem] def S171:Spec:=P171.toSpec
theorem Tq:aU Tryz.prog 171 P171:=by
 refine eZ (rs:=[.tmp 3]) Tryz.func171 Tryz.ntmps171 fun x s hp hw=>?_
 simp only[lR,iR,encR]at hw |-
 have hΓ:=@fx Tryz.prog
 repeat refine sq ?_
 refine rx hΓ [1,2] [[2,0]] (fun K' hK=>by simp only[go_sem];exact ak) ?_
 repeat refine sq ?_
 refine rx hΓ [3] [] (fun K' hK=>by simp only[go_sem];exact ak) ?_
 refine aA ?_
 simp only[go_sem]
 all_goals exact dV
@[go_sem] def P167:PSpec:=p2 iR lR (fun _ _=>True) (fun x s=>.bool (x.so==s)) true
@[go_sem] def Q4:Spec:=P167.toSpec
theorem Tt:aU Tryz.prog 167 P167:=by
 refine eZ (rs:=[.tmp 3]) Tryz.func167 Tryz.ntmps167 fun x s hp hw=>?_
 simp only[lR,iR,encR]at hw |-
 have hΓ:=@fx Tryz.prog
 repeat refine sq ?_
 refine rx hΓ [1,2] [[2,0]] (fun K' hK=>by simp only[go_sem];exact ak) ?_
 repeat refine sq ?_
 refine rx hΓ [3] [] (fun K' hK=>by simp only[go_sem];exact ak) ?_
 refine aA ?_
 simp only[go_sem]
 all_goals exact dV
@[go_sem] def P92:PSpec:=p2 iS lR (fun _ _=>True) (fun x s=>.bool (x.so==s)) true
@[go_sem] def S92:Spec:=P92.toSpec
theorem SY:aU Tryz.prog 92 P92:=by
 refine eZ (rs:=[.tmp 3]) Tryz.func92 Tryz.ntmps92 fun x s hp hw=>?_
 simp only[lR,iS,encS]at hw |-
 have hΓ:=@fx Tryz.prog
 repeat refine sq ?_
 refine rx hΓ [1,2] [[2,0]] (fun K' hK=>by simp only[go_sem];exact ak) ?_
 repeat refine sq ?_
 refine rx hΓ [3] [] (fun K' hK=>by simp only[go_sem];exact ak) ?_
 refine aA ?_
 simp only[go_sem]
 all_goals exact dV
def dJ{α:Type}(p:α->Bool)(l:List α):Int:=if l.any p then(l.findIdx p:Int)else -1
theorem sN{α:Type}{p:α->Bool}{l:List α}{i:Nat}(h:i<l.length)(hp:p l[i]=true)(hn:∀ k (hk:k<l.length),k<i->p l[k]=false):dJ p l=i:=by
 unfold dJ
 rw[if_pos (List.any_eq_true.2 ⟨_,List.getElem_mem h,hp⟩)]
 congr 1
 rw[List.findIdx_eq h]
 exact⟨hp,fun j hj=>hn j (by omega) hj⟩
theorem xv{α:Type}{p:α->Bool}{l:List α}(hn:∀ k (hk:k<l.length),p l[k]=false):dJ p l= -1:=by
 unfold dJ
 rw[if_neg]
 intro h
 obtain⟨x,hx,hp⟩:=List.any_eq_true.1 h
 obtain⟨k,hk,rfl⟩:=List.getElem_of_mem hx
 rw[hn k hk]at hp;cases hp
theorem xw{α:Type}(p:α->Bool)(l:List α):decide (dJ p l>=0)=l.any p:=by
 unfold dJ
 cases l.any p with
 |true=>simp
 |false=>simp
def K12a:List (Nat×Spec):=[(171,S171),(167,Q4)]
theorem aeB:KS K12a:=tc Tq.sound<|tc Tt.sound<|tn
attribute [go_sem] K12a
def Rp:FuncId->Option Spec:=tbl K12a
theorem aez:∀ f s,Rp f=some s->aL Tryz.prog f s:=aeB
@[go_sem] theorem aiq:Q4=S171:=rfl
@[go_sem] def P166:PSpec:=p2 (fP iR) oT (fun _ g=>g.1=171\/g.1=167) (fun l g=>vInt (dJ (fun x=>Rec.so x==g.2) l)) true
@[go_sem] def Q5:Spec:=P166.toSpec
set_option maxHeartbeats 4000000 in
theorem Tu:aU Tryz.prog 166 P166:=by
 refine eZ (rs:=[.tmp 4]) Tryz.func166 Tryz.ntmps166 fun l g hp hw=>?_
 simp only[oT,iR,fP,encR]at hw |-
 have hΓ:=aez
 have hl:l.length<=maxLen:=by have:=hw.1.1;simpa using this
 obtain⟨g,s_⟩:=g
 try simp only[oT]at hw hp |-
 have hg:Rp g=some S171:=by rcases hp with rfl | rfl<;>rfl
 have ZM:¬ g=1000000000:=by omega
 repeat refine sq ?_
 refine rx hΓ [0,1] [] (fun K' hK=>by simp only[go_sem];exact ak) ?_
 repeat refine sq ?_
 refine rx hΓ [0,1,7,8] [] (fun K' hK=>by simp only[go_sem];exact ak) ?_
 repeat refine sq ?_
 refine aN ?_
 repeat refine sq ?_
 refine cB (fun s:Nat=>[(8,⟨true,.v (vInt s)⟩)]) (fun s=>[]) (fun s=>s<=l.length/\∀ k (h:k<l.length),k<s->(fun x:Rec=>Rec.so x==s_) l[k]=false) (fun s=>l.length-s) 0 ?_ ?_ ?_ ?_
 ·exact⟨Nat.zero_le _,by simp⟩
 ·rfl
 ·rfl
 rintro i ⟨hi,hR⟩
 simp only[go_sem]
 repeat refine sq ?_
 refine rx hΓ [0,1,7,8,9] [] (fun K' hK=>by simp only[go_sem];exact ak) ?_
 repeat refine sq ?_
 refine ay (fun hb=>?_) fun hb=>?_
 ·have ab:i<l.length:=by simpa using hb
  have au:(i:Int)<l.length:=by omega
  clear hb
  repeat refine sq ?_
  refine aE ?_
  repeat refine sq ?_
  refine aN ?_
  repeat refine sq ?_
  refine rx hΓ [0,1,5,7,8] [] (fun K' hK=>by simp only[go_sem,ah ab,ai,aj,au];exact ak) ?_
  repeat refine sq ?_
  refine rx hΓ [0,1,5,7,8,16] [] (fun K' hK=>by simp only[go_sem,ah ab,ai,aj,au,hg,ZM];exact ak) ?_
  repeat refine sq ?_
  refine ay (fun hb=>?_) fun hb=>?_
  ·repeat refine sq ?_
   refine rx hΓ [4] [] (fun K' hK=>by simp only[go_sem,ah ab,ai,aj,au];exact ak) ?_
   refine aA ?_
   simp only[go_sem]
   rw[sN (p:=fun x=>Rec.so x==s_) ab (by simpa using hb) hR]
  ·repeat refine sq ?_
   refine aE ?_
   refine bQ ?_
   simp only[go_sem]
   refine kp [0,1,7,8] [] ?_
   repeat refine sq ?_
   refine aP hΓ fun K' hK=>?_
   simp only[go_sem,ah ab,ai,aj,au]
   repeat (refine⟨an,?_⟩)
   refine hK _ ?_
   clear K' hK
   simp only[go_sem]
   refine⟨i+1,⟨ab,?_⟩,by(show l.length-(i+1)<l.length-i;omega),?_⟩
   ·intro k hk dO
    rcases Nat.lt_succ_iff_lt_or_eq.1 dO with h5 | rfl
    ·exact hR k hk h5
    ·simpa using hb
   refine bd [0,1,7,8] [] ?_ ?_<;>simp only[go_sem,a7 ab hl,bb]
 ·have bB:i=l.length:=by
   have :¬ (i:Int)<l.length:=by simpa using hb
   omega
  clear hb
  subst bB
  repeat refine sq ?_
  refine bT ?_
  simp only[go_sem]
  refine kp [] [] ?_
  repeat refine sq ?_
  refine rx hΓ [4] [] (fun K' hK=>by simp only[go_sem];exact ak) ?_
  refine aA ?_
  simp only[go_sem]
  rw[xv (p:=fun x=>Rec.so x==s_) fun k hk=>hR k hk hk]
@[go_sem] def adv:PSpec:=p2 (fP iS) oT (fun _ g=>g.1=175) (fun l g=>vInt (dJ (fun x=>Sig.so x==g.2) l)) true
@[go_sem] def adb:Spec:=adv.toSpec
def aeA:List (Nat×Spec):=[(166,Q5),(181,adb)]
attribute [go_sem] aeA
def K12:List (Nat×Spec):=[]
attribute [go_sem] K12
end
noncomputable section
attribute [go_sem] Yq
def K13:List (Nat×Spec):=[(37,Ch),(67,QX),(79,yW)]
attribute [go_sem] K13
end
noncomputable section
def K14:List (Nat×Spec):=[(15,ph)]
attribute [go_sem] K14
end
structure Vw where
 l:Led
 rs:List Rec
 ts:List Int
 bk:List ((Int×Int)×Int)
 ds:List (Int×(Int×Int))
 deriving Inhabited
def bS(b:List ((Int×Int)×Int)):List (V×V):=b.map fun q=>(.agg [vInt q.1.1,vInt q.1.2],vInt q.2)
def Pu:V->Int×Int
 | .agg [.int _ a,.int _ b]=>(a,b)
 |_=>(0,0)
def Bz(es:List (V×V)):List ((Int×Int)×Int):=es.map fun q=>(Pu q.1,kD q.2)
def bG(d:List (Int×(Int×Int))):List (V×V):=d.map fun q=>(vInt q.1,.agg [vInt q.2.1,vInt q.2.2])
def GQ(es:List (V×V)):List (Int×(Int×Int)):=es.map fun q=>(kD q.1,Pu q.2)
@[go_sem] theorem GR(b:List ((Int×Int)×Int)):Bz (bS b)=b:=by
  unfold Bz bS
  rw[List.map_map]
  exact List.map_id _
@[go_sem] theorem GP(b:List (Int×(Int×Int))):GQ (bG b)=b:=by
  unfold GQ bG
  rw[List.map_map]
  exact List.map_id _
def bt(x:Vw)(nb nd:Name):O:=.box [.v (gk x.l),.v (.sl (x.rs.map encR)),.v (.sl (x.ts.map vInt)),.map nb,.map nd]
def vX(lp:V)(rs ts:List V)(eb ed:List (V×V)):Vw:=⟨Bx lp,rs.map lq,ts.map kD,Bz eb,GQ ed⟩
theorem abd(x:Vw):vX (gk x.l) (x.rs.map encR) (x.ts.map vInt) (bS x.bk) (bG x.ds)=x:=by
 obtain⟨⟨p,r,t,s⟩,rs,ts,bk,ds⟩:=x
 simp only[vX,gk,Bx,Po,Bv,Pm,vY,o7,GR,GP]
def jq(obj:Name->Option O)(nv:Name):Option (Name×Name×Vw):=match obj nv with
 |some (.box [.v lp,.v (.sl rs),.v (.sl ts),.map nb,.map nd])=>match obj nb,obj nd with
  |some (.map 2 eb),some (.map 0 ed)=>some (nb,nd,vX lp rs ts eb ed)
  |_,_=>none
 |_=>none
def oO(obj:Name->Option O)(nv nb nd:Name)(x:Vw):Prop:=
 obj nv=some (bt x nb nd)/\obj nb=some (.map 2 (bS x.bk))/\obj nd=some (.map 0 (bG x.ds))/\(nv==nb)=false/\(nv==nd)=false/\(nb==nd)=false
structure VSpec where
 pre:Vw->List V->Prop
 val:Vw->List V->D
 wr:Option (Vw->List V->List (Int×(Int×Int)))
def VSpec.app(s:VSpec)(obj:Name->Option O)(t:Name)(ds:List D):R:=match ds with
 | .ref nv 0::r=>match jq obj nv,mf r with
   |some (nb,nd,x),some xs=>⟨oO obj nv nb nd x/\s.pre x xs,(s.val x xs).ren (cout [nv,nb,nd] t),match s.wr with | none=>obj | some f=>upd obj nd (some (.map 0 (bG (f x xs))))⟩
   |_,_=>.bad obj
 |_=>.bad obj
def VSpec.foot(_:VSpec)(obj:Name->Option O)(_:Name)(ds:List D):List Name:=match ds with
 | .ref nv _::_=>nv::(match obj nv with | some (.box [_,_,_,.map nb,.map nd])=>[nb,nd] | _=>[])
 |_=>[]
def VSpec.toSpec(s:VSpec):Spec:=⟨s.app,s.foot,s.foot⟩
theorem VSpec.near(s:VSpec):s.toSpec.Near:=by
 refine xe fun obj obj2 t ds ha=>?_
 match ds with
 | .ref nv off::r=>
   have h1:obj2 nv=obj nv:=ha nv (by simp[VSpec.foot])
   refine⟨by simp only[VSpec.foot,h1],?_⟩
   cases off with
   |succ k=>exact .none _ ha
   |zero=>
    have hJ:b8 (R.bad obj) (R.bad obj2) obj obj2 (s.foot obj t (.ref nv 0::r)):=.none _ ha
    by_cases hg:∃ a b c nb nd,obj nv=some (.box [a,b,c,.map nb,.map nd])
    ·obtain⟨a,b,c,nb,nd,hb⟩:=hg
     have mT:obj2 nb=obj nb:=ha nb (by simp[VSpec.foot,hb])
     have om:obj2 nd=obj nd:=ha nd (by simp[VSpec.foot,hb])
     have ZN:jq obj2 nv=jq obj nv:=by
      unfold jq
      rw[h1,hb]
      split<;>first | rfl | (rename_i e;cases e;rw[mT,om])
     have bZ:∀ vh vg x,jq obj nv=some (vh,vg,x)->vh=nb/\vg=nd:=by
      intro vh vg x h
      unfold jq at h
      rw[hb]at h
      split at h
      ·rename_i e
       cases e
       split at h
       ·cases h;exact⟨rfl,rfl⟩
       ·cases h
      ·cases h
     show b8 (s.app obj t (.ref nv 0::r)) (s.app obj2 t (.ref nv 0::r)) obj obj2 _
     unfold VSpec.app
     simp only[ZN]
     split
     ·rename_i vh vg x xs hx Aw
      obtain⟨rfl,rfl⟩:=bZ _ _ _ hx
      have aa:oO obj2 nv vh vg x=oO obj nv vh vg x:=by unfold oO;rw[h1,mT,om]
      rw[aa]
      cases s.wr with
      |none=>exact .none _ ha
      |some f=>exact .one (by simp[VSpec.foot,hb]) ha
     ·exact hJ
    ·have e1:jq obj nv=none:=by
       unfold jq
       split
       ·rename_i h;exact(hg ⟨_,_,_,_,_,h⟩).elim
       ·rfl
     have e2:jq obj2 nv=none:=by
      unfold jq
      rw[h1]
      split
      ·rename_i h;exact(hg ⟨_,_,_,_,_,h⟩).elim
      ·rfl
     show b8 (s.app obj t (.ref nv 0::r)) (s.app obj2 t (.ref nv 0::r)) obj obj2 _
     unfold VSpec.app
     simp only[e1,e2]
     exact hJ
 |[]=>exact⟨rfl,.none _ ha⟩
 | .v _::_=>exact⟨rfl,.none _ ha⟩
 | .nilsl::_=>exact⟨rfl,.none _ ha⟩
 | .nilmap::_=>exact⟨rfl,.none _ ha⟩
 | .msl _ _::_=>exact⟨rfl,.none _ ha⟩
 | .aref _ _ _ _::_=>exact⟨rfl,.none _ ha⟩
 | .map _::_=>exact⟨rfl,.none _ ha⟩
 | .yld _::_=>exact⟨rfl,.none _ ha⟩
 | .clo _ _ _::_=>exact⟨rfl,.none _ ha⟩
 | .agg _::_=>exact⟨rfl,.none _ ha⟩
 | .tup _::_=>exact⟨rfl,.none _ ha⟩
 | .any::_=>exact⟨rfl,.none _ ha⟩
def VSpec.c(s:VSpec):CSpec where
 pre:=fun os ds=>∃ (x:Vw) (xs:List V),os=[bt x [1,1] [2,1],.map 2 (bS x.bk),.map 0 (bG x.ds)]/\ds=.ref [0,1] 0::xs.map .v/\s.pre x xs
 out:=fun os ds=>match os,ds with
  |[.box [.v lp,.v (.sl rs),.v (.sl ts),_,_],.map _ eb,.map _ ed],_::r=>match mf r with
   |some xs=>⟨match s.wr with | none=>[] | some f=>[(2,.map 0 (bG (f (vX lp rs ts eb ed) xs)))],[],s.val (vX lp rs ts eb ed) xs⟩
   |none=>⟨[],[],.any⟩
  |_,_=>⟨[],[],.any⟩
theorem VSpec.c_out(s:VSpec)(x:Vw)(xs:List V):s.c.out [bt x [1,1] [2,1],.map 2 (bS x.bk),.map 0 (bG x.ds)] (.ref [0,1] 0::xs.map .v)=
 ⟨match s.wr with | none=>[] | some f=>[(2,.map 0 (bG (f x xs)))],[],s.val x xs⟩:=by
 simp only[VSpec.c,bt,B',abd]
theorem Ju{obj:Name->Option O}{nv nb nd:Name}{x:Vw}(h:oO obj nv nb nd x)(xs:List V):reach obj (.ref nv 0::xs.map .v)=[nv,nb,nd]:=by
 obtain⟨h1,h2,h3,h4,h5,h6⟩:=h
 unfold reach
 have e:cw (.ref nv 0::xs.map .v)=[nv]:=by simp only[cw,ki,DP,List.append_nil]
 rw[e]
 show dk obj (2996+1+1+1+1) [nv] []=[nv,nb,nd]
 simp only[dk,cJ,List.any_nil,Bool.false_eq_true,if_false,h1,bt,kQ,cw,ki,List.nil_append,List.append_nil,List.any_cons,h4,h5,h6,Bool.or_false,h2,h3,List.cons_append]
theorem VSpec.sound{P:Program}{f:FuncId}{s:VSpec}(h:aL P f s.c.toSpec)(aF:f≠yid):aL P f s.toSpec:=by
 refine wI h s.near aF fun obj t ds aa=>?_
 have fA:(s.app obj t ds).ok:=aa
 show ∃ mZ,_/\_/\_/\_=(s.app obj t ds).d/\_=(s.app obj t ds).obj
 unfold VSpec.app at fA |-
 split at fA
 ·rename_i nv r
  split at fA
  ·rename_i nb nd x xs yb Aw
   obtain⟨hv,hp⟩:=fA
   have hlen:=Ht Aw
   have sT:=hv
   obtain⟨h1,h2,h3,h4,h5,h6⟩:=sT
   have n4:nv≠nb:=by simpa using h4
   have n5:nv≠nd:=by simpa using h5
   have n6:nb≠nd:=by simpa using h6
   have hr:=Ju hv xs
   have i0:idx [nv,nb,nd] nv=0:=by simp[idx]
   have i1:idx [nv,nb,nd] nb=1:=by simp[idx,n4]
   have i2:idx [nv,nb,nd] nd=2:=by simp[idx,n5,n6]
   have e1:cF obj (.ref nv 0::xs.map .v)=[bt x [1,1] [2,1],.map 2 (bS x.bk),.map 0 (bG x.ds)]:=by
    unfold cF
    rw[hr]
    simp only[List.map_cons,List.map_nil,cE,h1,h2,h3,bt,O.ren,D.renL,D.ren,cin,i1,i2]
   have e2:db obj (.ref nv 0::xs.map .v)=.ref [0,1] 0::xs.map .v:=by
    unfold db
    rw[hr]
    simp only[D.renL,D.ren,cin,i0,Da]
   have e5:(shut obj [nv,nb,nd]&&D.closL (cJ [nv,nb,nd]) (.ref nv 0::xs.map .v)&&fresh obj t [])=true:=by
    simp[shut,h1,h2,h3,bt,O.clos,D.closL,D.clos,cJ,fresh,G8]
   refine⟨.ref nv 0::xs.map .v,by simpa using hlen,fun φ m us hl rp i a b=>?_,?_⟩
   ·cases i with
    |zero=>exact rp 0 (by simp) b
    |succ i=>
     simp only[List.length_cons,List.length_map]at a
     simp only[List.getElem_cons_succ,List.getElem_map]
     exact .v _ _ (Hs Aw i (by omega) (by omega) _ (by have:=rp (i+1) (by simp;omega) b;simpa using this))
   ·have e4:s.c.pre [bt x [1,1] [2,1],.map 2 (bS x.bk),.map 0 (bG x.ds)] (.ref [0,1] 0::xs.map .v):=⟨x,xs,rfl,rfl,hp⟩
    simp only[CSpec.toSpec,e1,e2,hr,s.c_out,e4,e5,yb,Aw,and_self,dv]
    refine⟨trivial,trivial,?_⟩
    cases s.wr with
    |none=>rfl
    |some f=>simp only[cH,O.ren,List.getD_cons_zero,List.getD_cons_succ]
  ·exact fA.elim
 ·exact fA.elim
def wS(P:Program)(rs:List ResultVar)(x:Vw)(d:D)(w:Option (List (Int×(Int×Int)))):Exit->S->Prop
 | .normal,σ=>(bX P σ rs).ok/\(bX P σ rs).d=d/\σ.obj [0,1]=some (bt x [1,1] [2,1])/\σ.obj [1,1]=some (.map 2 (bS x.bk))/\σ.obj [2,1]=some (.map 0 (bG (w.getD x.ds)))
 | .ret,σ=>(bX P σ rs).ok/\(bX P σ rs).d=d/\σ.obj [0,1]=some (bt x [1,1] [2,1])/\σ.obj [1,1]=some (.map 2 (bS x.bk))/\σ.obj [2,1]=some (.map 0 (bG (w.getD x.ds)))
 |_,_=>False
theorem Cz{P:Program}{f:FuncId}{fn:Func}{nt:Nat}{rs:List ResultVar}{s:VSpec}(hf:P.funcs[f]?=some fn)(cN:fn.ntmps=nt)(bP:fn.results.toList=rs)(hn:(fn.name== "runtime.NumGoroutine")=false)(hy:f<1000000000)(cl:∀ x xs,s.pre x xs->D.clos (fun _=>false) (s.val x xs)=true)
 (hb:∃ c,fn.body=some c/\∀ x xs,s.pre x xs->xs.length+1<=nt/\∀ H:Name->Option O,H [0,1]=some (bt x [1,1] [2,1])->H [1,1]=some (.map 2 (bS x.bk))->H [2,1]=some (.map 0 (bG x.ds))->
   (∀ hs,ck [0] (bY [0] hs) H=True)->(∀ hs es,ck [0] (bY [0] hs) (fun nm=>if nm=[2,1]then some (.map 0 es)else H nm)=True)->
   CL P [c] (bg nt [0] H (dj 0 (.ref [0,1] 0::xs.map .v)) []) (wS P rs x (s.val x xs) (s.wr.map fun f=>f x xs))):aL P f s.toSpec:=by
 obtain⟨c,hc,h⟩:=hb
 have aF:f≠yid:=Nat.ne_of_lt (show f<yid from hy)
 refine VSpec.sound (oy hf hc cN bP (iX hf hc hn) aF ?_) aF
 rintro os ds ⟨x,xs,rfl,rfl,hp⟩
 obtain⟨h1,h2⟩:=h x xs hp
 refine⟨by simpa using h1,?_⟩
 have hO:∀ hs,ck [0] (bY [0] hs) (aR [bt x [1,1] [2,1],.map 2 (bS x.bk),.map 0 (bG x.ds)]):=fun hs=>nP (by
  intro o ho dom hd
  simp only[List.mem_cons,List.not_mem_nil,or_false]at ho
  rcases ho with rfl | rfl | rfl
  ·simp[bt,O.clos,D.closL,D.clos,hd]
  ·rfl
  ·rfl) hs
 have :=h2 (aR [bt x [1,1] [2,1],.map 2 (bS x.bk),.map 0 (bG x.ds)]) rfl rfl rfl (fun hs=>eq_true (hO hs)) (fun hs es=>eq_true (uv (nm:=[2,1]) (o:=.map 0 es) rfl (hO hs)))
 refine CW.mono (iG this) fun e σ hk=>?_
 rw[s.c_out]
 have key:(bX P σ rs).ok/\(bX P σ rs).d=s.val x xs/\σ.obj [0,1]=some (bt x [1,1] [2,1])/\σ.obj [1,1]=some (.map 2 (bS x.bk))/\σ.obj [2,1]=some (.map 0 (bG ((s.wr.map fun f=>f x xs).getD x.ds)))->
     (bX P σ rs).ok/\(bX P σ rs).d=s.val x xs/\gQ [bt x [1,1] [2,1],.map 2 (bS x.bk),.map 0 (bG x.ds)] ⟨match s.wr with | none=>[] | some f=>[(2,.map 0 (bG (f x xs)))],[],s.val x xs⟩ σ:=by
  rintro⟨k1,k2,k3,k4,k5⟩
  refine⟨k1,k2,?_⟩
  have hd:=clos_imp (dom:=fun _=>false) (dom':=dp 3 []) (fun _ h=>by cases h) _ (cl x xs hp)
  cases hw:s.wr with
  |none=>
   rw[hw]at k5
   refine⟨⟨k3,k4,k5,trivial⟩,trivial,?_⟩
   show (D.clos (dp 3 []) (s.val x xs)&&_&&_&&_)=true
   rw[hd];rfl
  |some f=>
   rw[hw]at k5
   refine⟨⟨k3,k4,k5,trivial⟩,trivial,?_⟩
   show (D.clos (dp 3 []) (s.val x xs)&&_&&_&&_)=true
   rw[hd];rfl
 cases e with
 |normal=>exact key hk
 |ret=>exact key hk
 |_=>exact hk.elim
def v0(p:Vw->Prop)(g:Vw->D)(w:Option (Vw->List (Int×(Int×Int)))):VSpec:=
 ⟨fun x xs=>match xs with | []=>p x | _=>False,fun x xs=>match xs with | []=>g x | _=>.any,w.map fun w x xs=>match xs with | []=>w x | _=>[]⟩
theorem H8{p:Vw->Prop}{g:Vw->D}{w:Option (Vw->List (Int×(Int×Int)))}{x:Vw}{xs:List V}(h:(v0 p g w).pre x xs):
 xs=[]/\p x/\(v0 p g w).val x xs=g x/\((v0 p g w).wr.map fun f=>f x xs)=w.map fun w=>w x:=by
 unfold v0 at h
 simp only at h
 split at h
 ·exact⟨rfl,h,rfl,by cases w<;>rfl⟩
 ·exact h.elim
def v1{α:Type}(A:En α)(p:Vw->α->Prop)(g:Vw->α->D)(w:Option (Vw->α->List (Int×(Int×Int)))):VSpec:=
 ⟨fun x xs=>match xs with | [a]=>A.enc (A.dec a)=a/\p x (A.dec a) | _=>False,fun x xs=>match xs with | [a]=>g x (A.dec a) | _=>.any,w.map fun w x xs=>match xs with | [a]=>w x (A.dec a) | _=>[]⟩
theorem H7{α:Type}{A:En α}{p:Vw->α->Prop}{g:Vw->α->D}{w:Option (Vw->α->List (Int×(Int×Int)))}{x:Vw}{xs:List V}(h:(v1 A p g w).pre x xs):
 ∃ a,xs=[A.enc a]/\p x a/\(v1 A p g w).val x xs=g x a/\((v1 A p g w).wr.map fun f=>f x xs)=w.map fun w=>w x a:=by
 unfold v1 at h
 simp only at h
 split at h
 ·exact⟨_,by rw[h.1],h.2,rfl,by cases w<;>rfl⟩
 ·exact h.elim
def v2{α β:Type}(A:En α)(B:En β)(p:Vw->α->β->Prop)(g:Vw->α->β->D)(w:Option (Vw->α->β->List (Int×(Int×Int)))):VSpec:=
 ⟨fun x xs=>match xs with | [a,b]=>A.enc (A.dec a)=a/\B.enc (B.dec b)=b/\p x (A.dec a) (B.dec b) | _=>False,fun x xs=>match xs with | [a,b]=>g x (A.dec a) (B.dec b) | _=>.any,w.map fun w x xs=>match xs with | [a,b]=>w x (A.dec a) (B.dec b) | _=>[]⟩
theorem H6{α β:Type}{A:En α}{B:En β}{p:Vw->α->β->Prop}{g:Vw->α->β->D}{w:Option (Vw->α->β->List (Int×(Int×Int)))}{x:Vw}{xs:List V}(h:(v2 A B p g w).pre x xs):
 ∃ a b,xs=[A.enc a,B.enc b]/\p x a b/\(v2 A B p g w).val x xs=g x a b/\((v2 A B p g w).wr.map fun f=>f x xs)=w.map fun w=>w x a b:=by
 unfold v2 at h
 simp only at h
 split at h
 ·exact⟨_,_,by rw[h.1,h.2.1],h.2.2,rfl,by cases w<;>rfl⟩
 ·exact h.elim
def v3{α β γ:Type}(A:En α)(B:En β)(C:En γ)(p:Vw->α->β->γ->Prop)(g:Vw->α->β->γ->D)(w:Option (Vw->α->β->γ->List (Int×(Int×Int)))):VSpec:=
 ⟨fun x xs=>match xs with | [a,b,c]=>A.enc (A.dec a)=a/\B.enc (B.dec b)=b/\C.enc (C.dec c)=c/\p x (A.dec a) (B.dec b) (C.dec c) | _=>False,fun x xs=>match xs with | [a,b,c]=>g x (A.dec a) (B.dec b) (C.dec c) | _=>.any,w.map fun w x xs=>match xs with | [a,b,c]=>w x (A.dec a) (B.dec b) (C.dec c) | _=>[]⟩
section
variable {P:Program} {f:FuncId} {fn:Func} {nt:Nat} {rs:List ResultVar}
theorem RR{p:Vw->Prop}{g:Vw->D}{w:Option (Vw->List (Int×(Int×Int)))}(hf:P.funcs[f]?=some fn)(cN:fn.ntmps=nt)(bP:fn.results.toList=rs)(hn:(fn.name== "runtime.NumGoroutine")=false)(hy:f<1000000000)(cl:∀ x,D.clos (fun _=>false) (g x )=true)
 (hb:∃ cc,fn.body=some cc/\1<=nt/\∀ x,p x->∀ H:Name->Option O,H [0,1]=some (bt x [1,1] [2,1])->H [1,1]=some (.map 2 (bS x.bk))->H [2,1]=some (.map 0 (bG x.ds))->
   (∀ hs,ck [0] (bY [0] hs) H=True)->(∀ hs es,ck [0] (bY [0] hs) (fun nm=>if nm=[2,1]then some (.map 0 es)else H nm)=True)->
   CL P [cc] (bg nt [0] H (dj 0 (.ref [0,1] 0::[].map .v)) []) (wS P rs x (g x ) (w.map fun w=>w x ))):aL P f (v0 p g w).toSpec:=by
 obtain⟨cc,hc,h1,h⟩:=hb
 refine Cz hf cN bP hn hy (fun x xs hp=>by
  obtain⟨rfl,_,hg,_⟩:=H8 hp
  rw[hg];exact cl x ) ⟨cc,hc,fun x xs hp=>?_⟩
 obtain⟨rfl,hp,hg,hw⟩:=H8 hp
 rw[hg,hw]
 exact⟨h1,h x hp⟩
theorem zg{α:Type}{A:En α}{p:Vw->α->Prop}{g:Vw->α->D}{w:Option (Vw->α->List (Int×(Int×Int)))}(hf:P.funcs[f]?=some fn)(cN:fn.ntmps=nt)(bP:fn.results.toList=rs)(hn:(fn.name== "runtime.NumGoroutine")=false)(hy:f<1000000000)(cl:∀ x a,D.clos (fun _=>false) (g x a)=true)
 (hb:∃ cc,fn.body=some cc/\2<=nt/\∀ x a,p x a->∀ H:Name->Option O,H [0,1]=some (bt x [1,1] [2,1])->H [1,1]=some (.map 2 (bS x.bk))->H [2,1]=some (.map 0 (bG x.ds))->
   (∀ hs,ck [0] (bY [0] hs) H=True)->(∀ hs es,ck [0] (bY [0] hs) (fun nm=>if nm=[2,1]then some (.map 0 es)else H nm)=True)->
   CL P [cc] (bg nt [0] H (dj 0 (.ref [0,1] 0::[A.enc a].map .v)) []) (wS P rs x (g x a) (w.map fun w=>w x a))):aL P f (v1 A p g w).toSpec:=by
 obtain⟨cc,hc,h1,h⟩:=hb
 refine Cz hf cN bP hn hy (fun x xs hp=>by
  obtain⟨a,rfl,_,hg,_⟩:=H7 hp
  rw[hg];exact cl x a) ⟨cc,hc,fun x xs hp=>?_⟩
 obtain⟨a,rfl,hp,hg,hw⟩:=H7 hp
 rw[hg,hw]
 exact⟨h1,h x a hp⟩
theorem zf{α β:Type}{A:En α}{B:En β}{p:Vw->α->β->Prop}{g:Vw->α->β->D}{w:Option (Vw->α->β->List (Int×(Int×Int)))}(hf:P.funcs[f]?=some fn)(cN:fn.ntmps=nt)(bP:fn.results.toList=rs)(hn:(fn.name== "runtime.NumGoroutine")=false)(hy:f<1000000000)(cl:∀ x a b,D.clos (fun _=>false) (g x a b)=true)
 (hb:∃ cc,fn.body=some cc/\3<=nt/\∀ x a b,p x a b->∀ H:Name->Option O,H [0,1]=some (bt x [1,1] [2,1])->H [1,1]=some (.map 2 (bS x.bk))->H [2,1]=some (.map 0 (bG x.ds))->
   (∀ hs,ck [0] (bY [0] hs) H=True)->(∀ hs es,ck [0] (bY [0] hs) (fun nm=>if nm=[2,1]then some (.map 0 es)else H nm)=True)->
   CL P [cc] (bg nt [0] H (dj 0 (.ref [0,1] 0::[A.enc a,B.enc b].map .v)) []) (wS P rs x (g x a b) (w.map fun w=>w x a b))):aL P f (v2 A B p g w).toSpec:=by
 obtain⟨cc,hc,h1,h⟩:=hb
 refine Cz hf cN bP hn hy (fun x xs hp=>by
  obtain⟨a,b,rfl,_,hg,_⟩:=H6 hp
  rw[hg];exact cl x a b) ⟨cc,hc,fun x xs hp=>?_⟩
 obtain⟨a,b,rfl,hp,hg,hw⟩:=H6 hp
 rw[hg,hw]
 exact⟨h1,h x a b hp⟩
end
attribute [go_sem] v0 v1 v2 v3 wS Option.map_some Option.map_none Option.getD_some Option.getD_none
attribute [go_sem] VSpec.toSpec VSpec.app jq oO bt vX
noncomputable section
def K16:List (Nat×Spec):=[(166,Q5)]
theorem Rm:KS K16:=tc Tu.sound<|tn
attribute [go_sem] K16
def zeroR:Rec:=⟨0,0,0,[],0,0,0⟩
def gW(r:Rec):D:=.agg [.v (vInt r.so),.v (vInt r.bo),.v (vInt r.pa),.v (.sl (r.lv.map vInt)),.v (vInt r.da),.v (vInt r.kn),.v (vInt r.un)]
attribute [go_sem] gW
def nJ:Option Rec->D
 |some r=>gW r
 |none=>.agg [.v (vInt 0),.v (vInt 0),.v (vInt 0),.nilsl,.v (vInt 0),.v (vInt 0),.v (vInt 0)]
theorem mz(r:Option Rec)(p:Name->Bool):D.clos p (nJ r)=true:=by cases r<;>rfl
def cW(l:List Rec)(s:Int):Option Rec:=l.find? fun r=>r.so==s
theorem Jz{l:List Rec}{s:Int}(h:dJ (fun x=>x.so==s) l<0):cW l s=none:=by
 unfold cW
 rw[List.find?_eq_none]
 intro x hx hp
 unfold dJ at h
 rw[if_pos (List.any_eq_true.2 ⟨x,hx,hp⟩)]at h
 omega
theorem Jy{l:List Rec}{s:Int}(h:¬ dJ (fun x=>x.so==s) l<0):∃ (i:Nat) (hi:i<l.length),dJ (fun x=>x.so==s) l=i/\cW l s=some l[i]:=by
 unfold dJ at h |-
 split at h
 ·rename_i jo
  have ab:l.findIdx (fun x=>x.so==s)<l.length:=List.findIdx_lt_length_of_exists (by obtain⟨x,hx,hp⟩:=List.any_eq_true.1 jo;exact⟨x,hx,hp⟩)
  rw[if_pos jo]
  refine⟨_,ab,rfl,?_⟩
  unfold cW
  rw[List.find?_eq_some_iff_getElem]
  exact⟨List.findIdx_getElem (w:=ab),_,ab,rfl,fun j hj=>by simpa using List.not_of_lt_findIdx hj⟩
 ·omega
def QN:VSpec:=v1 iI (fun _ _=>True) (fun x s=>.tup [nJ (cW x.rs s),.v (.bool (cW x.rs s).isSome)]) none
def S77:Spec:=QN.toSpec
attribute [go_sem] QN S77
set_option maxHeartbeats 4000000 in
theorem MW:aL Tryz.prog 77 S77:=by
 refine zg (rs:=[.cell 4 36,.tmp 5]) Tryz.func77 Tryz.ntmps77 (by rfl) (by kernel_rfl) (by decide) (fun _ _=>by first | rfl | exact mz _ _ | simp[D.clos,D.closL,mz]) ⟨_,rfl,lb rfl,fun x s hp H h0 h1 h2 hO ae=>?_⟩
 simp only[iI,bt,dj,List.map_cons,List.map_nil,Nat.zero_add,Option.map_some,Option.map_none]at h0 |-
 have hΓ:=Rm
 repeat refine sq ?_
 refine rx hΓ [0,3,4] [[3,0],[4,0]] (fun K' hK=>by simp only[go_sem,hO,ae,h0,h1,h2];(repeat (refine⟨an,?_⟩));exact hK _ (by simp only[go_sem,hO,ae,h0,h1,h2]) (by simp only[go_sem,hO,ae,h0,h1,h2]<;>rfl)) ?_
 repeat refine sq ?_
 refine rx hΓ [0,4,6] [[4,0]] (fun K' hK=>by simp only[go_sem,hO,ae,h0,h1,h2,true_or,or_true];(repeat (refine⟨an,?_⟩));exact hK _ (by simp only[go_sem,hO,ae,h0,h1,h2,true_or,or_true]) (by simp only[go_sem,hO,ae,h0,h1,h2,true_or,or_true]<;>rfl)) ?_
 repeat refine sq ?_
 refine rx hΓ [0,4,6,14] [[4,0]] (fun K' hK=>by simp only[go_sem,hO,ae,h0,h1,h2];(repeat (refine⟨an,?_⟩));exact hK _ (by simp only[go_sem,hO,ae,h0,h1,h2]) (by simp only[go_sem,hO,ae,h0,h1,h2]<;>rfl)) ?_
 repeat refine sq ?_
 refine ay (fun hb=>?_) fun hb=>?_
 ·repeat refine sq ?_
  have e:cW x.rs s=none:=Jz (by simpa using hb)
  repeat refine sq ?_
  refine rx hΓ [4,5] [[4,0]] (fun K' hK=>by simp only[go_sem,hO,ae,h0,h1,h2];(repeat (refine⟨an,?_⟩));exact hK _ (by simp only[go_sem,hO,ae,h0,h1,h2]) (by simp only[go_sem,hO,ae,h0,h1,h2]<;>rfl)) ?_
  refine aA ?_
  simp only[go_sem,hO,ae,h0,h1,h2]
  rw[e];rfl
 ·repeat refine sq ?_
  obtain⟨i,hi,e1,e⟩:=Jy (by simpa using hb)
  have bK:(i:Int)<x.rs.length:=by omega
  rw[e1]
  refine aE ?_
  repeat refine sq ?_
  refine rx hΓ [4,5] [[4,0]] (fun K' hK=>by simp only[go_sem,hO,ae,h0,h1,h2,ah hi,ai,aj,bK];(repeat (refine⟨an,?_⟩));exact hK _ (by simp only[go_sem,hO,ae,h0,h1,h2,ah hi,ai,aj,bK]) (by simp only[go_sem,hO,ae,h0,h1,h2,ah hi,ai,aj,bK]<;>rfl)) ?_
  refine aA ?_
  simp only[go_sem,hO,ae,h0,h1,h2]
  rw[e];rfl
end
noncomputable section
structure Rg where
 (lo hi:Int)
 deriving Inhabited,DecidableEq
def tP(r:Rg):V:=.agg [vInt r.lo,vInt r.hi]
def vZ:V->Rg
 | .agg [.int _ a,.int _ b]=>⟨a,b⟩
 |_=>default
def EB:En Rg:=⟨tP,vZ⟩
attribute [go_sem] tP vZ EB
@[go_sem] theorem ah9(p:Rg):(⟨p.lo,p.hi⟩:Rg)=p:=rfl
def aW:List (Int×(Int×Int))->Int->Int×Int
 |[],_=>(0,0)
 |(k,d)::r,i=>if k=i then d else aW r i
def ox:List (Int×(Int×Int))->Int->Int×Int->List (Int×(Int×Int))
 |[],i,d=>[(i,d)]
 |(k,e)::r,i,d=>if k=i then(i,d)::r else(k,e)::ox r i d
theorem fY(d:List (Int×(Int×Int)))(i:Int):(fk (bG d) (vInt i)).getD (.agg [vInt 0,vInt 0])=.agg [vInt (aW d i).1,vInt (aW d i).2]:=by
 induction d with
 |nil=>rfl
 |cons q r ih=>
  obtain⟨k,e⟩:=q
  show (if fO (vInt k) (vInt i)=true then some (V.agg [vInt e.1,vInt e.2])else fk (bG r) (vInt i)).getD _=_
  by_cases h:k=i
  ·subst h;simp[fO,aW]
  ·have h':(k==i)=false:=by simpa using h
   simp only[fO,h',Bool.false_eq_true,if_false,aW,h]
   exact ih
theorem Kw(d:List (Int×(Int×Int)))(i a b:Int):eo (bG d) (vInt i) (.agg [vInt a,vInt b])=bG (ox d i (a,b)):=by
 induction d with
 |nil=>rfl
 |cons q r ih=>
  obtain⟨k,e⟩:=q
  show (if fO (vInt k) (vInt i)=true then(vInt i,V.agg [vInt a,vInt b])::bG r else(vInt k,V.agg [vInt e.1,vInt e.2])::eo (bG r) (vInt i) (.agg [vInt a,vInt b]))=_
  by_cases h:k=i
  ·subst h;simp[fO,ox,bG]
  ·have h':(k==i)=false:=by simpa using h
   simp only[fO,h',Bool.false_eq_true,if_false,ox,h,ih]
   rfl
def bJ(a b:Int):Int:=if b>a then b else a
def dw(a b:Int):Int:=if b<a then b else a
def DO(x:Vw)(i:Int)(r:Rg):List (Int×(Int×Int)):=ox x.ds i (bJ (aW x.ds i).1 r.lo,dw (aW x.ds i).2 r.hi)
def QP:VSpec:=v2 iI EB (fun _ _ _=>True) (fun _ _ _=>.tup []) (some DO)
def S165:Spec:=QP.toSpec
attribute [go_sem] QP S165
set_option maxHeartbeats 4000000 in
theorem Er:aL Tryz.prog 165 S165:=by
 refine zf (rs:=[]) Tryz.func165 Tryz.ntmps165 (by rfl) (by kernel_rfl) (by decide) (fun _ _ _=>by first | rfl | simp[D.clos,D.closL,mz]) ⟨_,rfl,lb rfl,fun x i r hp H h0 h1 h2 hO ae=>?_⟩
 have hP:=eK
 simp only[iI,EB,tP,bt,dj,List.map_cons,List.map_nil,Nat.zero_add,Option.map_some,Option.map_none]at h0 |-
 have hΓ:=@fx Tryz.prog
 repeat refine sq ?_
 refine rx hΓ [0,1,5] [[5,0]] (fun K' hK=>by simp only[go_sem,hO,ae,h0,h1,h2];(repeat (refine⟨an,?_⟩));exact hK _ (by simp only[go_sem,hO,ae,h0,h1,h2]) (by simp only[go_sem,hO,ae,h0,h1,h2]<;>rfl)) ?_
 repeat refine sq ?_
 refine rx hΓ [0,1,5,6] [[5,0],[6,0]] (fun K' hK=>by simp only[go_sem,hO,ae,h0,h1,h2,fY];(repeat (refine⟨an,?_⟩));exact hK _ (by simp only[go_sem,hO,ae,h0,h1,h2,fY]) (by simp only[go_sem,hO,ae,h0,h1,h2,fY]<;>rfl)) ?_
 repeat refine sq ?_
 refine qq hΓ hP [[],[0],[0,1],[0,1,2],[],[],[5],[],[7],[5,6,7,8],[],[10],[],[12],[10,11,12,13],[5,6,7,8,9,10,11,12,13,14],u16] (by kernel_rfl) fun K' hK=>?_
 simp only[go_sem,hO,ae,h0,h1,h2,Kw]
 repeat (refine⟨an,?_⟩)
 first | refine⟨by rfl,?_⟩ | skip
 refine hK _ ?_
 clear K' hK
 simp only[go_sem]
 exact⟨h0,h1,rfl⟩
end
def bn(l:Led)(k:Int):List Rec:=l.rs.filter fun r=>bI r.kn r.un k
def fK(l:Led)(k:Int):List Sig:=l.ss.filter fun s=>bI s.kn s.un k
def gx(pa:Int)(lv:List Int)(r:Rec):Bool:=r.pa==pa&&r.lv.any fun n=>lv.contains n
def dA(rs:List Rec)(pa:Int)(lv:List Int):List Rec:=rs.filter (gx pa lv)
abbrev Bk:=List ((Int×Int)×Int)
abbrev Ds:=List (Int×(Int×Int))
def bu:Bk->Int×Int->Option Int
 |[],_=>none
 |(k,i)::r,q=>if k=q then some i else bu r q
def rY:Bk->Int×Int->Int->Bk
 |[],q,i=>[(q,i)]
 |(k,e)::r,q,i=>if k=q then(q,i)::r else(k,e)::rY r q i
theorem Lr(a b c d:Int):fO (.agg [vInt a,vInt b]) (.agg [vInt c,vInt d])=decide ((a,b)=(c,d)):=by
 show (a==c&&b==d)=_
 by_cases h1:a=c<;>by_cases h2:b=d<;>simp[h1,h2]
theorem ax(b:Bk)(p f:Int):fk (bS b) (.agg [vInt p,vInt f])=(bu b (p,f)).map vInt:=by
 induction b with
 |nil=>rfl
 |cons q r ih=>
  obtain⟨⟨k1,k2⟩,i⟩:=q
  show (if fO (.agg [vInt k1,vInt k2]) (.agg [vInt p,vInt f])=true then some (vInt i)else fk (bS r) (.agg [vInt p,vInt f]))=_
  rw[ih,Lr]
  simp only[bu]
  by_cases h:(k1,k2)=(p,f)
  ·rw[if_pos h,if_pos (by simpa using h)];rfl
  ·rw[if_neg h,if_neg (by simpa using h)]
theorem VH(b:Bk)(p f i:Int):eo (bS b) (.agg [vInt p,vInt f]) (vInt i)=bS (rY b (p,f) i):=by
 induction b with
 |nil=>rfl
 |cons q r ih=>
  obtain⟨⟨k1,k2⟩,e⟩:=q
  show (if fO (.agg [vInt k1,vInt k2]) (.agg [vInt p,vInt f])=true then(V.agg [vInt p,vInt f],vInt i)::bS r else(.agg [vInt k1,vInt k2],vInt e)::eo (bS r) (.agg [vInt p,vInt f]) (vInt i))=_
  rw[ih,Lr]
  simp only[rY]
  by_cases h:(k1,k2)=(p,f)
  ·rw[if_pos h,if_pos (by simpa using h)];rfl
  ·rw[if_neg h,if_neg (by simpa using h)];rfl
def kh(d:Ds)(i:Int)(r:Rg):Ds:=ox d i (bJ (aW d i).1 r.lo,dw (aW d i).2 r.hi)
def aG(l:Led)(i:Nat):Ret:=l.ts.getD i default
def gG(k:Int)(rs:List Rec)(bk:Bk)(x:Ret):Option Rec:=match cW rs x.re with
 |none=>none
 |some r=>if bI x.kn x.un k&&!(decide (bJ x.lo (r.da+1)>x.hi)||x.lv.any fun f=>(bu bk (r.so,f)).isSome||!r.lv.contains f)then some r else none
def qs(b:Bk)(so:Int)(i:Int)(lv:List Int):Bk:=lv.foldl (fun b f=>rY b (so,f) i) b
def mH(l:Led)(k:Int)(v:Vw)(i:Nat):Vw:=match gG k v.rs v.bk (aG l i)with
 |none=>v
 |some r=>{ v with bk:=qs v.bk r.so i (aG l i).lv,ts:=v.ts++[(i:Int)],ds:=ox v.ds i (bJ (aG l i).lo (r.da+1),(aG l i).hi) }
def aC(l:Led)(k:Int):Nat->Vw
 | 0=>⟨l,bn l k,[],[],[]⟩
 |s+1=>mH l k (aC l k s) s
def mB(rs:List Rec)(s:Int):Rec:=(cW rs s).getD zeroR
def kg(d:Ds)(i da:Int)(os:List Rec):Ds:=os.foldl (fun d o=>if o.da>da then kh d i ⟨0,o.da⟩else d) d
def gH(l:Led)(rs:List Rec)(ts:List Int)(d:Ds):Nat->Ds
 | 0=>d
 |j+1=>kg (gH l rs ts d j) (ts.getD j 0) (mB rs (aG l (ts.getD j 0).toNat).re).da (dA rs (mB rs (aG l (ts.getD j 0).toNat).re).pa (aG l (ts.getD j 0).toNat).lv)
def aq(l:Led)(k:Int):Vw:={ aC l k l.ts.length with ds:=gH l (bn l k) (aC l k l.ts.length).ts (aC l k l.ts.length).ds (aC l k l.ts.length).ts.length }
theorem V4(l:Led)(k:Int)(v:Vw)(i:Nat):(mH l k v i).l=v.l/\(mH l k v i).rs=v.rs:=by
 unfold mH
 split<;>exact⟨rfl,rfl⟩
theorem pO(l:Led)(k:Int)(i:Nat):(aC l k i).l=l/\(aC l k i).rs=bn l k:=by
 induction i with
 |zero=>exact⟨rfl,rfl⟩
 |succ i ih=>
  have :=V4 l k (aC l k i) i
  exact⟨this.1.trans ih.1,this.2.trans ih.2⟩
def rP(x:Vw)(a b:Rec):Bool:=a.lv.any fun f=>(a.pa==b.pa&&b.lv.contains f)&&(a.da==b.da||match bu x.bk (a.so,f)with
 |none=>true
 |some i=>decide (bJ (aG x.l i.toNat).lo (a.da+1)>b.da))
def gB(x:Vw)(a b:Rec):Bool:=if a.da>b.da then rP x b a else rP x a b
def nN(x:Vw)(i:Nat):Option (Int×Int):=((x.rs.drop (i+1)).find? (gB x (x.rs.getD i zeroR))).map fun b=>((x.rs.getD i zeroR).so,b.so)
def eJ(x:Vw):Option (Int×Int):=(List.range x.rs.length).findSome? (nN x)
def jw(day:Int)(o:Option Rec)(r:Rec):Option Rec:=if decide (r.da<=day)&&(o.isNone||decide (r.da>=(o.getD zeroR).da))then some r else o
def eR(rs:List Rec)(pa le day:Int):Option Rec:=(dA rs pa [le]).foldl (jw day) none
def cG:Rg:=⟨0,100000⟩
def cD:Rg:=⟨1,0⟩
def bp(x:Vw)(s:Sig):Int×Rg:=match eR x.rs s.pa s.le s.da with
 |none=>if s.pe=0 then(-1,cG)else(-1,cD)
 |some r=>match bu x.bk (r.so,s.le)with
  |none=>if s.pe=r.bo then(-1,cG)else(-1,cD)
  |some i=>if s.pe=0 then(i,⟨0,s.da⟩)else if s.pe=r.bo then(i,⟨s.da+1,100000⟩)else(-1,cD)
def gz(x:Vw)(d:Ds)(s:Sig):Ds:=if (bp x s).1>=0 then kh d (bp x s).1 (bp x s).2 else d
def dQ(x:Vw)(d:Ds)(l:List Sig):Ds:=l.foldl (gz x) d
def fb(x:Vw)(s:Sig):Bool:=decide ((bp x s).1>=0)||!decide ((bp x s).2.lo>(bp x s).2.hi)
def vP(ts:List Int)(d:Ds):Bool:=ts.all fun i=>decide ((aW d i).1<=(aW d i).2)
def fE(x:Vw)(l:List Sig):Bool:=l.all (fb x)&&vP x.ts (dQ x x.ds l)
end Go.Eng
