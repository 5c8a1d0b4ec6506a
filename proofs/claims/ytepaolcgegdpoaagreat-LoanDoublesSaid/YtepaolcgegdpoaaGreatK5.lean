import Derived.Test.YtepaolcgegdpoaaGreatK4
import Derived.Test.YtepaolcgegdpoaaGreatProg
import Derived.KernelRfl
/- Texts L0 to LW11. -/
set_option linter.all false
namespace Go.Eng
open Go Go.Proofs
abbrev KS (K:List (Nat×Spec)):Prop:=∀ f s,tbl K f=some s->aR Tryz.prog f s
@[go_sem] theorem ta0:bc Tryz.prog 0=some (false,1):=by kernel_rfl
@[go_sem] theorem ta1:bc Tryz.prog 1=some (false,1):=by kernel_rfl
@[go_sem] theorem tz1:bm Tryz.prog 1=some .nilFunc:=by kernel_rfl
@[go_sem] theorem ta2:bc Tryz.prog 2=some (false,1):=by kernel_rfl
@[go_sem] theorem ti2:l6 Tryz.prog 2=some .i64:=by kernel_rfl
@[go_sem] theorem tz2:bm Tryz.prog 2=some (.int .i64 0):=by kernel_rfl
@[go_sem] theorem w9:bc Tryz.prog 3=some (false,1):=by kernel_rfl
@[go_sem] theorem ti3:l6 Tryz.prog 3=some .i64:=by kernel_rfl
@[go_sem] theorem tz3:bm Tryz.prog 3=some (.int .i64 0):=by kernel_rfl
@[go_sem] theorem ta4:bc Tryz.prog 4=some (false,1):=by kernel_rfl
@[go_sem] theorem tz4:bm Tryz.prog 4=some (.bool false):=by kernel_rfl
@[go_sem] theorem adB:bc Tryz.prog 18=some (true,1):=by kernel_rfl
@[go_sem] theorem abW:jR Tryz.prog 18=some [(0,1)]:=by kernel_rfl
@[go_sem] theorem abx:bm Tryz.prog 18=some (.agg #[(.pointer none)]):=by kernel_rfl
@[go_sem] theorem acN:bU Tryz.prog 18 0=some (0,1,false):=by kernel_rfl
@[go_sem] theorem adu:bc Tryz.prog 26=some (false,1):=by kernel_rfl
@[go_sem] theorem ac4:cf Tryz.prog 26=some (46,2,16):=by kernel_rfl
@[go_sem] theorem ab8:dr Tryz.prog 26=some 0:=by kernel_rfl
@[go_sem] theorem abr:bm Tryz.prog 26=some (.slice none 0 0):=by kernel_rfl
@[go_sem] theorem adt:bc Tryz.prog 27=some (false,1):=by kernel_rfl
@[go_sem] theorem ac3:cf Tryz.prog 27=some (36,7,72):=by kernel_rfl
@[go_sem] theorem ab7:dr Tryz.prog 27=some 0:=by kernel_rfl
@[go_sem] theorem abq:bm Tryz.prog 27=some (.slice none 0 0):=by kernel_rfl
@[go_sem] theorem ads:bc Tryz.prog 28=some (false,1):=by kernel_rfl
@[go_sem] theorem ac2:cf Tryz.prog 28=some (40,8,80):=by kernel_rfl
@[go_sem] theorem ab6:dr Tryz.prog 28=some 0:=by kernel_rfl
@[go_sem] theorem abp:bm Tryz.prog 28=some (.slice none 0 0):=by kernel_rfl
@[go_sem] theorem adr:bc Tryz.prog 29=some (false,1):=by kernel_rfl
@[go_sem] theorem Fe:cf Tryz.prog 29=some (81,7,56):=by kernel_rfl
@[go_sem] theorem ab5:dr Tryz.prog 29=some 0:=by kernel_rfl
@[go_sem] theorem abo:bm Tryz.prog 29=some (.slice none 0 0):=by kernel_rfl
@[go_sem] theorem adq:bc Tryz.prog 31=some (true,4):=by kernel_rfl
@[go_sem] theorem abV:jR Tryz.prog 31=some [(0,1),(1,1),(2,1),(3,1)]:=by kernel_rfl
@[go_sem] theorem abn:bm Tryz.prog 31=some (.agg #[(.slice none 0 0),(.slice none 0 0),(.slice none 0 0),(.slice none 0 0)]):=by kernel_rfl
@[go_sem] theorem acM:bU Tryz.prog 31 0=some (0,1,false):=by kernel_rfl
@[go_sem] theorem acL:bU Tryz.prog 31 1=some (1,1,false):=by kernel_rfl
@[go_sem] theorem acK:bU Tryz.prog 31 2=some (2,1,false):=by kernel_rfl
@[go_sem] theorem acJ:bU Tryz.prog 31 3=some (3,1,false):=by kernel_rfl
@[go_sem] theorem adp:bc Tryz.prog 32=some (false,1):=by kernel_rfl
@[go_sem] theorem ac1:cf Tryz.prog 32=some (3,1,8):=by kernel_rfl
@[go_sem] theorem ab4:dr Tryz.prog 32=some 0:=by kernel_rfl
@[go_sem] theorem abm:bm Tryz.prog 32=some (.slice none 0 0):=by kernel_rfl
@[go_sem] theorem ado:bc Tryz.prog 36=some (true,7):=by kernel_rfl
@[go_sem] theorem abU:jR Tryz.prog 36=some [(0,1),(1,1),(2,1),(3,1),(4,1),(5,1),(6,1)]:=by kernel_rfl
@[go_sem] theorem abl:bm Tryz.prog 36=some (.agg #[(.int .i64 0),(.int .i64 0),(.int .i64 0),(.slice none 0 0),(.int .i64 0),(.int .i64 0),(.int .i64 0)]):=by kernel_rfl
@[go_sem] theorem acI:bU Tryz.prog 36 0=some (0,1,false):=by kernel_rfl
@[go_sem] theorem acH:bU Tryz.prog 36 1=some (1,1,false):=by kernel_rfl
@[go_sem] theorem acG:bU Tryz.prog 36 2=some (2,1,false):=by kernel_rfl
@[go_sem] theorem acF:bU Tryz.prog 36 3=some (3,1,false):=by kernel_rfl
@[go_sem] theorem acE:bU Tryz.prog 36 4=some (4,1,false):=by kernel_rfl
@[go_sem] theorem acD:bU Tryz.prog 36 5=some (5,1,false):=by kernel_rfl
@[go_sem] theorem acC:bU Tryz.prog 36 6=some (6,1,false):=by kernel_rfl
@[go_sem] theorem adn:bc Tryz.prog 38=some (true,2):=by kernel_rfl
@[go_sem] theorem abT:jR Tryz.prog 38=some [(0,1),(1,1)]:=by kernel_rfl
@[go_sem] theorem abk:bm Tryz.prog 38=some (.agg #[(.int .i64 0),(.int .i64 0)]):=by kernel_rfl
@[go_sem] theorem acB:bU Tryz.prog 38 0=some (0,1,false):=by kernel_rfl
@[go_sem] theorem acA:bU Tryz.prog 38 1=some (1,1,false):=by kernel_rfl
@[go_sem] theorem adm:bc Tryz.prog 40=some (true,8):=by kernel_rfl
@[go_sem] theorem abS:jR Tryz.prog 40=some [(0,1),(1,1),(2,1),(3,1),(4,2),(6,1),(7,1)]:=by kernel_rfl
@[go_sem] theorem abj:bm Tryz.prog 40=some (.agg #[(.int .i64 0),(.int .i64 0),(.int .i64 0),(.slice none 0 0),(.int .i64 0),(.int .i64 0),(.int .i64 0),(.int .i64 0)]):=by kernel_rfl
@[go_sem] theorem acz:bU Tryz.prog 40 0=some (0,1,false):=by kernel_rfl
@[go_sem] theorem acy:bU Tryz.prog 40 1=some (1,1,false):=by kernel_rfl
@[go_sem] theorem acx:bU Tryz.prog 40 2=some (2,1,false):=by kernel_rfl
@[go_sem] theorem acw:bU Tryz.prog 40 3=some (3,1,false):=by kernel_rfl
@[go_sem] theorem acv:bU Tryz.prog 40 4=some (4,2,true):=by kernel_rfl
@[go_sem] theorem acu:bU Tryz.prog 40 5=some (6,1,false):=by kernel_rfl
@[go_sem] theorem acs:bU Tryz.prog 40 6=some (7,1,false):=by kernel_rfl
@[go_sem] theorem adl:bc Tryz.prog 42=some (false,1):=by kernel_rfl
@[go_sem] theorem ace:l6 Tryz.prog 42=some .i64:=by kernel_rfl
@[go_sem] theorem abi:bm Tryz.prog 42=some (.int .i64 0):=by kernel_rfl
@[go_sem] theorem adk:bc Tryz.prog 43=some (false,1):=by kernel_rfl
@[go_sem] theorem adj:bc Tryz.prog 46=some (true,2):=by kernel_rfl
@[go_sem] theorem abR:jR Tryz.prog 46=some [(0,1),(1,1)]:=by kernel_rfl
@[go_sem] theorem abh:bm Tryz.prog 46=some (.agg #[(.int .i64 0),(.int .i64 0)]):=by kernel_rfl
@[go_sem] theorem acr:bU Tryz.prog 46 0=some (0,1,false):=by kernel_rfl
@[go_sem] theorem acq:bU Tryz.prog 46 1=some (1,1,false):=by kernel_rfl
@[go_sem] theorem adi:bc Tryz.prog 51=some (false,1):=by kernel_rfl
@[go_sem] theorem ac0:cf Tryz.prog 51=some (56,2,16):=by kernel_rfl
@[go_sem] theorem ab3:dr Tryz.prog 51=some 0:=by kernel_rfl
@[go_sem] theorem abg:bm Tryz.prog 51=some (.slice none 0 0):=by kernel_rfl
@[go_sem] theorem adh:bc Tryz.prog 52=some (false,1):=by kernel_rfl
@[go_sem] theorem adg:bc Tryz.prog 56=some (true,2):=by kernel_rfl
@[go_sem] theorem abQ:jR Tryz.prog 56=some [(0,1),(1,1)]:=by kernel_rfl
@[go_sem] theorem abf:bm Tryz.prog 56=some (.agg #[(.int .i64 0),(.int .i64 0)]):=by kernel_rfl
@[go_sem] theorem acp:bU Tryz.prog 56 0=some (0,1,false):=by kernel_rfl
@[go_sem] theorem aco:bU Tryz.prog 56 1=some (1,1,false):=by kernel_rfl
@[go_sem] theorem adf:bc Tryz.prog 57=some (false,1):=by kernel_rfl
@[go_sem] theorem ade:bc Tryz.prog 65=some (false,1):=by kernel_rfl
@[go_sem] theorem adb:bc Tryz.prog 81=some (true,7):=by kernel_rfl
@[go_sem] theorem abP:jR Tryz.prog 81=some [(0,1),(1,1),(2,1),(3,1),(4,1),(5,1),(6,1)]:=by kernel_rfl
@[go_sem] theorem Oj:bm Tryz.prog 81=some (.agg #[(.int .i64 0),(.int .i64 0),(.int .i64 0),(.int .i64 0),(.int .i64 0),(.int .i64 0),(.int .i64 0)]):=by kernel_rfl
@[go_sem] theorem acn:bU Tryz.prog 81 0=some (0,1,false):=by kernel_rfl
@[go_sem] theorem acm:bU Tryz.prog 81 1=some (1,1,false):=by kernel_rfl
@[go_sem] theorem ack:bU Tryz.prog 81 2=some (2,1,false):=by kernel_rfl
@[go_sem] theorem acj:bU Tryz.prog 81 3=some (3,1,false):=by kernel_rfl
@[go_sem] theorem aci:bU Tryz.prog 81 4=some (4,1,false):=by kernel_rfl
@[go_sem] theorem ach:bU Tryz.prog 81 5=some (5,1,false):=by kernel_rfl
@[go_sem] theorem acg:bU Tryz.prog 81 6=some (6,1,false):=by kernel_rfl
@[go_sem] theorem ada:bc Tryz.prog 86=some (false,1):=by kernel_rfl
@[go_sem] theorem ac':bc Tryz.prog 95=some (false,1):=by kernel_rfl
@[go_sem] theorem abe:bm Tryz.prog 95=some .nilFunc:=by kernel_rfl
@[go_sem] theorem ac9:bc Tryz.prog 96=some (false,1):=by kernel_rfl
@[go_sem] theorem abd:bm Tryz.prog 96=some .nilFunc:=by kernel_rfl
@[go_sem] theorem ac8:bc Tryz.prog 97=some (false,1):=by kernel_rfl
@[go_sem] theorem abb:bm Tryz.prog 97=some .nilFunc:=by kernel_rfl
@[go_sem] theorem ac7:bc Tryz.prog 98=some (false,1):=by kernel_rfl
@[go_sem] theorem aba:bm Tryz.prog 98=some .nilFunc:=by kernel_rfl
@[go_sem] theorem adX:bc Tryz.prog 103=some (false,1):=by kernel_rfl
@[go_sem] theorem ac6:cf Tryz.prog 103=some (4,1,1):=by kernel_rfl
@[go_sem] theorem acd:dr Tryz.prog 103=some 0:=by kernel_rfl
@[go_sem] theorem abO:bm Tryz.prog 103=some (.slice none 0 0):=by kernel_rfl
@[go_sem] theorem adW:bc Tryz.prog 106=some (false,1):=by kernel_rfl
@[go_sem] theorem ac5:cf Tryz.prog 106=some (38,2,16):=by kernel_rfl
@[go_sem] theorem acb:dr Tryz.prog 106=some 0:=by kernel_rfl
@[go_sem] theorem abN:bm Tryz.prog 106=some (.slice none 0 0):=by kernel_rfl
@[go_sem] theorem adV:bc Tryz.prog 108=some (true,7):=by kernel_rfl
@[go_sem] theorem abZ:jR Tryz.prog 108=some [(0,4),(4,1),(5,1),(6,1)]:=by kernel_rfl
@[go_sem] theorem abM:bm Tryz.prog 108=some (.agg #[(.slice none 0 0),(.slice none 0 0),(.slice none 0 0),(.slice none 0 0),(.int .i64 0),(.slice none 0 0),(.slice none 0 0)]):=by kernel_rfl
@[go_sem] theorem acY:bU Tryz.prog 108 0=some (0,4,true):=by kernel_rfl
@[go_sem] theorem acX:bU Tryz.prog 108 1=some (4,1,false):=by kernel_rfl
@[go_sem] theorem acW:bU Tryz.prog 108 2=some (5,1,false):=by kernel_rfl
@[go_sem] theorem acV:bU Tryz.prog 108 3=some (6,1,false):=by kernel_rfl
@[go_sem] theorem adU:bc Tryz.prog 112=some (false,1):=by kernel_rfl
@[go_sem] theorem adT:bc Tryz.prog 113=some (false,1):=by kernel_rfl
@[go_sem] theorem abL:bm Tryz.prog 113=some (.pointer none):=by kernel_rfl
@[go_sem] theorem adS:bc Tryz.prog 115=some (false,1):=by kernel_rfl
@[go_sem] theorem abK:bm Tryz.prog 115=some (.pointer none):=by kernel_rfl
@[go_sem] theorem adR:bc Tryz.prog 117=some (false,1):=by kernel_rfl
@[go_sem] theorem adQ:bc Tryz.prog 119=some (false,1):=by kernel_rfl
@[go_sem] theorem adP:bc Tryz.prog 120=some (false,1):=by kernel_rfl
@[go_sem] theorem aca:dr Tryz.prog 120=some 2:=by kernel_rfl
@[go_sem] theorem ab2:jS Tryz.prog 120=some (2,3):=by kernel_rfl
@[go_sem] theorem abJ:bm Tryz.prog 120=some (.map none):=by kernel_rfl
@[go_sem] theorem adO:bc Tryz.prog 121=some (false,1):=by kernel_rfl
@[go_sem] theorem ab':dr Tryz.prog 121=some 2:=by kernel_rfl
@[go_sem] theorem ab1:jS Tryz.prog 121=some (0,38):=by kernel_rfl
@[go_sem] theorem abI:bm Tryz.prog 121=some (.map none):=by kernel_rfl
@[go_sem] theorem adN:bc Tryz.prog 123=some (true,5):=by kernel_rfl
@[go_sem] theorem abY:jR Tryz.prog 123=some [(0,1),(1,1),(2,1),(3,1),(4,1)]:=by kernel_rfl
@[go_sem] theorem abH:bm Tryz.prog 123=some (.agg #[(.pointer none),(.slice none 0 0),(.slice none 0 0),(.map none),(.map none)]):=by kernel_rfl
@[go_sem] theorem acU:bU Tryz.prog 123 0=some (0,1,false):=by kernel_rfl
@[go_sem] theorem acT:bU Tryz.prog 123 1=some (1,1,false):=by kernel_rfl
@[go_sem] theorem acS:bU Tryz.prog 123 2=some (2,1,false):=by kernel_rfl
@[go_sem] theorem acR:bU Tryz.prog 123 3=some (3,1,false):=by kernel_rfl
@[go_sem] theorem acQ:bU Tryz.prog 123 4=some (4,1,false):=by kernel_rfl
@[go_sem] theorem adM:bc Tryz.prog 125=some (true,2):=by kernel_rfl
@[go_sem] theorem abX:jR Tryz.prog 125=some [(0,1),(1,1)]:=by kernel_rfl
@[go_sem] theorem abG:bm Tryz.prog 125=some (.agg #[(.int .i64 0),(.int .i64 0)]):=by kernel_rfl
@[go_sem] theorem acP:bU Tryz.prog 125 0=some (0,1,false):=by kernel_rfl
@[go_sem] theorem acO:bU Tryz.prog 125 1=some (1,1,false):=by kernel_rfl
@[go_sem] theorem adL:bc Tryz.prog 135=some (false,1):=by kernel_rfl
@[go_sem] theorem abF:bm Tryz.prog 135=some .nilFunc:=by kernel_rfl
@[go_sem] theorem adK:bc Tryz.prog 139=some (false,1):=by kernel_rfl
@[go_sem] theorem abE:bm Tryz.prog 139=some .nilFunc:=by kernel_rfl
@[go_sem] theorem adJ:bc Tryz.prog 145=some (false,1):=by kernel_rfl
@[go_sem] theorem adI:bc Tryz.prog 153=some (false,1):=by kernel_rfl
@[go_sem] theorem abD:bm Tryz.prog 153=some .nilFunc:=by kernel_rfl
@[go_sem] theorem adH:bc Tryz.prog 155=some (false,1):=by kernel_rfl
@[go_sem] theorem abC:bm Tryz.prog 155=some .nilFunc:=by kernel_rfl
@[go_sem] theorem adG:bc Tryz.prog 157=some (false,1):=by kernel_rfl
@[go_sem] theorem abB:bm Tryz.prog 157=some .nilFunc:=by kernel_rfl
@[go_sem] theorem adF:bc Tryz.prog 159=some (false,1):=by kernel_rfl
@[go_sem] theorem abA:bm Tryz.prog 159=some .nilFunc:=by kernel_rfl
@[go_sem] theorem adE:bc Tryz.prog 160=some (false,1):=by kernel_rfl
@[go_sem] theorem ab9:dr Tryz.prog 160=some 2:=by kernel_rfl
@[go_sem] theorem ab0:jS Tryz.prog 160=some (0,4):=by kernel_rfl
@[go_sem] theorem abz:bm Tryz.prog 160=some (.map none):=by kernel_rfl
@[go_sem] theorem adD:bc Tryz.prog 161=some (false,1):=by kernel_rfl
@[go_sem] theorem aby:bm Tryz.prog 161=some .nilFunc:=by kernel_rfl
@[go_sem] theorem adC:bc Tryz.prog 164=some (false,1):=by kernel_rfl
@[go_sem] theorem adA:bc Tryz.prog 186=some (false,1):=by kernel_rfl
@[go_sem] theorem abw:bm Tryz.prog 186=some .nilFunc:=by kernel_rfl
@[go_sem] theorem adz:bc Tryz.prog 188=some (false,1):=by kernel_rfl
@[go_sem] theorem abv:bm Tryz.prog 188=some .nilFunc:=by kernel_rfl
@[go_sem] theorem ady:bc Tryz.prog 191=some (false,1):=by kernel_rfl
@[go_sem] theorem abu:bm Tryz.prog 191=some .nilFunc:=by kernel_rfl
@[go_sem] theorem adx:bc Tryz.prog 202=some (false,1):=by kernel_rfl
@[go_sem] theorem adw:bc Tryz.prog 205=some (false,1):=by kernel_rfl
@[go_sem] theorem adv:bc Tryz.prog 208=some (false,1):=by kernel_rfl
@[go_sem] theorem acf:l6 Tryz.prog 208=some .u64:=by kernel_rfl
@[go_sem] theorem abt:bm Tryz.prog 208=some (.int .u64 0):=by kernel_rfl
theorem dL:Tryz.prog.follows .mixedOrders=true:=by kernel_rfl
structure Pap where
 (id lv:Int)
 deriving Inhabited,DecidableEq
structure Rec where
 (so bo pa:Int)
 lv:List Int
 (da kn un:Int)
 deriving Inhabited,DecidableEq
structure Ret where
 (so re pe:Int)
 lv:List Int
 (lo hi kn un:Int)
 deriving Inhabited,DecidableEq
structure Sig where
 (so pe pa le da kn un:Int)
 deriving Inhabited,DecidableEq
structure Led where
 ps:List Pap
 rs:List Rec
 ts:List Ret
 ss:List Sig
 deriving Inhabited,DecidableEq
def jJ:V->Int
 | .int _ n=>n
 |_=>0
def y8:V->Bool
 | .bool b=>b
 |_=>false
def L3:V->List Int
 | .sl l=>l.map jJ
 |_=>[]
def gJ(p:Pap):V:=.agg [vInt p.id,vInt p.lv]
def sh:V->Pap
 | .agg [.int _ a,.int _ b]=>⟨a,b⟩
 |_=>default
def encR(r:Rec):V:=.agg [vInt r.so,vInt r.bo,vInt r.pa,.sl (r.lv.map vInt),vInt r.da,vInt r.kn,vInt r.un]
def kV:V->Rec
 | .agg [.int _ a,.int _ b,.int _ c,.sl l,.int _ d,.int _ e,.int _ f]=>⟨a,b,c,l.map jJ,d,e,f⟩
 |_=>default
def fv(r:Ret):V:=.agg [vInt r.so,vInt r.re,vInt r.pe,.sl (r.lv.map vInt),vInt r.lo,vInt r.hi,vInt r.kn,vInt r.un]
def mL:V->Ret
 | .agg [.int _ a,.int _ b,.int _ c,.sl l,.int _ d,.int _ g,.int _ e,.int _ f]=>⟨a,b,c,l.map jJ,d,g,e,f⟩
 |_=>default
def encS(s:Sig):V:=.agg [vInt s.so,vInt s.pe,vInt s.pa,vInt s.le,vInt s.da,vInt s.kn,vInt s.un]
def jI:V->Sig
 | .agg [.int _ a,.int _ b,.int _ c,.int _ d,.int _ e,.int _ f,.int _ g]=>⟨a,b,c,d,e,f,g⟩
 |_=>default
def dA(l:Led):V:=.agg [.sl (l.ps.map gJ),.sl (l.rs.map encR),.sl (l.ts.map fv),.sl (l.ss.map encS)]
def yZ:V->Led
 | .agg [.sl a,.sl b,.sl c,.sl d]=>⟨a.map sh,b.map kV,c.map mL,d.map jI⟩
 |_=>default
def jH(l:Led):V:=.ptr [.sl (l.ps.map gJ),.sl (l.rs.map encR),.sl (l.ts.map fv),.sl (l.ss.map encS)]
def yY:V->Led
 | .ptr [.sl a,.sl b,.sl c,.sl d]=>⟨a.map sh,b.map kV,c.map mL,d.map jI⟩
 |_=>default
@[go_sem] theorem oY(l:List Int):(l.map vInt).map jJ=l:=by rw[List.map_map];exact List.map_id _
@[go_sem] theorem aej(l:List Bool):(l.map V.bool).map y8=l:=by rw[List.map_map];exact List.map_id _
theorem Xn(p:Pap):sh (gJ p)=p:=rfl
theorem Xm(r:Rec):kV (encR r)=r:=by
 cases r;simp only[encR,kV,oY]
theorem Xi(r:Ret):mL (fv r)=r:=by
 cases r;simp only[fv,mL,oY]
theorem Xk(r:Sig):jI (encS r)=r:=rfl
theorem vt{α:Type}{e:α->V}{d:V->α}(h:∀ a,d (e a)=a)(l:List α):(l.map e).map d=l:=by
 rw[List.map_map]
 have :d∘e=id:=funext h
 rw[this,List.map_id]
@[go_sem] theorem LZ(l:List Pap):(l.map gJ).map sh=l:=vt Xn l
@[go_sem] theorem yX(l:List Rec):(l.map encR).map kV=l:=vt Xm l
@[go_sem] theorem LX(l:List Ret):(l.map fv).map mL=l:=vt Xi l
@[go_sem] theorem sg(l:List Sig):(l.map encS).map jI=l:=vt Xk l
theorem Xo(l:Led):yZ (dA l)=l:=by
 cases l;simp only[dA,yZ,LZ,yX,LX,sg]
@[go_sem] theorem aee(p:Pap):(⟨p.id,p.lv⟩:Pap)=p:=rfl
@[go_sem] theorem aed(r:Rec):(⟨r.so,r.bo,r.pa,r.lv,r.da,r.kn,r.un⟩:Rec)=r:=rfl
@[go_sem] theorem ad'(r:Ret):(⟨r.so,r.re,r.pe,r.lv,r.lo,r.hi,r.kn,r.un⟩:Ret)=r:=rfl
@[go_sem] theorem aea(r:Sig):(⟨r.so,r.pe,r.pa,r.le,r.da,r.kn,r.un⟩:Sig)=r:=rfl
@[go_sem] theorem aef(l:Led):(⟨l.ps,l.rs,l.ts,l.ss⟩:Led)=l:=rfl
def iI:En Int:=⟨vInt,jJ⟩
def iB:En Bool:=⟨.bool,y8⟩
def cH:En (List Int):=⟨fun l=>.sl (l.map vInt),L3⟩
def iP:En Pap:=⟨gJ,sh⟩
def iR:En Rec:=⟨encR,kV⟩
def iT:En Ret:=⟨fv,mL⟩
def iS:En Sig:=⟨encS,jI⟩
def iL:En Led:=⟨dA,yZ⟩
def oz:En Led:=⟨jH,yY⟩
attribute [go_sem] iI iB cH iP iR iT iS iL oz jJ y8 L3 gJ sh encR kV fv mL encS jI dA yZ jH yY
def cj(n lo hi:Int):Bool:=decide (lo<=n)&&decide (n<=hi)
def dayB(n:Int):Bool:=cj n 0 100000
noncomputable section
@[go_sem] def P96:PSpec:=p3 iI iI iI (fun _ _ _=>True) (fun n lo hi=>.bool (cj n lo hi)) true
@[go_sem] def sB:Spec:=P96.toSpec
theorem xf:aN Tryz.prog 96 P96:=by
 refine gO (rs:=[.tmp 6]) Tryz.func96 Tryz.ntmps96 fun n lo hi hp hw=>?_
 simp only[iI]at hw |-
 have hΓ:=@fg Tryz.prog
 repeat refine sq ?_
 refine rs hΓ [0,1,2] [] ?_
 repeat refine sq ?_
 refine rs hΓ [6] [] ?_
 refine au ?_
 simp only[go_sem]
 all_goals exact c9
@[go_sem] def P146:PSpec:=p3 iI iI iI (fun _ _ _=>True) (fun n lo hi=>.bool (cj n lo hi)) true
@[go_sem] def sC:Spec:=P146.toSpec
theorem ve:aN Tryz.prog 146 P146:=by
 refine gO (rs:=[.tmp 6]) Tryz.func146 Tryz.ntmps146 fun n lo hi hp hw=>?_
 simp only[iI]at hw |-
 have hΓ:=@fg Tryz.prog
 repeat refine sq ?_
 refine rs hΓ [0,1,2] [] ?_
 repeat refine sq ?_
 refine rs hΓ [6] [] ?_
 refine au ?_
 simp only[go_sem]
 all_goals exact c9
@[go_sem] def P189:PSpec:=p1 iI (fun _=>True) (fun _=>.bool false) true
@[go_sem] def Zz:Spec:=P189.toSpec
theorem PY:aN Tryz.prog 189 P189:=by
 refine dQ (rs:=[.tmp 2]) Tryz.func189 Tryz.ntmps189 fun n hp hw=>?_
 simp only[iI]at hw |-
 have hΓ:=@fg Tryz.prog
 repeat refine sq ?_
 refine rs hΓ [0] [] ?_
 repeat refine sq ?_
 refine rs hΓ [2] [] ?_
 refine au ?_
 simp only[go_sem]
 all_goals exact c9
def K1:List (Nat×Spec):=[(96,sB),(146,sC),(189,Zz)]
theorem qI:KS K1:=tc xf.sound<|tc ve.sound<|tc PY.sound<|tn
attribute [go_sem] K1
@[go_sem] def P144:PSpec:=p1 iI (fun _=>True) (fun n=>.bool (cj n 1 999)) true
@[go_sem] def Ny:Spec:=P144.toSpec
theorem FU:aN Tryz.prog 144 P144:=by
 refine dQ (rs:=[.tmp 2]) Tryz.func144 Tryz.ntmps144 fun n hp hw=>?_
 simp only[iI]at hw |-
 have hΓ:=qI
 repeat refine sq ?_
 refine rs hΓ [0] [] ?_
 repeat refine sq ?_
 refine rs hΓ [2] [] ?_
 refine au ?_
 simp only[go_sem]
 all_goals exact c9
@[go_sem] def P145:PSpec:=p1 iI (fun _=>True) (fun n=>.bool (cj n 1 30)) true
@[go_sem] def EB:Spec:=P145.toSpec
theorem AA:aN Tryz.prog 145 P145:=by
 refine dQ (rs:=[.tmp 2]) Tryz.func145 Tryz.ntmps145 fun n hp hw=>?_
 simp only[iI]at hw |-
 have hΓ:=qI
 repeat refine sq ?_
 refine rs hΓ [0] [] ?_
 repeat refine sq ?_
 refine rs hΓ [2] [] ?_
 refine au ?_
 simp only[go_sem]
 all_goals exact c9
@[go_sem] def P147:PSpec:=p1 iI (fun _=>True) (fun n=>.bool (cj n 1 99999)) true
@[go_sem] def Nx:Spec:=P147.toSpec
theorem FT:aN Tryz.prog 147 P147:=by
 refine dQ (rs:=[.tmp 2]) Tryz.func147 Tryz.ntmps147 fun n hp hw=>?_
 simp only[iI]at hw |-
 have hΓ:=qI
 repeat refine sq ?_
 refine rs hΓ [0] [] ?_
 repeat refine sq ?_
 refine rs hΓ [2] [] ?_
 refine au ?_
 simp only[go_sem]
 all_goals exact c9
@[go_sem] def P148:PSpec:=p1 iI (fun _=>True) (fun n=>.bool (cj n 1 99)) true
@[go_sem] def Nw:Spec:=P148.toSpec
theorem FQ:aN Tryz.prog 148 P148:=by
 refine dQ (rs:=[.tmp 2]) Tryz.func148 Tryz.ntmps148 fun n hp hw=>?_
 simp only[iI]at hw |-
 have hΓ:=qI
 repeat refine sq ?_
 refine rs hΓ [0] [] ?_
 repeat refine sq ?_
 refine rs hΓ [2] [] ?_
 refine au ?_
 simp only[go_sem]
 all_goals exact c9
@[go_sem] def P150:PSpec:=p1 iI (fun _=>True) (fun n=>.bool (dayB n)) true
@[go_sem] def EA:Spec:=P150.toSpec
theorem Ay:aN Tryz.prog 150 P150:=by
 refine dQ (rs:=[.tmp 2]) Tryz.func150 Tryz.ntmps150 fun n hp hw=>?_
 simp only[iI]at hw |-
 have hΓ:=qI
 repeat refine sq ?_
 refine rs hΓ [0] [] ?_
 repeat refine sq ?_
 refine rs hΓ [2] [] ?_
 refine au ?_
 simp only[go_sem]
 all_goals exact c9
@[go_sem] def P152:PSpec:=p1 iI (fun _=>True) (fun n=>.bool (cj n 1 99999)) true
@[go_sem] def Nv:Spec:=P152.toSpec
theorem FP:aN Tryz.prog 152 P152:=by
 refine dQ (rs:=[.tmp 2]) Tryz.func152 Tryz.ntmps152 fun n hp hw=>?_
 simp only[iI]at hw |-
 have hΓ:=qI
 repeat refine sq ?_
 refine rs hΓ [0] [] ?_
 repeat refine sq ?_
 refine rs hΓ [2] [] ?_
 refine au ?_
 simp only[go_sem]
 all_goals exact c9
@[go_sem] def P154:PSpec:=p1 iI (fun _=>True) (fun n=>.bool (dayB n)) true
@[go_sem] def Ez:Spec:=P154.toSpec
theorem Ax:aN Tryz.prog 154 P154:=by
 refine dQ (rs:=[.tmp 2]) Tryz.func154 Tryz.ntmps154 fun n hp hw=>?_
 simp only[iI]at hw |-
 have hΓ:=qI
 repeat refine sq ?_
 refine rs hΓ [0] [] ?_
 repeat refine sq ?_
 refine rs hΓ [2] [] ?_
 refine au ?_
 simp only[go_sem]
 all_goals exact c9
def lK(a b:Int):Int:=if a<b then -1 else if b<a then 1 else 0
@[go_sem] def P140:PSpec:=p2 iI iI (fun _ _=>True) (fun a b=>vInt (lK a b)) true
@[go_sem] def ZK:Spec:=P140.toSpec
theorem Qg:aN Tryz.prog 140 P140:=by
 refine cX (rs:=[.tmp 4]) Tryz.func140 Tryz.ntmps140 fun a b hp hw=>?_
 simp only[iI]at hw |-
 have hΓ:=qI
 repeat refine sq ?_
 refine rs hΓ [0,1] [] ?_
 repeat refine sq ?_
 refine rs hΓ [0,1,5] [] ?_
 repeat refine sq ?_
 refine rs hΓ [0,1,5,6] [] ?_
 repeat refine sq ?_
 refine rs hΓ [0,1,6,11] [] ?_
 repeat refine cB ?_
 refine av (fun hb=>?_) fun hb=>?_
 ·repeat refine cB ?_
  repeat refine sq ?_
  refine rs hΓ [12] [] ?_
  repeat refine cB ?_
  refine av (fun hb=>?_) fun hb=>?_
  ·repeat refine cB ?_
   repeat refine sq ?_
   refine rs hΓ [4] [] ?_
   refine au ?_
   simp only[go_sem]
   all_goals first | rfl | (simp;done) | (grind [lK];done)
  ·repeat refine cB ?_
   refine ax ?_
   repeat refine sq ?_
   refine rs hΓ [4] [] ?_
   refine au ?_
   simp only[go_sem]
   all_goals first | rfl | (simp;done) | (grind [lK];done)
 ·repeat refine cB ?_
  refine ax ?_
  repeat refine sq ?_
  refine rs hΓ [0,1,13] [] ?_
  repeat refine cB ?_
  refine av (fun hb=>?_) fun hb=>?_
  ·repeat refine cB ?_
   repeat refine sq ?_
   refine rs hΓ [4] [] ?_
   refine au ?_
   simp only[go_sem]
   all_goals first | rfl | (simp;done) | (grind [lK];done)
  ·repeat refine cB ?_
   refine ax ?_
   repeat refine sq ?_
   refine rs hΓ [0,1,16] [] ?_
   repeat refine cB ?_
   refine av (fun hb=>?_) fun hb=>?_
   ·repeat refine cB ?_
    repeat refine sq ?_
    refine rs hΓ [4] [] ?_
    refine au ?_
    simp only[go_sem]
    all_goals first | rfl | (simp;done) | (grind [lK];done)
   ·repeat refine cB ?_
    refine ax ?_
    repeat refine sq ?_
    refine rs hΓ [19] [] ?_
    repeat refine cB ?_
    refine av (fun hb=>?_) fun hb=>?_
    ·repeat refine cB ?_
     repeat refine sq ?_
     refine rs hΓ [4] [] ?_
     refine au ?_
     simp only[go_sem]
     all_goals first | rfl | (simp;done) | (grind [lK];done)
    ·repeat refine cB ?_
     refine ax ?_
     repeat refine sq ?_
     refine rs hΓ [4] [] ?_
     refine au ?_
     simp only[go_sem]
     all_goals first | rfl | (simp;done) | (grind [lK];done)
def bJ(since E5 known:Int):Bool:=decide (since<=known)&&(E5==0||decide (known<E5))
@[go_sem] def P157:PSpec:=p3 iI iI iI (fun _ _ _=>True) (fun a b c=>.bool (bJ a b c)) true
@[go_sem] def zP:Spec:=P157.toSpec
theorem xg:aN Tryz.prog 157 P157:=by
 refine gO (rs:=[.tmp 6]) Tryz.func157 Tryz.ntmps157 fun a b c hp hw=>?_
 simp only[iI]at hw |-
 have hΓ:=@fg Tryz.prog
 repeat refine sq ?_
 refine rs hΓ [0,1,2] [] ?_
 repeat refine sq ?_
 refine rs hΓ [6] [] ?_
 refine au ?_
 simp only[go_sem]
 all_goals first | rfl | (simp;done) | (grind [bJ];done)
@[go_sem] def P162:PSpec:=p3 iI iI iI (fun _ _ _=>True) (fun a b c=>.bool (bJ a b c)) true
@[go_sem] def S162:Spec:=P162.toSpec
theorem P8:aN Tryz.prog 162 P162:=by
 refine gO (rs:=[.tmp 6]) Tryz.func162 Tryz.ntmps162 fun a b c hp hw=>?_
 simp only[iI]at hw |-
 have hΓ:=@fg Tryz.prog
 repeat refine sq ?_
 refine rs hΓ [0,1,2] [] ?_
 repeat refine sq ?_
 refine rs hΓ [6] [] ?_
 refine au ?_
 simp only[go_sem]
 all_goals first | rfl | (simp;done) | (grind [bJ];done)
theorem JI:aR Tryz.prog 162 S162:=P8.sound
end
noncomputable section
def pq(k u:Int):Bool:=dayB k&&(u==0||(decide (k<u)&&decide (u<=100000)))
def K2:List (Nat×Spec):=[(96,sB),(146,sC),(145,EB),(150,EA),(154,Ez),(144,Ny),(147,Nx),(148,Nw),(152,Nv)]
theorem NM:KS K2:=tc xf.sound<|tc ve.sound<|tc AA.sound<|tc Ay.sound<|tc Ax.sound<|tc FU.sound<|tc FT.sound<|tc FQ.sound<|tc FP.sound<|tn
attribute [go_sem] K2
theorem Ot(k u:Int):(dayB k&&(u==0||cj u (IntKind.i64.wrap (k+1)) 100000))=pq k u:=by
 unfold pq
 cases h:dayB k with
 |false=>rfl
 |true=>
  unfold dayB cj at h
  simp only[Bool.and_eq_true,decide_eq_true_eq]at h
  rw[wrap_i64 (by omega) (by omega)]
  unfold cj
  simp only[Bool.true_and]
  congr 2
@[go_sem] def P151:PSpec:=p2 iI iI (fun _ _=>True) (fun a b=>.bool (pq a b)) true
@[go_sem] def ZI:Spec:=P151.toSpec
theorem Qe:aN Tryz.prog 151 P151:=by
 refine cX (rs:=[.tmp 4]) Tryz.func151 Tryz.ntmps151 fun k u hp hw=>?_
 simp only[iI]at hw |-
 have hΓ:=NM
 repeat refine sq ?_
 refine rs hΓ [0,1] [] ?_
 repeat refine sq ?_
 refine rs hΓ [4] [] ?_
 refine au ?_
 simp only[go_sem]
 all_goals first | rfl | (simp;done) | (exact congrArg V.bool (Ot _ _);done)
@[go_sem] def P155:PSpec:=p2 iI iI (fun _ _=>True) (fun a b=>.bool (pq a b)) true
@[go_sem] def ZG:Spec:=P155.toSpec
theorem Qc:aN Tryz.prog 155 P155:=by
 refine cX (rs:=[.tmp 4]) Tryz.func155 Tryz.ntmps155 fun k u hp hw=>?_
 simp only[iI]at hw |-
 have hΓ:=NM
 repeat refine sq ?_
 refine rs hΓ [0,1] [] ?_
 repeat refine sq ?_
 refine rs hΓ [4] [] ?_
 refine au ?_
 simp only[go_sem]
 all_goals first | rfl | (simp;done) | (grind [pq];done)
open Classical in
def jU(l:List Int):Bool:=decide (∀ j (h:j<l.length),0<j->l[j-1] <l[j])
theorem qQ{l:List Int}:jU l=true↔∀ j (h:j<l.length),0<j->l[j-1] <l[j]:=by unfold jU;exact decide_eq_true_iff
theorem QJ{l:List Int}{j:Nat}(h:j<l.length)(h0:0<j)(hb:l[j-1]>=l[j]):jU l=false:=by
 rw[Bool.eq_false_iff]
 intro k
 have :=qQ.1 k j h h0
 omega
theorem NZ{i n:Nat}(h0:0<i)(h:i<=n)(hn:n<=maxLen):IntKind.i64.wrap ((i:Int)-1)=((i-1:Nat):Int):=wW (by omega) (Nat.le_trans h hn)
@[go_sem] def P130:PSpec:=p1 cH (fun _=>True) (fun l=>.bool (jU l)) true
@[go_sem] def NF:Spec:=P130.toSpec
set_option maxHeartbeats 4000000 in
theorem F0:aN Tryz.prog 130 P130:=by
 refine dQ (rs:=[.tmp 2]) Tryz.func130 Tryz.ntmps130 fun l hp hw=>?_
 have hP:=dL
 simp only[cH]at hw |-
 have hΓ:=@fg Tryz.prog
 have hl:l.length<=maxLen:=by have:=hw.1.1;simpa using this
 repeat refine sq ?_
 refine rs hΓ [0] [] ?_
 repeat refine sq ?_
 refine rs hΓ [0,3] [] ?_
 repeat refine sq ?_
 refine aH ?_
 repeat refine sq ?_
 refine bB (fun i:Nat=>[(3,⟨true,.v (vInt i)⟩)]) (fun i=>[]) (fun i=>0<i/\∀ j (h:j<l.length),j<i->0<j->l[j-1] <l[j]) (fun i=>l.length-i) 1 ?_ ?_ ?_ ?_
 ·exact⟨Nat.one_pos,fun j h h1 h2=>by omega⟩
 ·rfl
 ·rfl
 rintro i ⟨h0,hz⟩
 simp only[go_sem]
 repeat refine sq ?_
 refine rs hΓ [0,3,7] [] ?_
 repeat refine sq ?_
 refine av (fun hb=>?_) fun hb=>?_
 ·have ab:i<l.length:=by simpa using hb
  have an:(i:Int)<l.length:=by omega
  have Ut:=NZ h0 (Nat.le_of_lt ab) hl
  have B7:(0:Int)<=((i-1:Nat):Int):=by omega
  have x9:((i-1:Nat):Int)<l.length:=by omega
  have B6:i-1<l.length:=by omega
  repeat refine sq ?_
  refine ax ?_
  repeat refine sq ?_
  refine aH ?_
  repeat refine sq ?_
  refine dx hΓ hP [[],[],[1],[0,1,2],u4,[],[],[5,6],[5,6,7],u9] [0,3,19] [] (by kernel_rfl) (fun K' hK=>by simp only[go_sem,Ut,ae ab,ae B6,ah,ai,an,x9];exact fd) ?_
  repeat refine sq ?_
  refine av (fun hb=>?_) fun hb=>?_
  ·repeat refine sq ?_
   refine rs hΓ [2] [] ?_
   refine au ?_
   simp only[go_sem]
   rw[QJ ab h0 (by simpa using hb)]
  ·replace hb:l[i-1] <l[i]:=by simpa using hb
   repeat refine sq ?_
   refine ax ?_
   refine bE ?_
   simp only[go_sem]
   refine kp [0,3] [] ?_
   repeat refine sq ?_
   refine aM hΓ fun K' hK=>?_
   simp only[go_sem]
   repeat (refine⟨ob,?_⟩)
   refine hK _ ?_
   clear K' hK
   simp only[go_sem]
   refine⟨i+1,⟨by omega,fun j h h1 h2=>?_⟩,by omega,?_⟩
   ·rcases Nat.lt_succ_iff_lt_or_eq.1 h1 with h3 | rfl
    ·exact hz j h h3 h2
    ·exact hb
   refine aY [0,3] [] ?_ ?_<;>simp only[go_sem,aT ab hl,aU]
 ·have be:l.length<=i:=by
    have :¬ (i:Int)<l.length:=by simpa using hb
    omega
  repeat refine sq ?_
  refine bp ?_
  simp only[go_sem]
  refine kp [] [] ?_
  repeat refine sq ?_
  refine rs hΓ [2] [] ?_
  refine au ?_
  simp only[go_sem]
  rw[qQ.2 fun j h h0=>hz j h (by omega) h0]
end
set_option maxHeartbeats 8000000
noncomputable section
def K3:List (Nat×Spec):=[(130,NF),(145,EB),(146,sC),(96,sB)]
theorem NL:KS K3:=tc F0.sound<|tc AA.sound<|tc ve.sound<|tc xf.sound<|tn
attribute [go_sem] K3
def np(l:List Int):Bool:=decide (0<l.length)&&jU l&&cj (l.getD 0 0) 1 30&&cj (l.getD (l.length-1) 0) 1 30
@[go_sem] def P149:PSpec:=p1 cH (fun _=>True) (fun l=>.bool (np l)) true
@[go_sem] def ZJ:Spec:=P149.toSpec
theorem Qf:aN Tryz.prog 149 P149:=by
 refine dQ (rs:=[.tmp 2]) Tryz.func149 Tryz.ntmps149 fun l hp hw=>?_
 simp only[cH]at hw |-
 have hΓ:=NL
 have hl:l.length<=maxLen:=by have:=hw.1.1;simpa using this
 by_cases h0:l.length=0
 ·have e0:l=[]:=List.length_eq_zero_iff.1 h0
  subst e0
  repeat refine sq ?_
  refine rs hΓ [0] [] ?_
  repeat refine sq ?_
  refine rs hΓ [2] [] ?_
  refine au ?_
  simp only[go_sem]
  rfl
 ·have hq:0<l.length:=by omega
  have cp:(0:Int)<l.length:=by omega
  have jA:=wW h0 hl
  have nx:((l.length-1:Nat):Int)<l.length:=by omega
  have j':l.length-1<l.length:=by omega
  have hp3:(0:Int)<=((l.length-1:Nat):Int):=by omega
  have Vn:(l.map vInt).getD 0 default=vInt (l.getD 0 0):=by rw[ae hq,ck hq]
  have eP:(l.map vInt).getD (l.length-1) default=vInt (l.getD (l.length-1) 0):=by rw[ae j',ck j']
  have hd:decide ((l.length:Int)>0)=true:=by simpa using hq
  repeat refine sq ?_
  refine rs hΓ [0] [] ?_
  repeat refine sq ?_
  refine rx hΓ [2] [] (fun K' hK=>by simp only[go_sem,jA,Vn,eP,ah,Int.toNat_zero,ai,cp,nx,hd,decide_true];exact fn) ?_
  refine au ?_
  simp only[go_sem]
  have B6:decide (0<l.length)=true:=by simpa using hq
  simp only[np,B6,Bool.true_and,Bool.decide_and,Bool.decide_eq_true]
theorem n8{i n:Nat}(h:i<n)(hn:n<=maxLen):∃ p:Nat,(IntKind.i64.wrap ((i:Int)-1)).toNat=p/\p<n/\(0<i->p=i-1/\0<=IntKind.i64.wrap ((i:Int)-1)/\IntKind.i64.wrap ((i:Int)-1)<n):=by
 unfold maxLen at hn
 rcases Nat.eq_zero_or_pos i with rfl | hp
 ·exact⟨0,by decide,h,fun h=>by omega⟩
 ·have:IntKind.i64.wrap ((i:Int)-1)=((i-1:Nat):Int):=by rw[wrap_i64 (by omega) (by omega)];omega
  exact⟨i-1,by rw[this];rfl,by omega,fun _=>⟨rfl,by omega,by omega⟩⟩
theorem AI{l:List Int}(hr:jU l=true):∀ (k j:Nat) (h:j+k<l.length),l[j]+k<=l[j+k]
 | 0,j,h=>by simp
 |k+1,j,h=>by
  have h1:=AI hr k j (by omega)
  have h2:=qQ.1 hr (j+k+1) (by omega) (by omega)
  have e:j+k+1-1=j+k:=by omega
  simp only[e]at h2
  show l[j]+((k+1:Nat):Int)<=l[j+k+1]
  omega
theorem mj{l:List Int}:np l=true↔0<l.length/\l.length<=30/\jU l=true/\∀ j (h:j<l.length),cj l[j] 1 30=true:=by
 unfold np
 simp only[Bool.and_eq_true,decide_eq_true_eq]
 constructor
 ·rintro⟨⟨⟨h1,h2⟩,h3⟩,h4⟩
  have j':l.length-1<l.length:=by omega
  rw[ck h1]at h3
  rw[ck j']at h4
  unfold cj at h3 h4 |-
  simp only[Bool.and_eq_true,decide_eq_true_eq]at h3 h4 |-
  have ey:∀ j (h:j<l.length),l[0]+j<=l[j]:=fun j h=>by
   have :=AI h2 j 0 (by omega)
   simpa using this
  have gr:∀ j (h:j<l.length),l[j]<=l[l.length-1]:=fun j h=>by
   have :=AI h2 (l.length-1-j) j (by omega)
   have e:j+(l.length-1-j)=l.length-1:=by omega
   simp only[e]at this
   omega
  refine⟨h1,?_,h2,fun j h=>?_⟩
  ·have:=ey _ j';omega
  ·have a:=ey j h;have b:=gr j h;omega
 ·rintro⟨h1,h2,h3,h4⟩
  have j':l.length-1<l.length:=by omega
  refine⟨⟨⟨h1,h3⟩,?_⟩,?_⟩
  ·rw[ck h1];exact h4 0 h1
  ·rw[ck j'];exact h4 _ j'
theorem sw{b:Bool}{p:Prop}(h:b=true↔p)(hn:¬ p):b=false:=by
 cases b with
 |false=>rfl
 |true=>exact(hn (h.1 rfl)).elim
@[go_sem] def P153:PSpec:=p1 cH (fun _=>True) (fun l=>.bool (np l)) true
@[go_sem] def ZH:Spec:=P153.toSpec
theorem Qd:aN Tryz.prog 153 P153:=by
 refine dQ (rs:=[.tmp 2]) Tryz.func153 Tryz.ntmps153 fun l hp hw=>?_
 have hP:=dL
 simp only[cH]at hw |-
 have hΓ:=NL
 have hl:l.length<=maxLen:=by have:=hw.1.1;simpa using this
 repeat refine sq ?_
 refine rs hΓ [0] [] ?_
 repeat refine sq ?_
 refine rs hΓ [0,3] [] ?_
 repeat refine sq ?_
 refine aH ?_
 repeat refine sq ?_
 refine bB (fun i:Nat=>[(3,⟨true,.v (vInt i)⟩)]) (fun i=>[]) (fun i=>i<=l.length/\∀ j (h:j<l.length),j<i->cj l[j] 1 30=true/\(0<j->l[j-1] <l[j])) (fun i=>l.length-i) 0 ?_ ?_ ?_ ?_
 ·exact⟨Nat.zero_le _,fun j h h1=>by omega⟩
 ·rfl
 ·rfl
 rintro i ⟨h0,hz⟩
 simp only[go_sem]
 repeat refine sq ?_
 refine rs hΓ [0,3,7] [] ?_
 repeat refine sq ?_
 refine av (fun hb=>?_) fun hb=>?_
 ·have ab:i<l.length:=by simpa using hb
  have an:(i:Int)<l.length:=by omega
  obtain⟨p,hp,fW,bN⟩:=n8 ab hl
  repeat refine sq ?_
  refine ax ?_
  repeat refine sq ?_
  refine aH ?_
  repeat refine sq ?_
  refine dx hΓ hP [[],[],[0,1],[0,1,2],u4,u5,u6,u7,u8,u9,bO,bO,[0,1,2,3,4,5,6,7,8,9,11],gP,jP,bO,bO,[0,1,2,3,4,5,6,7,8,9,15,16],[0,1,2,3,4,5,6,7,8,9,15,16,17],lk,gz,nU] [0,3,31] [] (by kernel_rfl) (fun K' hK=>by simp only[go_sem,hp,ae ab,ae fW,ah,ai,an];(repeat (refine⟨by first | exact ob | (intro h;have:=bN (by simp_all);simp_all;done),?_⟩));exact e8) ?_
  repeat refine sq ?_
  refine av (fun hb=>?_) fun hb=>?_
  ·repeat refine sq ?_
   refine rs hΓ [2] [] ?_
   refine au ?_
   simp only[go_sem]
   rw[sw mj]
   rintro⟨_,_,h3,h4⟩
   have h5:=h4 i ab
   have h6:=qQ.1 h3 i ab
   simp only[h5,Bool.not_true,Bool.false_or,Bool.and_eq_true,decide_eq_true_eq]at hb
   obtain⟨e,_⟩:=bN (by omega)
   subst e
   have :=h6 (by omega)
   omega
  ·have hn:cj l[i] 1 30=true/\(0<i->l[i-1] <l[i]):=by
     simp only[Bool.or_eq_false_iff,Bool.not_eq_false',Bool.and_eq_false_iff,decide_eq_false_iff_not]at hb
     refine⟨hb.1,fun h=>?_⟩
     obtain⟨e,_⟩:=bN h
     subst e
     omega
   repeat refine sq ?_
   refine ax ?_
   refine bE ?_
   simp only[go_sem]
   refine kp [0,3] [] ?_
   repeat refine sq ?_
   refine aM hΓ fun K' hK=>?_
   simp only[go_sem]
   repeat (refine⟨ob,?_⟩)
   refine hK _ ?_
   clear K' hK
   simp only[go_sem]
   refine⟨i+1,⟨by omega,fun j h h1=>?_⟩,by omega,?_⟩
   ·rcases Nat.lt_succ_iff_lt_or_eq.1 h1 with h3 | rfl
    ·exact hz j h h3
    ·exact hn
   refine aY [0,3] [] ?_ ?_<;>simp only[go_sem,aT ab hl,aU]
 ·have be:l.length=i:=by
    have :¬ (i:Int)<l.length:=by simpa using hb
    omega
  repeat refine sq ?_
  refine bp ?_
  simp only[go_sem]
  refine kp [0] [] ?_
  repeat refine sq ?_
  refine rs hΓ [2] [] ?_
  refine au ?_
  simp only[go_sem]
  congr 1
  rw[Bool.eq_iff_iff,mj]
  unfold cj
  simp only[Bool.and_eq_true,decide_eq_true_eq]
  constructor
  ·rintro⟨h1,h2⟩
   exact⟨by omega,by omega,qQ.2 fun j h h0=>(hz j h (by omega)).2 h0,fun j h=>by have:=(hz j h (by omega)).1;unfold cj at this;simpa using this⟩
  ·rintro⟨h1,h2,_⟩
   omega
end
set_option maxHeartbeats 8000000
noncomputable section
def K4:List (Nat×Spec):=[(96,sB),(144,Ny),(145,EB),(146,sC),(147,Nx),(148,Nw),(149,ZJ),(150,EA),(151,ZI),(152,Nv),(153,ZH),(154,Ez),(155,ZG)]
theorem qH:KS K4:=tc xf.sound<|tc FU.sound<|tc AA.sound<|tc ve.sound<|tc FT.sound<|tc FQ.sound<|tc Qf.sound<|tc Ay.sound<|tc Qe.sound<|tc FP.sound<|tc Qd.sound<|tc Ax.sound<|tc Qc.sound<|tn
attribute [go_sem] K4
def bH(b:Bool)(n:Int):Int:=if b then 0 else n
theorem oV(b:Bool)(n:Int)(hn:n≠0):(bH b n != 0)=!b:=by cases b<;>simp[bH,hn]
def kE(p:Pap):Bool:=cj p.id 1 999&&cj p.lv 1 30
def dd(r:Rec):Bool:=cj r.so 1 99999&&cj r.bo 1 99&&cj r.pa 1 999&&np r.lv&&dayB r.da&&pq r.kn r.un
def gA(r:Ret):Bool:=cj r.so 1 99999&&cj r.re 1 99999&&cj r.pe 1 99&&np r.lv&&cj r.lo 0 r.hi&&dayB r.hi&&pq r.kn r.un
def iU(s:Sig):Bool:=cj s.so 1 99999&&cj s.pe 0 99&&cj s.pa 1 999&&cj s.le 1 30&&dayB s.da&&pq s.kn s.un
@[go_sem] def P61:PSpec:=p1 iP (fun _=>True) (fun x=>vInt (bH (kE x) 20)) true
@[go_sem] def Zj:Spec:=P61.toSpec
theorem PE:aN Tryz.prog 61 P61:=by
 refine dQ (rs:=[.tmp 2]) Tryz.func61 Tryz.ntmps61 fun x hp hw=>?_
 simp only[iP,gJ]at hw |-
 have hΓ:=qH
 repeat refine sq ?_
 refine rs hΓ [1] [[1,0]] ?_
 repeat refine sq ?_
 refine rs hΓ [12] [] ?_
 repeat refine cB ?_
 refine av (fun hb=>?_) fun hb=>?_
 ·repeat refine cB ?_
  repeat refine sq ?_
  refine rs hΓ [2] [] ?_
  refine au ?_
  simp only[go_sem]
  all_goals first | rfl | (simp;done) | (grind [kE,bH];done)
 ·repeat refine cB ?_
  refine ax ?_
  repeat refine sq ?_
  refine rs hΓ [2] [] ?_
  refine au ?_
  simp only[go_sem]
  all_goals first | rfl | (simp;done) | (grind [kE,bH];done)
@[go_sem] def P62:PSpec:=p1 iP (fun _=>True) (fun x=>vInt (bH (kE x) 20)) true
@[go_sem] def Zi:Spec:=P62.toSpec
theorem PD:aN Tryz.prog 62 P62:=by
 refine dQ (rs:=[.tmp 2]) Tryz.func62 Tryz.ntmps62 fun x hp hw=>?_
 simp only[iP,gJ]at hw |-
 have hΓ:=qH
 repeat refine sq ?_
 refine rs hΓ [1] [[1,0]] ?_
 repeat refine sq ?_
 refine rs hΓ [12] [] ?_
 repeat refine cB ?_
 refine av (fun hb=>?_) fun hb=>?_
 ·repeat refine cB ?_
  repeat refine sq ?_
  refine rs hΓ [2] [] ?_
  refine au ?_
  simp only[go_sem]
  all_goals first | rfl | (simp;done) | (grind [kE,bH];done)
 ·repeat refine cB ?_
  refine ax ?_
  repeat refine sq ?_
  refine rs hΓ [2] [] ?_
  refine au ?_
  simp only[go_sem]
  all_goals first | rfl | (simp;done) | (grind [kE,bH];done)
@[go_sem] def P63:PSpec:=p1 iR (fun _=>True) (fun x=>vInt (bH (dd x) 21)) true
@[go_sem] def Zh:Spec:=P63.toSpec
theorem PC:aN Tryz.prog 63 P63:=by
 refine dQ (rs:=[.tmp 2]) Tryz.func63 Tryz.ntmps63 fun x hp hw=>?_
 simp only[iR,encR]at hw |-
 have hΓ:=qH
 repeat refine sq ?_
 refine rs hΓ [1] [[1,0]] ?_
 repeat refine sq ?_
 refine rs hΓ [38] [] ?_
 repeat refine cB ?_
 refine av (fun hb=>?_) fun hb=>?_
 ·repeat refine cB ?_
  repeat refine sq ?_
  refine rs hΓ [2] [] ?_
  refine au ?_
  simp only[go_sem]
  all_goals first | rfl | (simp;done) | (grind [dd,bH];done)
 ·repeat refine cB ?_
  refine ax ?_
  repeat refine sq ?_
  refine rs hΓ [2] [] ?_
  refine au ?_
  simp only[go_sem]
  all_goals first | rfl | (simp;done) | (grind [dd,bH];done)
@[go_sem] def P64:PSpec:=p1 iR (fun _=>True) (fun x=>vInt (bH (dd x) 21)) true
@[go_sem] def Zg:Spec:=P64.toSpec
theorem PB:aN Tryz.prog 64 P64:=by
 refine dQ (rs:=[.tmp 2]) Tryz.func64 Tryz.ntmps64 fun x hp hw=>?_
 simp only[iR,encR]at hw |-
 have hΓ:=qH
 repeat refine sq ?_
 refine rs hΓ [1] [[1,0]] ?_
 repeat refine sq ?_
 refine rs hΓ [38] [] ?_
 repeat refine cB ?_
 refine av (fun hb=>?_) fun hb=>?_
 ·repeat refine cB ?_
  repeat refine sq ?_
  refine rs hΓ [2] [] ?_
  refine au ?_
  simp only[go_sem]
  all_goals first | rfl | (simp;done) | (grind [dd,bH];done)
 ·repeat refine cB ?_
  refine ax ?_
  repeat refine sq ?_
  refine rs hΓ [2] [] ?_
  refine au ?_
  simp only[go_sem]
  all_goals first | rfl | (simp;done) | (grind [dd,bH];done)
@[go_sem] def P65:PSpec:=p1 iT (fun _=>True) (fun x=>vInt (bH (gA x) 22)) true
@[go_sem] def Zf:Spec:=P65.toSpec
theorem PA:aN Tryz.prog 65 P65:=by
 refine dQ (rs:=[.tmp 2]) Tryz.func65 Tryz.ntmps65 fun x hp hw=>?_
 simp only[iT,fv]at hw |-
 have hΓ:=qH
 repeat refine sq ?_
 refine rs hΓ [1] [[1,0]] ?_
 repeat refine sq ?_
 refine rs hΓ [49] [] ?_
 repeat refine cB ?_
 refine av (fun hb=>?_) fun hb=>?_
 ·repeat refine cB ?_
  repeat refine sq ?_
  refine rs hΓ [2] [] ?_
  refine au ?_
  simp only[go_sem]
  all_goals first | rfl | (simp;done) | (grind [gA,bH];done)
 ·repeat refine cB ?_
  refine ax ?_
  repeat refine sq ?_
  refine rs hΓ [2] [] ?_
  refine au ?_
  simp only[go_sem]
  all_goals first | rfl | (simp;done) | (grind [gA,bH];done)
@[go_sem] def P67:PSpec:=p1 iS (fun _=>True) (fun x=>vInt (bH (iU x) 23)) true
@[go_sem] def Nn:Spec:=P67.toSpec
theorem Py:aN Tryz.prog 67 P67:=by
 refine dQ (rs:=[.tmp 2]) Tryz.func67 Tryz.ntmps67 fun x hp hw=>?_
 simp only[iS,encS]at hw |-
 have hΓ:=qH
 repeat refine sq ?_
 refine rs hΓ [1] [[1,0]] ?_
 repeat refine sq ?_
 refine rs hΓ [38] [] ?_
 repeat refine cB ?_
 refine av (fun hb=>?_) fun hb=>?_
 ·repeat refine cB ?_
  repeat refine sq ?_
  refine rs hΓ [2] [] ?_
  refine au ?_
  simp only[go_sem]
  all_goals first | rfl | (simp;done) | (grind [iU,bH];done)
 ·repeat refine cB ?_
  refine ax ?_
  repeat refine sq ?_
  refine rs hΓ [2] [] ?_
  refine au ?_
  simp only[go_sem]
  all_goals first | rfl | (simp;done) | (grind [iU,bH];done)
@[go_sem] def P68:PSpec:=p1 iS (fun _=>True) (fun x=>vInt (bH (iU x) 23)) true
@[go_sem] def Nm:Spec:=P68.toSpec
theorem Px:aN Tryz.prog 68 P68:=by
 refine dQ (rs:=[.tmp 2]) Tryz.func68 Tryz.ntmps68 fun x hp hw=>?_
 simp only[iS,encS]at hw |-
 have hΓ:=qH
 repeat refine sq ?_
 refine rs hΓ [1] [[1,0]] ?_
 repeat refine sq ?_
 refine rs hΓ [38] [] ?_
 repeat refine cB ?_
 refine av (fun hb=>?_) fun hb=>?_
 ·repeat refine cB ?_
  repeat refine sq ?_
  refine rs hΓ [2] [] ?_
  refine au ?_
  simp only[go_sem]
  all_goals first | rfl | (simp;done) | (grind [iU,bH];done)
 ·repeat refine cB ?_
  refine ax ?_
  repeat refine sq ?_
  refine rs hΓ [2] [] ?_
  refine au ?_
  simp only[go_sem]
  all_goals first | rfl | (simp;done) | (grind [iU,bH];done)
@[go_sem] def P66:PSpec:=p1 iT (fun _=>True) (fun x=>vInt (bH (gA x) 22)) true
@[go_sem] def Ze:Spec:=P66.toSpec
theorem Pz:aN Tryz.prog 66 P66:=by
 refine dQ (rs:=[.tmp 2]) Tryz.func66 Tryz.ntmps66 fun x hp hw=>?_
 simp only[iT,fv]at hw |-
 have hΓ:=qH
 repeat refine sq ?_
 refine rs hΓ [1] [[1,0]] ?_
 repeat refine sq ?_
 refine rs hΓ [1,32] [[1,0]] ?_
 repeat refine cB ?_
 refine av (fun hb=>?_) fun hb=>?_
 ·repeat refine cB ?_
  repeat refine sq ?_
  refine rs hΓ [2] [] ?_
  refine au ?_
  simp only[go_sem]
  all_goals first | rfl | (simp;done) | (grind [bH,gA,cj,dayB];done)
 ·repeat refine cB ?_
  refine ax ?_
  repeat refine sq ?_
  refine rs hΓ [51] [] ?_
  repeat refine cB ?_
  refine av (fun hb=>?_) fun hb=>?_
  ·repeat refine cB ?_
   repeat refine sq ?_
   refine rs hΓ [2] [] ?_
   refine au ?_
   simp only[go_sem]
   all_goals first | rfl | (simp;done) | (grind [bH,gA,cj,dayB];done)
  ·repeat refine cB ?_
   refine ax ?_
   repeat refine sq ?_
   refine rs hΓ [2] [] ?_
   refine au ?_
   simp only[go_sem]
   all_goals first | rfl | (simp;done) | (grind [bH,gA,cj,dayB];done)
@[go_sem] def P110:PSpec:=p1 iP (fun _=>True) (fun x=>vInt x.id) true
@[go_sem] def ZR:Spec:=P110.toSpec
theorem Qp:aN Tryz.prog 110 P110:=by
 refine dQ (rs:=[.tmp 2]) Tryz.func110 Tryz.ntmps110 fun x hp hw=>?_
 simp only[iP,gJ]at hw |-
 have hΓ:=@fg Tryz.prog
 repeat refine sq ?_
 refine rs hΓ [1] [[1,0]] ?_
 repeat refine sq ?_
 refine rs hΓ [2] [] ?_
 refine au ?_
 simp only[go_sem]
 all_goals exact c9
@[go_sem] def P112:PSpec:=p1 iR (fun _=>True) (fun x=>vInt x.so) true
@[go_sem] def ZP:Spec:=P112.toSpec
theorem Qn:aN Tryz.prog 112 P112:=by
 refine dQ (rs:=[.tmp 2]) Tryz.func112 Tryz.ntmps112 fun x hp hw=>?_
 simp only[iR,encR]at hw |-
 have hΓ:=@fg Tryz.prog
 repeat refine sq ?_
 refine rs hΓ [1] [[1,0]] ?_
 repeat refine sq ?_
 refine rs hΓ [2] [] ?_
 refine au ?_
 simp only[go_sem]
 all_goals exact c9
@[go_sem] def P114:PSpec:=p1 iT (fun _=>True) (fun x=>vInt x.so) true
@[go_sem] def ZN:Spec:=P114.toSpec
theorem Ql:aN Tryz.prog 114 P114:=by
 refine dQ (rs:=[.tmp 2]) Tryz.func114 Tryz.ntmps114 fun x hp hw=>?_
 simp only[iT,fv]at hw |-
 have hΓ:=@fg Tryz.prog
 repeat refine sq ?_
 refine rs hΓ [1] [[1,0]] ?_
 repeat refine sq ?_
 refine rs hΓ [2] [] ?_
 refine au ?_
 simp only[go_sem]
 all_goals exact c9
@[go_sem] def P116:PSpec:=p1 iS (fun _=>True) (fun x=>vInt x.so) true
@[go_sem] def ZL:Spec:=P116.toSpec
theorem Qj:aN Tryz.prog 116 P116:=by
 refine dQ (rs:=[.tmp 2]) Tryz.func116 Tryz.ntmps116 fun x hp hw=>?_
 simp only[iS,encS]at hw |-
 have hΓ:=@fg Tryz.prog
 repeat refine sq ?_
 refine rs hΓ [1] [[1,0]] ?_
 repeat refine sq ?_
 refine rs hΓ [2] [] ?_
 refine au ?_
 simp only[go_sem]
 all_goals exact c9
end
set_option maxHeartbeats 8000000
noncomputable section
def K5:List (Nat×Spec):=[(61,Zj),(63,Zh),(65,Zf),(67,Nn),(110,ZR),(112,ZP),(114,ZN),(116,ZL)]
theorem zU:KS K5:=tc PE.sound<|tc PC.sound<|tc PA.sound<|tc Py.sound<|tc Qp.sound<|tc Qn.sound<|tc Ql.sound<|tc Qj.sound<|tn
attribute [go_sem] K5
def jW{α:Type}(fO:α->Bool)(num:α->Int)(l:List α)(n:Nat):Prop:=∀ j (h:j<l.length),j<n->fO l[j]=true/\(0<j->num l[j-1] <num l[j])
open Classical in
def jf{α:Type}(fO:α->Bool)(num:α->Int)(l:List α):Bool:=decide (jW fO num l l.length)
theorem gb{α:Type}{fO:α->Bool}{num:α->Int}{l:List α}:jf fO num l=true↔jW fO num l l.length:=by unfold jf;exact @decide_eq_true_iff _ (Classical.propDecidable _)
theorem pJ{α:Type}{fO:α->Bool}{num:α->Int}{l:List α}:jW fO num l 0:=fun j _ h=>by omega
theorem pK{α:Type}{fO:α->Bool}{num:α->Int}{l:List α}{i:Nat}(h:jW fO num l i)(hi:i<l.length)(hc:fO l[i]=true/\(0<i->num l[i-1] <num l[i])):jW fO num l (i+1):=by
 intro j hj c6
 rcases Nat.lt_succ_iff_lt_or_eq.1 c6 with h1 | rfl
 ·exact h j hj h1
 ·exact hc
@[go_sem] def P109:PSpec:=p4 (eW iP) iI (iF 61) (iF 110) (fun _ _ _ _=>True) (fun l m _ _=>.bool (jf kE Pap.id l&&decide ((l.length:Int)<=m))) true
@[go_sem] def ZS:Spec:=P109.toSpec
theorem Qr:aN Tryz.prog 109 P109:=by
 refine wY (rs:=[.tmp 8]) Tryz.func109 Tryz.ntmps109 fun l m _ _ hp hw=>?_
 have hP:=dL
 simp only[iF,iI,iP,eW,iC,gJ]at hw |-
 have hΓ:=zU
 have hl:l.length<=maxLen:=by have:=hw.1.1;simpa using this
 repeat refine sq ?_
 refine rs hΓ [0,1,2,3] [] ?_
 repeat refine sq ?_
 refine rs hΓ [0,1,2,3,11,12,13] [] ?_
 repeat refine sq ?_
 refine aH ?_
 repeat refine sq ?_
 refine bB (fun s:Nat=>[(13,⟨true,.v (vInt s)⟩)]) (fun s=>[]) (fun s=>s<=l.length/\jW kE Pap.id l s) (fun s=>l.length-s) 0 ?_ ?_ ?_ ?_
 ·exact⟨Nat.zero_le _,pJ⟩
 ·rfl
 ·rfl
 rintro i ⟨hi,hR⟩
 simp only[go_sem]
 repeat refine sq ?_
 refine rs hΓ [0,1,2,3,11,12,13,14] [] ?_
 repeat refine sq ?_
 refine av (fun hb=>?_) fun hb=>?_
 ·have ab:i<l.length:=by simpa using hb
  have an:(i:Int)<l.length:=by omega
  clear hb
  obtain⟨p,hp,fW,bN⟩:=n8 ab hl
  repeat refine sq ?_
  refine ax ?_
  repeat refine sq ?_
  refine aH ?_
  repeat refine sq ?_
  refine rx hΓ [0,1,2,3,9,10,11,12,13] [[10,0]] (fun K' hK=>by simp only[go_sem,ae ab,ah,ai,an];exact fn) ?_
  repeat refine sq ?_
  refine dx hΓ hP [[],[],[0,1],[0,1,2],u4,u5,u6,u7,u8,u8,u8,[0,1,2,3,4,5,6,7,10],[0,1,2,3,4,5,6,7,9,10,11],[0,1,2,3,4,5,6,7,9,10,11,12],jP,u8,u8,jk,ie,lk,gz] [0,1,2,3,11,12,13,38] [] (by kernel_rfl) (fun K' hK=>by simp only[go_sem,ae ab,ah,ai,an,hp,ae fW,fun b=>oV b 20 (by decide)];(repeat (refine⟨by first | exact ob | (intro h;have:=bN (by simp_all);simp_all;done),?_⟩));exact e8) ?_
  repeat refine sq ?_
  refine av (fun hb=>?_) fun hb=>?_
  ·repeat refine sq ?_
   have dG:jf kE Pap.id l=false:=by
    rw[sw gb]
    intro h
    obtain⟨h1,h2⟩:=h i ab ab
    simp only[h1,Bool.not_true,Bool.false_or,Bool.and_eq_true,decide_eq_true_eq]at hb
    obtain⟨e,_⟩:=bN (by omega)
    subst e
    have :=h2 (by omega)
    have :=hb.2
    omega
   repeat refine sq ?_
   refine rx hΓ [8] [] (fun K' hK=>by simp only[go_sem,ae ab,ah,ai,an];exact fn) ?_
   refine au ?_
   simp only[go_sem]
   rw[dG];rfl
  ·repeat refine sq ?_
   have hn:kE l[i]=true/\(0<i->Pap.id l[i-1] <Pap.id l[i]):=by
    simp only[Bool.or_eq_false_iff,Bool.not_eq_false',Bool.and_eq_false_iff,decide_eq_false_iff_not]at hb
    refine⟨hb.1,fun h=>?_⟩
    obtain⟨e,_⟩:=bN h
    subst e
    omega
   refine ax ?_
   refine bE ?_
   simp only[go_sem]
   refine kp [0,1,2,3,11,12,13] [] ?_
   repeat refine sq ?_
   refine aM hΓ fun K' hK=>?_
   simp only[go_sem,ae ab,ah,ai,an]
   repeat (refine⟨ob,?_⟩)
   refine hK _ ?_
   clear K' hK
   simp only[go_sem]
   refine⟨i+1,⟨ab,?_⟩,by(show l.length-(i+1)<l.length-i;omega),?_⟩
   ·exact pK hR ab hn
   refine aY [0,1,2,3,11,12,13] [] ?_ ?_<;>simp only[go_sem,aT ab hl,aU]
 ·have be:i=l.length:=by
   have :¬ (i:Int)<l.length:=by simpa using hb
   omega
  clear hb
  subst be
  repeat refine sq ?_
  refine bp ?_
  simp only[go_sem]
  refine kp [0,1] [] ?_
  repeat refine sq ?_
  refine rs hΓ [8] [] ?_
  refine au ?_
  simp only[go_sem]
  rw[gb.2 hR];rfl
@[go_sem] def P111:PSpec:=p4 (eW iR) iI (iF 63) (iF 112) (fun _ _ _ _=>True) (fun l m _ _=>.bool (jf dd Rec.so l&&decide ((l.length:Int)<=m))) true
@[go_sem] def ZQ:Spec:=P111.toSpec
theorem Qo:aN Tryz.prog 111 P111:=by
 refine wY (rs:=[.tmp 8]) Tryz.func111 Tryz.ntmps111 fun l m _ _ hp hw=>?_
 have hP:=dL
 simp only[iF,iI,iR,eW,iC,encR]at hw |-
 have hΓ:=zU
 have hl:l.length<=maxLen:=by have:=hw.1.1;simpa using this
 repeat refine sq ?_
 refine rs hΓ [0,1,2,3] [] ?_
 repeat refine sq ?_
 refine rs hΓ [0,1,2,3,11,12,13] [] ?_
 repeat refine sq ?_
 refine aH ?_
 repeat refine sq ?_
 refine bB (fun s:Nat=>[(13,⟨true,.v (vInt s)⟩)]) (fun s=>[]) (fun s=>s<=l.length/\jW dd Rec.so l s) (fun s=>l.length-s) 0 ?_ ?_ ?_ ?_
 ·exact⟨Nat.zero_le _,pJ⟩
 ·rfl
 ·rfl
 rintro i ⟨hi,hR⟩
 simp only[go_sem]
 repeat refine sq ?_
 refine rs hΓ [0,1,2,3,11,12,13,14] [] ?_
 repeat refine sq ?_
 refine av (fun hb=>?_) fun hb=>?_
 ·have ab:i<l.length:=by simpa using hb
  have an:(i:Int)<l.length:=by omega
  clear hb
  obtain⟨p,hp,fW,bN⟩:=n8 ab hl
  repeat refine sq ?_
  refine ax ?_
  repeat refine sq ?_
  refine aH ?_
  repeat refine sq ?_
  refine rx hΓ [0,1,2,3,9,10,11,12,13] [[10,0]] (fun K' hK=>by simp only[go_sem,ae ab,ah,ai,an];exact fn) ?_
  repeat refine sq ?_
  refine dx hΓ hP [[],[],[0,1],[0,1,2],u4,u5,u6,u7,u8,u8,u8,[0,1,2,3,4,5,6,7,10],[0,1,2,3,4,5,6,7,9,10,11],[0,1,2,3,4,5,6,7,9,10,11,12],jP,u8,u8,jk,ie,lk,gz] [0,1,2,3,11,12,13,38] [] (by kernel_rfl) (fun K' hK=>by simp only[go_sem,ae ab,ah,ai,an,hp,ae fW,fun b=>oV b 21 (by decide)];(repeat (refine⟨by first | exact ob | (intro h;have:=bN (by simp_all);simp_all;done),?_⟩));exact e8) ?_
  repeat refine sq ?_
  refine av (fun hb=>?_) fun hb=>?_
  ·repeat refine sq ?_
   have dG:jf dd Rec.so l=false:=by
    rw[sw gb]
    intro h
    obtain⟨h1,h2⟩:=h i ab ab
    simp only[h1,Bool.not_true,Bool.false_or,Bool.and_eq_true,decide_eq_true_eq]at hb
    obtain⟨e,_⟩:=bN (by omega)
    subst e
    have :=h2 (by omega)
    have :=hb.2
    omega
   repeat refine sq ?_
   refine rx hΓ [8] [] (fun K' hK=>by simp only[go_sem,ae ab,ah,ai,an];exact fn) ?_
   refine au ?_
   simp only[go_sem]
   rw[dG];rfl
  ·repeat refine sq ?_
   have hn:dd l[i]=true/\(0<i->Rec.so l[i-1] <Rec.so l[i]):=by
    simp only[Bool.or_eq_false_iff,Bool.not_eq_false',Bool.and_eq_false_iff,decide_eq_false_iff_not]at hb
    refine⟨hb.1,fun h=>?_⟩
    obtain⟨e,_⟩:=bN h
    subst e
    omega
   refine ax ?_
   refine bE ?_
   simp only[go_sem]
   refine kp [0,1,2,3,11,12,13] [] ?_
   repeat refine sq ?_
   refine aM hΓ fun K' hK=>?_
   simp only[go_sem,ae ab,ah,ai,an]
   repeat (refine⟨ob,?_⟩)
   refine hK _ ?_
   clear K' hK
   simp only[go_sem]
   refine⟨i+1,⟨ab,?_⟩,by(show l.length-(i+1)<l.length-i;omega),?_⟩
   ·exact pK hR ab hn
   refine aY [0,1,2,3,11,12,13] [] ?_ ?_<;>simp only[go_sem,aT ab hl,aU]
 ·have be:i=l.length:=by
   have :¬ (i:Int)<l.length:=by simpa using hb
   omega
  clear hb
  subst be
  repeat refine sq ?_
  refine bp ?_
  simp only[go_sem]
  refine kp [0,1] [] ?_
  repeat refine sq ?_
  refine rs hΓ [8] [] ?_
  refine au ?_
  simp only[go_sem]
  rw[gb.2 hR];rfl
@[go_sem] def P113:PSpec:=p4 (eW iT) iI (iF 65) (iF 114) (fun _ _ _ _=>True) (fun l m _ _=>.bool (jf gA Ret.so l&&decide ((l.length:Int)<=m))) true
@[go_sem] def ZO:Spec:=P113.toSpec
theorem Qm:aN Tryz.prog 113 P113:=by
 refine wY (rs:=[.tmp 8]) Tryz.func113 Tryz.ntmps113 fun l m _ _ hp hw=>?_
 have hP:=dL
 simp only[iF,iI,eW,iT,iC,fv]at hw |-
 have hΓ:=zU
 have hl:l.length<=maxLen:=by have:=hw.1.1;simpa using this
 repeat refine sq ?_
 refine rs hΓ [0,1,2,3] [] ?_
 repeat refine sq ?_
 refine rs hΓ [0,1,2,3,11,12,13] [] ?_
 repeat refine sq ?_
 refine aH ?_
 repeat refine sq ?_
 refine bB (fun s:Nat=>[(13,⟨true,.v (vInt s)⟩)]) (fun s=>[]) (fun s=>s<=l.length/\jW gA Ret.so l s) (fun s=>l.length-s) 0 ?_ ?_ ?_ ?_
 ·exact⟨Nat.zero_le _,pJ⟩
 ·rfl
 ·rfl
 rintro i ⟨hi,hR⟩
 simp only[go_sem]
 repeat refine sq ?_
 refine rs hΓ [0,1,2,3,11,12,13,14] [] ?_
 repeat refine sq ?_
 refine av (fun hb=>?_) fun hb=>?_
 ·have ab:i<l.length:=by simpa using hb
  have an:(i:Int)<l.length:=by omega
  clear hb
  obtain⟨p,hp,fW,bN⟩:=n8 ab hl
  repeat refine sq ?_
  refine ax ?_
  repeat refine sq ?_
  refine aH ?_
  repeat refine sq ?_
  refine rx hΓ [0,1,2,3,9,10,11,12,13] [[10,0]] (fun K' hK=>by simp only[go_sem,ae ab,ah,ai,an];exact fn) ?_
  repeat refine sq ?_
  refine dx hΓ hP [[],[],[0,1],[0,1,2],u4,u5,u6,u7,u8,u8,u8,[0,1,2,3,4,5,6,7,10],[0,1,2,3,4,5,6,7,9,10,11],[0,1,2,3,4,5,6,7,9,10,11,12],jP,u8,u8,jk,ie,lk,gz] [0,1,2,3,11,12,13,38] [] (by kernel_rfl) (fun K' hK=>by simp only[go_sem,ae ab,ah,ai,an,hp,ae fW,fun b=>oV b 22 (by decide)];(repeat (refine⟨by first | exact ob | (intro h;have:=bN (by simp_all);simp_all;done),?_⟩));exact e8) ?_
  repeat refine sq ?_
  refine av (fun hb=>?_) fun hb=>?_
  ·repeat refine sq ?_
   have dG:jf gA Ret.so l=false:=by
    rw[sw gb]
    intro h
    obtain⟨h1,h2⟩:=h i ab ab
    simp only[h1,Bool.not_true,Bool.false_or,Bool.and_eq_true,decide_eq_true_eq]at hb
    obtain⟨e,_⟩:=bN (by omega)
    subst e
    have :=h2 (by omega)
    have :=hb.2
    omega
   repeat refine sq ?_
   refine rx hΓ [8] [] (fun K' hK=>by simp only[go_sem,ae ab,ah,ai,an];exact fn) ?_
   refine au ?_
   simp only[go_sem]
   rw[dG];rfl
  ·repeat refine sq ?_
   have hn:gA l[i]=true/\(0<i->Ret.so l[i-1] <Ret.so l[i]):=by
    simp only[Bool.or_eq_false_iff,Bool.not_eq_false',Bool.and_eq_false_iff,decide_eq_false_iff_not]at hb
    refine⟨hb.1,fun h=>?_⟩
    obtain⟨e,_⟩:=bN h
    subst e
    omega
   refine ax ?_
   refine bE ?_
   simp only[go_sem]
   refine kp [0,1,2,3,11,12,13] [] ?_
   repeat refine sq ?_
   refine aM hΓ fun K' hK=>?_
   simp only[go_sem,ae ab,ah,ai,an]
   repeat (refine⟨ob,?_⟩)
   refine hK _ ?_
   clear K' hK
   simp only[go_sem]
   refine⟨i+1,⟨ab,?_⟩,by(show l.length-(i+1)<l.length-i;omega),?_⟩
   ·exact pK hR ab hn
   refine aY [0,1,2,3,11,12,13] [] ?_ ?_<;>simp only[go_sem,aT ab hl,aU]
 ·have be:i=l.length:=by
   have :¬ (i:Int)<l.length:=by simpa using hb
   omega
  clear hb
  subst be
  repeat refine sq ?_
  refine bp ?_
  simp only[go_sem]
  refine kp [0,1] [] ?_
  repeat refine sq ?_
  refine rs hΓ [8] [] ?_
  refine au ?_
  simp only[go_sem]
  rw[gb.2 hR];rfl
@[go_sem] def P115:PSpec:=p4 (eW iS) iI (iF 67) (iF 116) (fun _ _ _ _=>True) (fun l m _ _=>.bool (jf iU Sig.so l&&decide ((l.length:Int)<=m))) true
@[go_sem] def ZM:Spec:=P115.toSpec
theorem Qk:aN Tryz.prog 115 P115:=by
 refine wY (rs:=[.tmp 8]) Tryz.func115 Tryz.ntmps115 fun l m _ _ hp hw=>?_
 have hP:=dL
 simp only[iF,iI,iS,eW,iC,encS]at hw |-
 have hΓ:=zU
 have hl:l.length<=maxLen:=by have:=hw.1.1;simpa using this
 repeat refine sq ?_
 refine rs hΓ [0,1,2,3] [] ?_
 repeat refine sq ?_
 refine rs hΓ [0,1,2,3,11,12,13] [] ?_
 repeat refine sq ?_
 refine aH ?_
 repeat refine sq ?_
 refine bB (fun s:Nat=>[(13,⟨true,.v (vInt s)⟩)]) (fun s=>[]) (fun s=>s<=l.length/\jW iU Sig.so l s) (fun s=>l.length-s) 0 ?_ ?_ ?_ ?_
 ·exact⟨Nat.zero_le _,pJ⟩
 ·rfl
 ·rfl
 rintro i ⟨hi,hR⟩
 simp only[go_sem]
 repeat refine sq ?_
 refine rs hΓ [0,1,2,3,11,12,13,14] [] ?_
 repeat refine sq ?_
 refine av (fun hb=>?_) fun hb=>?_
 ·have ab:i<l.length:=by simpa using hb
  have an:(i:Int)<l.length:=by omega
  clear hb
  obtain⟨p,hp,fW,bN⟩:=n8 ab hl
  repeat refine sq ?_
  refine ax ?_
  repeat refine sq ?_
  refine aH ?_
  repeat refine sq ?_
  refine rx hΓ [0,1,2,3,9,10,11,12,13] [[10,0]] (fun K' hK=>by simp only[go_sem,ae ab,ah,ai,an];exact fn) ?_
  repeat refine sq ?_
  refine dx hΓ hP [[],[],[0,1],[0,1,2],u4,u5,u6,u7,u8,u8,u8,[0,1,2,3,4,5,6,7,10],[0,1,2,3,4,5,6,7,9,10,11],[0,1,2,3,4,5,6,7,9,10,11,12],jP,u8,u8,jk,ie,lk,gz] [0,1,2,3,11,12,13,38] [] (by kernel_rfl) (fun K' hK=>by simp only[go_sem,ae ab,ah,ai,an,hp,ae fW,fun b=>oV b 23 (by decide)];(repeat (refine⟨by first | exact ob | (intro h;have:=bN (by simp_all);simp_all;done),?_⟩));exact e8) ?_
  repeat refine sq ?_
  refine av (fun hb=>?_) fun hb=>?_
  ·repeat refine sq ?_
   have dG:jf iU Sig.so l=false:=by
    rw[sw gb]
    intro h
    obtain⟨h1,h2⟩:=h i ab ab
    simp only[h1,Bool.not_true,Bool.false_or,Bool.and_eq_true,decide_eq_true_eq]at hb
    obtain⟨e,_⟩:=bN (by omega)
    subst e
    have :=h2 (by omega)
    have :=hb.2
    omega
   repeat refine sq ?_
   refine rx hΓ [8] [] (fun K' hK=>by simp only[go_sem,ae ab,ah,ai,an];exact fn) ?_
   refine au ?_
   simp only[go_sem]
   rw[dG];rfl
  ·repeat refine sq ?_
   have hn:iU l[i]=true/\(0<i->Sig.so l[i-1] <Sig.so l[i]):=by
    simp only[Bool.or_eq_false_iff,Bool.not_eq_false',Bool.and_eq_false_iff,decide_eq_false_iff_not]at hb
    refine⟨hb.1,fun h=>?_⟩
    obtain⟨e,_⟩:=bN h
    subst e
    omega
   refine ax ?_
   refine bE ?_
   simp only[go_sem]
   refine kp [0,1,2,3,11,12,13] [] ?_
   repeat refine sq ?_
   refine aM hΓ fun K' hK=>?_
   simp only[go_sem,ae ab,ah,ai,an]
   repeat (refine⟨ob,?_⟩)
   refine hK _ ?_
   clear K' hK
   simp only[go_sem]
   refine⟨i+1,⟨ab,?_⟩,by(show l.length-(i+1)<l.length-i;omega),?_⟩
   ·exact pK hR ab hn
   refine aY [0,1,2,3,11,12,13] [] ?_ ?_<;>simp only[go_sem,aT ab hl,aU]
 ·have be:i=l.length:=by
   have :¬ (i:Int)<l.length:=by simpa using hb
   omega
  clear hb
  subst be
  repeat refine sq ?_
  refine bp ?_
  simp only[go_sem]
  refine kp [0,1] [] ?_
  repeat refine sq ?_
  refine rs hΓ [8] [] ?_
  refine au ?_
  simp only[go_sem]
  rw[gb.2 hR];rfl
end
set_option maxHeartbeats 8000000
noncomputable section
theorem RU{i j:Nat}(hi:i<=maxLen)(hj:j<=maxLen):IntKind.i64.wrap ((IntKind.u64.wrap (IntKind.i64.wrap ((i:Int)+(j:Int)))).fdiv (2 ^ min (Int.toNat 1) 64))=(((i+j) / 2:Nat):Int):=by
 unfold maxLen at hi hj
 have h1:min (Int.toNat 1) 64=1:=by decide
 have h2:IntKind.u64.wrap (IntKind.i64.wrap ((i:Int)+(j:Int)))=((i+j:Nat):Int):=by
  rw[IntKind.wrap_u64,IntKind.wrap_i64]
  omega
 rw[h1,h2]
 have h3:(((i+j:Nat):Int)).fdiv (2 ^ 1)=(((i+j) / 2:Nat):Int):=by
  rw[Int.fdiv_eq_ediv_of_nonneg _ (by decide)]
  omega
 rw[h3,wrap_i64 (by omega) (by omega)]
theorem Mk{a b:Int}:lK a b<0↔a<b:=by
 unfold lK
 split
 ·simp[*]
 ·split<;>simp<;>omega
theorem XL{a b:Int}:(lK a b==0)=(a==b):=by
 unfold lK
 split
 ·have:a≠b:=by omega
  simp[this]
 ·split
  ·have:a≠b:=by omega
   simp[this]
  ·have:a=b:=by omega
   simp[this]
def srt{α:Type}(num:α->Int)(l:List α):Prop:=∀ i j (hi:i<l.length) (hj:j<l.length),i<j->num l[i] <num l[j]
theorem OB{α:Type}{num:α->Int}{l:List α}(h:∀ j (h:j<l.length),0<j->num l[j-1] <num l[j]):srt num l:=by
 intro i j hi hj bD
 induction j with
 |zero=>omega
 |succ j ih=>
  have h1:=h (j+1) hj (by omega)
  simp only[Nat.add_sub_cancel]at h1
  rcases Nat.lt_succ_iff_lt_or_eq.1 bD with h2 | rfl
  ·have:=ih (by omega) h2;omega
  ·exact h1
theorem A3{α:Type}{fO:α->Bool}{num:α->Int}{l:List α}(h:jW fO num l l.length):srt num l:=OB fun j hj h0=>(h j hj hj).2 h0
def rh{α:Type}(num:α->Int)(l:List α)(x:Int):Nat:=(l.takeWhile fun y=>decide (num y<x)).length
def oL{α:Type}(num:α->Int)(l:List α)(x:Int):Bool:=l.any fun y=>num y==x
theorem Bn{α:Type}{num:α->Int}{l:List α}{x:Int}{i:Nat}(hi:i<=l.length)(h1:∀ k (h:k<l.length),k<i->num l[k] <x)(h2:∀ k (h:k<l.length),i<=k->x<=num l[k]):rh num l x=i:=by
 unfold rh
 induction l generalizing i with
 |nil=>simp at hi |-;omega
 |cons a r ih=>
  cases i with
  |zero=>
   have :=h2 0 (by simp) (Nat.le_refl _)
   simp only[List.getElem_cons_zero]at this
   have hd:decide (num a<x)=false:=by simp;omega
   simp[hd]
  |succ i=>
   have :=h1 0 (by simp) (by omega)
   simp only[List.getElem_cons_zero]at this
   have hd:decide (num a<x)=true:=by simp;omega
   simp only[List.takeWhile_cons,hd,if_true,List.length_cons]
   rw[ih (by simpa using hi) (fun k hk eA=>by have:=h1 (k+1) (by simpa using hk) (by omega);simpa using this) (fun k hk eA=>by have:=h2 (k+1) (by simpa using hk) (by omega);simpa using this)]
theorem yy{α:Type}{num:α->Int}{l:List α}{x:Int}:oL num l x=true↔∃ k,∃ (h:k<l.length),num l[k]=x:=by
 unfold oL
 rw[List.any_eq_true]
 constructor
 ·rintro⟨y,hy,h⟩
  obtain⟨k,hk,rfl⟩:=List.getElem_of_mem hy
  exact⟨k,hk,by simpa using h⟩
 ·rintro⟨k,hk,h⟩
  exact⟨_,List.getElem_mem hk,by simpa using h⟩
theorem V1{α:Type}{num:α->Int}{l:List α}{x:Int}{i:Nat}(hs:srt num l)(hi:i<l.length)(h1:∀ k (h:k<l.length),k<i->num l[k] <x)(h2:∀ k (h:k<l.length),i<=k->x<=num l[k]):oL num l x=(num l[i]==x):=by
 rw[Bool.eq_iff_iff,yy]
 simp only[beq_iff_eq]
 constructor
 ·rintro⟨k,hk,e⟩
  rcases Nat.lt_trichotomy k i with h3 | h3 | h3
  ·have:=h1 k hk h3;omega
  ·subst h3;exact e
  ·have:=hs i k hi hk h3
   have :=h2 i hi (Nat.le_refl _)
   omega
 ·intro e
  exact⟨i,hi,e⟩
theorem V0{α:Type}{num:α->Int}{l:List α}{x:Int}(h1:∀ k (h:k<l.length),num l[k] <x):oL num l x=false:=by
 rw[Bool.eq_false_iff]
 intro h
 obtain⟨k,hk,e⟩:=yy.1 h
 have :=h1 k hk
 omega
def K6a:List (Nat×Spec):=[(140,ZK)]
theorem aah:KS K6a:=tc Qg.sound<|tn
attribute [go_sem] K6a
@[go_sem] def P169:PSpec:=p2 iP iI (fun _ _=>True) (fun p x=>vInt (lK p.id x)) true
@[go_sem] def ZD:Spec:=P169.toSpec
theorem P4:aN Tryz.prog 169 P169:=by
 refine cX (rs:=[.tmp 4]) Tryz.func169 Tryz.ntmps169 fun p x hp hw=>?_
 simp only[iI,iP,gJ]at hw |-
 have hΓ:=aah
 repeat refine sq ?_
 refine rs hΓ [1,2] [[2,0]] ?_
 repeat refine sq ?_
 refine rs hΓ [4] [] ?_
 refine au ?_
 simp only[go_sem]
 all_goals exact c9
def K6b:List (Nat×Spec):=[(169,ZD)]
theorem aag:KS K6b:=tc P4.sound<|tn
attribute [go_sem] K6b
@[go_sem] def P168:PSpec:=p3 (eW iP) iI (iF 169) (fun l _ _=>srt Pap.id l) (fun l x _=>.tup [vInt (rh Pap.id l x),.bool (oL Pap.id l x)]) true
@[go_sem] def ZE:Spec:=P168.toSpec
set_option maxRecDepth 10000 in
theorem P5:aN Tryz.prog 168 P168:=by
 refine gO (rs:=[.tmp 6,.tmp 7]) Tryz.func168 Tryz.ntmps168 fun l x _ hp hw=>?_
 simp only[iF,iI,iP,eW,iC,gJ]at hw |-
 have hΓ:=aag
 have hs:=hp
 have hl:l.length<=maxLen:=by have:=hw.1.1;simpa using this
 repeat refine sq ?_
 refine rs hΓ [0,1,2] [] ?_
 repeat refine sq ?_
 refine rs hΓ [0,1,2,8] [] ?_
 repeat refine sq ?_
 refine rs hΓ [0,1,2,8,9,10] [] ?_
 repeat refine sq ?_
 refine aH ?_
 repeat refine sq ?_
 refine bB (fun ij:Nat×Nat=>[(9,⟨true,.v (vInt ij.1)⟩),(10,⟨true,.v (vInt ij.2)⟩)]) (fun i=>[]) (fun ij=>ij.1<=ij.2/\ij.2<=l.length/\(∀ k (h:k<l.length),k<ij.1->Pap.id l[k] <x)/\(∀ k (h:k<l.length),ij.2<=k->x<=Pap.id l[k])) (fun ij=>ij.2-ij.1) (0,l.length) ?_ ?_ ?_ ?_
 ·exact⟨Nat.zero_le _,Nat.le_refl _,fun k h hk=>by omega,fun k h hk=>by omega⟩
 ·rfl
 ·rfl
 rintro⟨i,j⟩ ⟨bD,iz,ey,gr⟩
 simp only[go_sem]
 repeat refine sq ?_
 refine rs hΓ [0,1,2,8,9,10,17] [] ?_
 repeat refine sq ?_
 refine av (fun hb=>?_) fun hb=>?_
 ·have ab:i<j:=by simpa using hb
  repeat refine sq ?_
  refine ax ?_
  repeat refine sq ?_
  refine aH ?_
  repeat refine sq ?_
  refine rx hΓ [0,1,2,8,9,10,11] [] (fun K' hK=>by simp only[go_sem,RU (show i<=maxLen by omega) (show j<=maxLen by omega)];exact fn) ?_
  obtain⟨h,hh⟩:∃ h,h=(i+j) / 2:=⟨_,rfl⟩
  rw[<-hh]
  have h1:i<=h:=by omega
  have h2:h<j:=by omega
  have h3:h<l.length:=by omega
  have WD:(h:Int)<l.length:=by omega
  repeat refine sq ?_
  refine rx hΓ [0,1,2,8,9,10,11,31] [] (fun K' hK=>by simp only[go_sem,ae h3,ah,ai,WD];exact fn) ?_
  repeat refine sq ?_
  refine av (fun hb=>?_) fun hb=>?_
  ·have hx:Pap.id l[h] <x:=by simpa[Mk]using hb
   repeat refine sq ?_
   refine aM hΓ fun K' hK=>?_
   simp only[go_sem]
   repeat (refine⟨ob,?_⟩)
   refine hK _ ?_
   clear K' hK
   simp only[go_sem]
   refine⟨(h+1,j),⟨by omega,iz,fun k hk Cv=>?_,gr⟩,by omega,?_⟩
   ·rcases Nat.lt_succ_iff_lt_or_eq.1 Cv with h5 | h5
    ·have:=hs k h hk h3 h5;omega
    ·subst h5;exact hx
   ·refine aY [0,1,2,8,9,10] [] ?_ ?_<;>simp only[go_sem,aT h3 hl,aU]
  ·have hx:x<=Pap.id l[h]:=by
     have :¬ Pap.id l[h] <x:=by simpa[Mk]using hb
     omega
   repeat refine sq ?_
   refine aM hΓ fun K' hK=>?_
   simp only[go_sem]
   repeat (refine⟨ob,?_⟩)
   refine hK _ ?_
   clear K' hK
   simp only[go_sem]
   refine⟨(i,h),⟨by omega,by omega,ey,fun k hk Cv=>?_⟩,by omega,?_⟩
   ·rcases Nat.lt_or_eq_of_le Cv with h5 | h5
    ·have:=hs h k h3 hk h5;omega
    ·subst h5;exact hx
   ·refine aY [0,1,2,8,9,10] [] ?_ ?_<;>simp only[go_sem]
 ·have he:i=j:=by
    have :¬ (i:Int)<j:=by simpa using hb
    omega
  subst he
  repeat refine sq ?_
  refine bp ?_
  simp only[go_sem]
  refine kp [0,1,2,8,9] [] ?_
  by_cases lD:i<l.length
  ·have Cz:(i:Int)<l.length:=by omega
   repeat refine sq ?_
   refine rx hΓ [6,7] [] (fun K' hK=>by simp only[go_sem,ae lD,ah,ai,Cz];exact fn) ?_
   refine au ?_
   simp only[go_sem]
   rw[Bn iz ey gr,V1 hs lD ey gr]
   simp[XL]
  ·have i7:i=l.length:=by omega
   have Cz:¬ (i:Int)<l.length:=by omega
   obtain⟨k0,n0,VJ⟩:∃ k0 n0,(l.map gJ).getD i default=.int k0 n0:=by
    refine⟨default,default,?_⟩
    rw[List.getD_eq_getElem?_getD,List.getElem?_eq_none (by simp;omega)]
    rfl
   repeat refine sq ?_
   refine rx hΓ [6,7] [] (fun K' hK=>by simp only[go_sem,VJ,ah,ai,Cz];exact fn) ?_
   refine au ?_
   simp only[go_sem]
   rw[Bn iz ey gr,V0 fun k hk=>ey k hk (by omega)]
   simp
def ir(l:List Pap)(id:Int):Int:=match l.find? fun p=>p.id==id with
 |some p=>p.lv
 |none=>0
theorem HK{l:List Pap}{x:Int}{i:Nat}(hi:i<l.length)(h:l[i].id=x)(h1:∀ k (h:k<l.length),k<i->l[k].id≠x):ir l x=l[i].lv:=by
 unfold ir
 have :(l.find? fun p=>p.id==x)=some l[i]:=by
  rw[List.find?_eq_some_iff_getElem]
  exact⟨by simpa using h,i,hi,rfl,fun j hj=>by simpa using h1 j (by omega) hj⟩
 rw[this]
theorem HJ{l:List Pap}{x:Int}(h1:∀ k (h:k<l.length),l[k].id≠x):ir l x=0:=by
 unfold ir
 have :(l.find? fun p=>p.id==x)=none:=by
  rw[List.find?_eq_none]
  intro p hp
  obtain⟨k,hk,rfl⟩:=List.getElem_of_mem hp
  simpa using h1 k hk
 rw[this]
theorem RZ{l:List Pap}{x:Int}(hs:srt Pap.id l)(h:oL Pap.id l x=true):∃ (h:rh Pap.id l x<l.length),l[rh Pap.id l x].lv=ir l x:=by
 obtain⟨k,hk,e⟩:=yy.1 h
 have e2:rh Pap.id l x=k:=Bn (Nat.le_of_lt hk) (fun j hj mA=>by have:=hs j k hj hk mA;omega) (fun j hj mA=>by
  rcases Nat.lt_or_eq_of_le mA with h | rfl
  ·have:=hs k j hk hj h;omega
  ·omega)
 refine⟨e2▸hk,?_⟩
 rw[HK hk e fun j hj mA=>by have:=hs j k hj hk mA;omega]
 congr
theorem RY{l:List Pap}{x:Int}(h:oL Pap.id l x=false):ir l x=0:=HJ fun k hk e=>by
 rw[yy.2 ⟨k,hk,e⟩]at h;cases h
def K6:List (Nat×Spec):=[(168,ZE)]
theorem aai:KS K6:=tc P5.sound<|tn
attribute [go_sem] K6
@[go_sem] def P79:PSpec:=p2 oz iI (fun l _=>srt Pap.id l.ps) (fun l x=>vInt (ir l.ps x)) true
@[go_sem] def wN:Spec:=P79.toSpec
theorem Pv:aN Tryz.prog 79 P79:=by
 refine cX (rs:=[.tmp 4]) Tryz.func79 Tryz.ntmps79 fun l x hp hw=>?_
 simp only[iI,oz,jH]at hw |-
 have hΓ:=aai
 repeat refine sq ?_
 refine rs hΓ [0,1] [] ?_
 repeat refine sq ?_
 refine rx hΓ [0,5,6] [] (fun K' hK=>by simp only[go_sem,hp];exact fn) ?_
 repeat refine sq ?_
 refine rs hΓ [0,5,17] [] ?_
 repeat refine sq ?_
 refine av (fun hb=>?_) fun hb=>?_
 ·repeat refine sq ?_
  have hf:oL Pap.id l.ps x=false:=by simpa using hb
  repeat refine sq ?_
  refine rs hΓ [4] [] ?_
  refine au ?_
  simp only[go_sem]
  rw[RY hf]
 ·repeat refine sq ?_
  have hf:oL Pap.id l.ps x=true:=by simpa using hb
  obtain⟨U6,qd⟩:=RZ hp hf
  have U5:(rh Pap.id l.ps x:Int)<l.ps.length:=by omega
  refine ax ?_
  repeat refine sq ?_
  refine rx hΓ [4] [] (fun K' hK=>by simp only[go_sem,ae U6,ah,ai,U5];exact fn) ?_
  refine au ?_
  simp only[go_sem]
  rw[qd]
@[go_sem] def P84:PSpec:=p2 iL iI (fun _ _=>True) (fun l x=>vInt (ir l.ps x)) true
@[go_sem] def Ep:Spec:=P84.toSpec
theorem Pu:aN Tryz.prog 84 P84:=by
 refine cX (rs:=[.tmp 4]) Tryz.func84 Tryz.ntmps84 fun l x hp hw=>?_
 simp only[iI,iL,dA]at hw |-
 have hΓ:=@fg Tryz.prog
 have hl:l.ps.length<=maxLen:=by have:=hw.1;simp[V.wfL,V.wf]at this;omega
 repeat refine sq ?_
 refine rs hΓ [1,2] [[2,0]] ?_
 repeat refine sq ?_
 refine rs hΓ [1,2,5] [[2,0]] ?_
 repeat refine sq ?_
 refine aH ?_
 repeat refine sq ?_
 refine bB (fun s:Nat=>[(5,⟨true,.v (vInt s)⟩)]) (fun s=>[]) (fun s=>s<=l.ps.length/\∀ k (h:k<l.ps.length),k<s->l.ps[k].id≠x) (fun s=>l.ps.length-s) 0 ?_ ?_ ?_ ?_
 ·exact⟨Nat.zero_le _,by simp⟩
 ·rfl
 ·rfl
 rintro i ⟨hi,hR⟩
 simp only[go_sem]
 repeat refine sq ?_
 refine rs hΓ [1,2,5,10] [[2,0]] ?_
 repeat refine sq ?_
 refine av (fun hb=>?_) fun hb=>?_
 ·have ab:i<l.ps.length:=by simpa using hb
  have an:(i:Int)<l.ps.length:=by omega
  clear hb
  repeat refine sq ?_
  refine ax ?_
  repeat refine sq ?_
  refine aH ?_
  repeat refine sq ?_
  refine rx hΓ [1,2,5,20] [[2,0]] (fun K' hK=>by simp only[go_sem,ae ab,ah,ai,an];exact fn) ?_
  repeat refine sq ?_
  refine av (fun hb=>?_) fun hb=>?_
  ·repeat refine sq ?_
   refine rx hΓ [4] [] (fun K' hK=>by simp only[go_sem,ae ab,ah,ai,an];exact fn) ?_
   refine au ?_
   simp only[go_sem]
   rw[HK ab (by simpa using hb) hR]
  ·repeat refine sq ?_
   refine ax ?_
   refine bE ?_
   simp only[go_sem]
   refine kp [1,2,5] [[2,0]] ?_
   repeat refine sq ?_
   refine aM hΓ fun K' hK=>?_
   simp only[go_sem,ae ab,ah,ai,an]
   repeat (refine⟨ob,?_⟩)
   refine hK _ ?_
   clear K' hK
   simp only[go_sem]
   refine⟨i+1,⟨ab,?_⟩,by(show l.ps.length-(i+1)<l.ps.length-i;omega),?_⟩
   ·intro k hk eA
    rcases Nat.lt_succ_iff_lt_or_eq.1 eA with h5 | rfl
    ·exact hR k hk h5
    ·simpa using hb
   refine aY [1,2,5] [[2,0]] ?_ ?_<;>simp only[go_sem,aT ab hl,aU]
 ·have be:i=l.ps.length:=by
   have :¬ (i:Int)<l.ps.length:=by simpa using hb
   omega
  clear hb
  subst be
  repeat refine sq ?_
  refine bp ?_
  simp only[go_sem]
  refine kp [] [] ?_
  repeat refine sq ?_
  refine rs hΓ [4] [] ?_
  refine au ?_
  simp only[go_sem]
  rw[HJ fun k hk=>hR k hk hk]
end
end Go.Eng
set_option linter.unusedVariables false
namespace Go.Eng
open Go Go.Proofs Go.RowKit Go.Lib Go.Shelf
end Go.Eng
set_option linter.unusedVariables false
namespace Go.Eng
open Go Go.Proofs Go.RowKit Go.Lib Go.Shelf
set_option maxHeartbeats 2000000 in
set_option maxRecDepth 100000 in
theorem X7(n c:Nat)(w:World):Calls Tryz.prog 132 #[.slice none n c] w fun e w'=>e=.returned (.slice none 0 0)/\w'=w:=by
 have mixed:Tryz.prog.follows Departure.mixedOrders=true:=by kernel_rfl
 have qT:∀ (w:World) (a:Option Addr) (n c n' c':Nat),(binOp .eql 29 (.slice a n c) (.slice none n' c')).run Tryz.prog w=.ok (.bool a.isNone) w:=fun w a n c n' c'=>Lib.run_eql_slice_nil w _ _ a n c n' c' Tryz.underlying29
 go_enter Tryz.func132,Tryz.ntmps132
 go_wp2
 go_ret
 exact⟨rfl,rfl⟩
set_option maxHeartbeats 2000000 in
set_option maxRecDepth 100000 in
theorem X6(a:Addr)(n c:Nat)(w:World)(v':Value)(w':World)
 (cN:∀ ty,(Builtin.append_ #[29,29] ty #[.slice (some ⟨w.heap.size,0,none⟩) 0 0,.slice (some a) n c]).run Tryz.prog (w.alloc (.cells #[] 81))=.ok v' w'):
 Calls Tryz.prog 132 #[.slice (some a) n c] w fun e w1=>e=.returned v'/\w1=w':=by
 have mixed:Tryz.prog.follows Departure.mixedOrders=true:=by kernel_rfl
 have qT:∀ (w:World) (a:Option Addr) (n c n' c':Nat),(binOp .eql 29 (.slice a n c) (.slice none n' c')).run Tryz.prog w=.ok (.bool a.isNone) w:=fun w a n c n' c'=>Lib.run_eql_slice_nil w _ _ a n c n' c' Tryz.underlying29
 go_enter Tryz.func132,Tryz.ntmps132
 go_wp2_with (at_builtin;refine Lib.wpList_append_run _ rfl _ _ _ _ rfl _ _ rfl rfl _ _ (cN _) ?_)
 go_ret
 exact⟨rfl,rfl⟩
set_option maxHeartbeats 2000000 in
set_option maxRecDepth 100000 in
theorem X4(n c:Nat)(w:World):Calls Tryz.prog 176 #[.slice none n c] w fun e w'=>e=.returned (.slice none 0 0)/\w'=w:=by
 have mixed:Tryz.prog.follows Departure.mixedOrders=true:=by kernel_rfl
 have qT:∀ (w:World) (a:Option Addr) (n c n' c':Nat),(binOp .eql 26 (.slice a n c) (.slice none n' c')).run Tryz.prog w=.ok (.bool a.isNone) w:=fun w a n c n' c'=>Lib.run_eql_slice_nil w _ _ a n c n' c' Tryz.underlying26
 go_enter Tryz.func176,Tryz.ntmps176
 go_wp2
 go_ret
 exact⟨rfl,rfl⟩
set_option maxHeartbeats 2000000 in
set_option maxRecDepth 100000 in
theorem X3(a:Addr)(n c:Nat)(w:World)(v':Value)(w':World)
 (cN:∀ ty,(Builtin.append_ #[26,26] ty #[.slice (some ⟨w.heap.size,0,none⟩) 0 0,.slice (some a) n c]).run Tryz.prog (w.alloc (.cells #[] 46))=.ok v' w'):
 Calls Tryz.prog 176 #[.slice (some a) n c] w fun e w1=>e=.returned v'/\w1=w':=by
 have mixed:Tryz.prog.follows Departure.mixedOrders=true:=by kernel_rfl
 have qT:∀ (w:World) (a:Option Addr) (n c n' c':Nat),(binOp .eql 26 (.slice a n c) (.slice none n' c')).run Tryz.prog w=.ok (.bool a.isNone) w:=fun w a n c n' c'=>Lib.run_eql_slice_nil w _ _ a n c n' c' Tryz.underlying26
 go_enter Tryz.func176,Tryz.ntmps176
 go_wp2_with (at_builtin;refine Lib.wpList_append_run _ rfl _ _ _ _ rfl _ _ rfl rfl _ _ (cN _) ?_)
 go_ret
 exact⟨rfl,rfl⟩
set_option maxHeartbeats 2000000 in
set_option maxRecDepth 100000 in
theorem X1(n c:Nat)(w:World):Calls Tryz.prog 177 #[.slice none n c] w fun e w'=>e=.returned (.slice none 0 0)/\w'=w:=by
 have mixed:Tryz.prog.follows Departure.mixedOrders=true:=by kernel_rfl
 have qT:∀ (w:World) (a:Option Addr) (n c n' c':Nat),(binOp .eql 27 (.slice a n c) (.slice none n' c')).run Tryz.prog w=.ok (.bool a.isNone) w:=fun w a n c n' c'=>Lib.run_eql_slice_nil w _ _ a n c n' c' Tryz.underlying27
 go_enter Tryz.func177,Tryz.ntmps177
 go_wp2
 go_ret
 exact⟨rfl,rfl⟩
set_option maxHeartbeats 2000000 in
set_option maxRecDepth 100000 in
theorem X0(a:Addr)(n c:Nat)(w:World)(v':Value)(w':World)
 (cN:∀ ty,(Builtin.append_ #[27,27] ty #[.slice (some ⟨w.heap.size,0,none⟩) 0 0,.slice (some a) n c]).run Tryz.prog (w.alloc (.cells #[] 36))=.ok v' w'):
 Calls Tryz.prog 177 #[.slice (some a) n c] w fun e w1=>e=.returned v'/\w1=w':=by
 have mixed:Tryz.prog.follows Departure.mixedOrders=true:=by kernel_rfl
 have qT:∀ (w:World) (a:Option Addr) (n c n' c':Nat),(binOp .eql 27 (.slice a n c) (.slice none n' c')).run Tryz.prog w=.ok (.bool a.isNone) w:=fun w a n c n' c'=>Lib.run_eql_slice_nil w _ _ a n c n' c' Tryz.underlying27
 go_enter Tryz.func177,Tryz.ntmps177
 go_wp2_with (at_builtin;refine Lib.wpList_append_run _ rfl _ _ _ _ rfl _ _ rfl rfl _ _ (cN _) ?_)
 go_ret
 exact⟨rfl,rfl⟩
set_option maxHeartbeats 2000000 in
set_option maxRecDepth 100000 in
theorem XY(n c:Nat)(w:World):Calls Tryz.prog 178 #[.slice none n c] w fun e w'=>e=.returned (.slice none 0 0)/\w'=w:=by
 have mixed:Tryz.prog.follows Departure.mixedOrders=true:=by kernel_rfl
 have qT:∀ (w:World) (a:Option Addr) (n c n' c':Nat),(binOp .eql 28 (.slice a n c) (.slice none n' c')).run Tryz.prog w=.ok (.bool a.isNone) w:=fun w a n c n' c'=>Lib.run_eql_slice_nil w _ _ a n c n' c' Tryz.underlying28
 go_enter Tryz.func178,Tryz.ntmps178
 go_wp2
 go_ret
 exact⟨rfl,rfl⟩
set_option maxHeartbeats 2000000 in
set_option maxRecDepth 100000 in
theorem XW(a:Addr)(n c:Nat)(w:World)(v':Value)(w':World)
 (cN:∀ ty,(Builtin.append_ #[28,28] ty #[.slice (some ⟨w.heap.size,0,none⟩) 0 0,.slice (some a) n c]).run Tryz.prog (w.alloc (.cells #[] 40))=.ok v' w'):
 Calls Tryz.prog 178 #[.slice (some a) n c] w fun e w1=>e=.returned v'/\w1=w':=by
 have mixed:Tryz.prog.follows Departure.mixedOrders=true:=by kernel_rfl
 have qT:∀ (w:World) (a:Option Addr) (n c n' c':Nat),(binOp .eql 28 (.slice a n c) (.slice none n' c')).run Tryz.prog w=.ok (.bool a.isNone) w:=fun w a n c n' c'=>Lib.run_eql_slice_nil w _ _ a n c n' c' Tryz.underlying28
 go_enter Tryz.func178,Tryz.ntmps178
 go_wp2_with (at_builtin;refine Lib.wpList_append_run _ rfl _ _ _ _ rfl _ _ rfl rfl _ _ (cN _) ?_)
 go_ret
 exact⟨rfl,rfl⟩
set_option maxHeartbeats 2000000 in
set_option maxRecDepth 100000 in
theorem XU(n c:Nat)(w:World):Calls Tryz.prog 179 #[.slice none n c] w fun e w'=>e=.returned (.slice none 0 0)/\w'=w:=by
 have mixed:Tryz.prog.follows Departure.mixedOrders=true:=by kernel_rfl
 have qT:∀ (w:World) (a:Option Addr) (n c n' c':Nat),(binOp .eql 32 (.slice a n c) (.slice none n' c')).run Tryz.prog w=.ok (.bool a.isNone) w:=fun w a n c n' c'=>Lib.run_eql_slice_nil w _ _ a n c n' c' Tryz.underlying32
 go_enter Tryz.func179,Tryz.ntmps179
 go_wp2
 go_ret
 exact⟨rfl,rfl⟩
set_option maxHeartbeats 2000000 in
set_option maxRecDepth 100000 in
theorem XT(a:Addr)(n c:Nat)(w:World)(v':Value)(w':World)
 (cN:∀ ty,(Builtin.append_ #[32,32] ty #[.slice (some ⟨w.heap.size,0,none⟩) 0 0,.slice (some a) n c]).run Tryz.prog (w.alloc (.cells #[] 3))=.ok v' w'):
 Calls Tryz.prog 179 #[.slice (some a) n c] w fun e w1=>e=.returned v'/\w1=w':=by
 have mixed:Tryz.prog.follows Departure.mixedOrders=true:=by kernel_rfl
 have qT:∀ (w:World) (a:Option Addr) (n c n' c':Nat),(binOp .eql 32 (.slice a n c) (.slice none n' c')).run Tryz.prog w=.ok (.bool a.isNone) w:=fun w a n c n' c'=>Lib.run_eql_slice_nil w _ _ a n c n' c' Tryz.underlying32
 go_enter Tryz.func179,Tryz.ntmps179
 go_wp2_with (at_builtin;refine Lib.wpList_append_run _ rfl _ _ _ _ rfl _ _ rfl rfl _ _ (cN _) ?_)
 go_ret
 exact⟨rfl,rfl⟩
def Z81:Value:=.agg #[.int .i64 0,.int .i64 0,.int .i64 0,.int .i64 0,.int .i64 0,.int .i64 0,.int .i64 0]
def Z46:Value:=.agg #[.int .i64 0,.int .i64 0]
def Z36:Value:=.agg #[.int .i64 0,.int .i64 0,.int .i64 0,.slice none 0 0,.int .i64 0,.int .i64 0,.int .i64 0]
def Z40:Value:=.agg #[.int .i64 0,.int .i64 0,.int .i64 0,.slice none 0 0,.int .i64 0,.int .i64 0,.int .i64 0,.int .i64 0]
theorem mh(n:Nat)(h:n<1000000000):n≠yid:=by unfold yid;omega
theorem Ml:qJ Tryz.prog 132 29 81 7 56 Z81:=
 ⟨by kernel_rfl,by kernel_rfl,mh _ (by decide),iK Tryz.func132 (by rfl) (by kernel_rfl),X7,X6⟩
theorem X5:qJ Tryz.prog 176 26 46 2 16 Z46:=
 ⟨by kernel_rfl,by kernel_rfl,mh _ (by decide),iK Tryz.func176 (by rfl) (by kernel_rfl),X4,X3⟩
theorem X2:qJ Tryz.prog 177 27 36 7 72 Z36:=
 ⟨by kernel_rfl,by kernel_rfl,mh _ (by decide),iK Tryz.func177 (by rfl) (by kernel_rfl),X1,X0⟩
theorem XZ:qJ Tryz.prog 178 28 40 8 80 Z40:=
 ⟨by kernel_rfl,by kernel_rfl,mh _ (by decide),iK Tryz.func178 (by rfl) (by kernel_rfl),XY,XW⟩
theorem XV:qJ Tryz.prog 179 32 3 1 8 (.int .i64 0):=
 ⟨by kernel_rfl,by kernel_rfl,mh _ (by decide),iK Tryz.func179 (by rfl) (by kernel_rfl),XU,XT⟩
open Go Go.Proofs
def fa(l:List Int):List (V×V):=l.map fun s=>(vInt s,.bool true)
def nG(es:List (V×V)):List Int:=es.map fun q=>jJ q.1
@[go_sem] theorem Xj(l:List Int):nG (fa l)=l:=by
  unfold nG fa
  rw[List.map_map]
  exact List.map_id _
def qB(l:List Int)(s:Int):List Int:=if l.contains s then l else l++[s]
theorem RW(l:List Int)(s:Int):eM (fa l) (vInt s)=if l.contains s then some (.bool true)else none:=by
 induction l with
 |nil=>rfl
 |cons a r ih=>
  show (if fj (vInt a) (vInt s)=true then some (V.bool true)else eM (fa r) (vInt s))=_
  rw[ih]
  by_cases h:a=s
  ·subst h;simp[fj]
  ·have h':(a==s)=false:=by simpa using h
   have gu:(s==a)=false:=by simpa using fun e=>h e.symm
   have h3:¬ s=a:=fun e=>h e.symm
   simp[fj,h',h3]
theorem Bm(l:List Int)(s:Int):(eM (fa l) (vInt s)).getD (.bool false)=.bool (l.contains s):=by
 rw[RW]
 cases l.contains s<;>rfl
theorem Bi(l:List Int)(s:Int):dS (fa l) (vInt s) (.bool true)=fa (qB l s):=by
 induction l with
 |nil=>rfl
 |cons a r ih=>
  show (if fj (vInt a) (vInt s)=true then(vInt s,V.bool true)::fa r else(vInt a,V.bool true)::dS (fa r) (vInt s) (.bool true))=_
  rw[ih]
  unfold qB
  by_cases h:a=s
  ·subst h;simp[fj,fa]
  ·have h':(a==s)=false:=by simpa using h
   have gu:(s==a)=false:=by simpa using fun e=>h e.symm
   simp only[fj,h',Bool.false_eq_true,if_false,List.contains_cons,gu,Bool.false_or]
   split<;>rfl
def A0(obj:Name->Option O)(_:Name):List D->List Name
 |[_,.ref nm _]=>nm::(match obj nm with | some (.box [.map mm])=>[mm] | _=>[])
 |_=>[]
def pI(obj:Name->Option O)(_:Name):List D->R
 |[.v (.int .i64 s),.ref nm 0]=>match obj nm with
  |some (.box [.map mm])=>match obj mm with
   |some (.map 0 es)=>⟨(mm==nm)=false/\fa (nG es)=es,.v (.bool (!(nG es).contains s)),upd obj mm (some (.map 0 (fa (qB (nG es) s))))⟩
   |_=>.bad obj
  |_=>.bad obj
 |_=>.bad obj
def onceS:Spec:=⟨pI,A0,A0⟩
theorem Rh:onceS.Near:=by
 refine vp fun obj obj2 t ds ha=>?_
 unfold A0 at ha |-
 split
 ·rename_i d nm off
  simp only at ha
  have h1:obj2 nm=obj nm:=ha nm (by simp)
  refine⟨by rw[h1],?_⟩
  have gm:∀ wr,bQ wr obj obj2->bT (R.bad obj) (R.bad obj2) obj obj2 wr:=fun wr h=>.none wr h
  unfold pI
  split
  ·rename_i s jX e
   simp only[List.cons.injEq,D.ref.injEq,and_true]at e
   obtain⟨_,rfl,rfl⟩:=e
   simp only[h1]
   split at ha
   ·rename_i mm hm
    have h2:obj2 mm=obj mm:=ha mm (by simp)
    simp only[h2,hm]
    split
    ·exact .one (by simp) ha
    ·exact gm _ ha
   ·exact gm _ ha
  ·exact gm _ ha
 ·refine⟨rfl,?_⟩
  rename_i nB
  unfold pI
  split
  ·exact(nB _ _ _ rfl).elim
  ·exact .none _ (fun _ h=>by cases h)
attribute [go_sem] onceS pI
def vm:CSpec where
 pre:=fun os ds=>∃ (ss:List Int) (s:Int),os=[.box [.map [1,1]],.map 0 (fa ss)]/\ds=[.v (vInt s),.ref [0,1] 0]
 out:=fun os ds=>match os,ds with
  |[_,.map _ es],[.v (.int _ s),_]=>⟨[(1,.map 0 (fa (qB (nG es) s)))],[],.v (.bool (!(nG es).contains s))⟩
  |_,_=>⟨[],[],.any⟩
theorem Rf{f:FuncId}(h:aR Tryz.prog f vm.toSpec)(aE:f≠yid):aR Tryz.prog f onceS:=by
 refine uY h Rh aE fun obj t ds aa=>?_
 change (pI obj t ds).ok at aa
 refine⟨ds,rfl,fun _ _ _ _ h=>h,?_⟩
 show _/\_=(pI obj t ds).d/\_=(pI obj t ds).obj
 unfold pI at aa |-
 split at aa
 ·rename_i s nm
  split at aa
  ·rename_i mm hb
   split at aa
   ·rename_i es hm
    obtain⟨lB,Vx⟩:=aa
    have Ck:mm≠nm:=by simpa using lB
    have VW:(nm==mm)=false:=by simpa using fun e=>Ck e.symm
    have hr:reach obj [.v (.int .i64 s),.ref nm 0]=[nm,mm]:=by
     unfold reach
     show dJ obj (2997+1+1+1) [nm] []=[nm,mm]
     simp only[dJ,cW,List.any_nil,Bool.false_eq_true,if_false,hb,mi,c7,ly,List.nil_append,List.append_nil,List.any_cons,VW,Bool.or_false,hm,List.cons_append]
    have i0:idx [nm,mm] nm=0:=by simp[idx]
    have i1:idx [nm,mm] mm=1:=by simp[idx,Ne.symm Ck]
    have e1:cJ obj [.v (.int .i64 s),.ref nm 0]=[.box [.map [1,1]],.map 0 es]:=by
     unfold cJ
     rw[hr]
     simp only[List.map_cons,List.map_nil,cQ,hb,hm,O.ren,D.renL,D.ren,cin,i1]
    have e2:db obj [.v (.int .i64 s),.ref nm 0]=[.v (.int .i64 s),.ref [0,1] 0]:=by
     unfold db
     rw[hr]
     simp only[D.renL,D.ren,cin,i0]
    have i5:vm.out [.box [.map [1,1]],.map 0 es] [.v (.int .i64 s),.ref [0,1] 0]=⟨[(1,.map 0 (fa (qB (nG es) s)))],[],.v (.bool (!(nG es).contains s))⟩:=rfl
    have dZ:vm.pre [.box [.map [1,1]],.map 0 es] [.v (.int .i64 s),.ref [0,1] 0]:=⟨nG es,s,by rw[Vx],rfl⟩
    have e3:(shut obj [nm,mm]&&D.closL (cW [nm,mm]) [.v (.int .i64 s),.ref nm 0]&&fresh obj t [])=true:=by
     simp[shut,hb,hm,O.clos,D.closL,D.clos,cW,fresh]
    simp only[CSpec.toSpec,e1,e2,hr,i5,e3,dZ,hb,hm,and_self,du,cE,D.ren,D.renL,O.ren,cout,List.getD_cons_zero,List.getD_cons_succ]
   ·exact aa.elim
  ·exact aa.elim
 ·exact aa.elim
set_option maxHeartbeats 8000000
noncomputable section
def S117:Spec:=onceS
attribute [go_sem] S117
theorem T9:aR Tryz.prog 117 S117:=by
 refine Rf ?_ (mh _ (by decide))
 refine oZ (nt:=12) (rs:=[.tmp 3]) Tryz.func117 rfl (by rfl) (by kernel_rfl) (iK Tryz.func117 rfl (by kernel_rfl)) (mh _ (by decide)) ?_
 rintro os ds ⟨ss,s,rfl,rfl⟩
 refine⟨Nat.le_of_ble_eq_true rfl,?_⟩
 have i5:vm.out [.box [.map [1,1]],.map 0 (fa ss)] [.v (vInt s),.ref [0,1] 0]=⟨[(1,.map 0 (fa (qB ss s)))],[],.v (.bool (!ss.contains s))⟩:=by
  simp only[vm,Xj]
 rw[i5]
 refine jL ?_
 have hΓ:=@fg Tryz.prog
 have dH:∀ hs,cl [0] (bY [0] hs) (a7 [.box [.map [1,1]],.map 0 (fa ss)])=True:=fun hs=>eq_true (pH (by
  intro o ho dom hd
  simp only[List.mem_cons,List.not_mem_nil,or_false]at ho
  rcases ho with rfl | rfl
  ·simp[O.clos,D.closL,D.clos,hd]
  ·rfl) hs)
 have h0:a7 [.box [.map [1,1]],.map 0 (fa ss)] [0,1]=some (.box [.map [1,1]]):=rfl
 have h1:a7 [.box [.map [1,1]],.map 0 (fa ss)] [1,1]=some (.map 0 (fa ss)):=rfl
 generalize hH:a7 [.box [.map [1,1]],.map 0 (fa ss)]=H at *
 have aj:∀ hs es,cl [0] (bY [0] hs) (upd H [1,1] (some (.map 0 es)))=True:=fun hs es=>eq_true (sF rfl (by rw[dH];trivial))
 have bf:∀ hs es,cl [0] (bY [0] hs) (fun nm=>if nm=[1,1]then some (.map 0 es)else H nm)=True:=aj
 repeat refine sq ?_
 refine rx hΓ [0,1] [] (fun K' hK=>by simp only[go_sem,dH];(repeat (refine⟨ob,?_⟩));exact hK _ (by simp only[go_sem,dH]) (by simp only[go_sem,dH]<;>rfl)) ?_
 repeat refine sq ?_
 refine rx hΓ [0,1,4] [] (fun K' hK=>by simp only[go_sem,dH,h0,h1,Bm];(repeat (refine⟨ob,?_⟩));exact hK _ (by simp only[go_sem,dH,h0,h1,Bm]) (by simp only[go_sem,dH,h0,h1,Bm]<;>rfl)) ?_
 repeat refine sq ?_
 refine rx hΓ [4] [] (fun K' hK=>by simp only[go_sem,dH,aj,bf,h0,h1,Bi];(repeat (refine⟨ob,?_⟩));exact hK _ (by simp only[go_sem,dH,aj,bf,h0,h1,Bi]) (by simp only[go_sem,dH,aj,bf,h0,h1,Bi]<;>rfl)) ?_
 repeat refine sq ?_
 refine rx hΓ [3] [] (fun K' hK=>by simp only[go_sem,dH,aj,bf];(repeat (refine⟨ob,?_⟩));exact hK _ (by simp only[go_sem,dH,aj,bf]) (by simp only[go_sem,dH,aj,bf]<;>rfl)) ?_
 refine au ?_
 simp only[go_sem]
 exact⟨h0,rfl⟩
def K7:List (Nat×Spec):=[(109,ZS),(111,ZQ),(113,ZO),(115,ZM),(117,S117),(79,wN)]
theorem Z':KS K7:=tc Qr.sound<|tc Qo.sound<|tc Qm.sound<|tc Qk.sound<|tc T9<|tc Pv.sound<|tn
attribute [go_sem] K7
def sn{α:Type}(pre:List Int)(f:α->Int)(l:List α)(i:Nat):List Int:=(l.take i).foldl (fun a x=>a++[f x]) pre
theorem ky{α:Type}(pre:List Int)(f:α->Int)(l:List α)(i:Nat):sn pre f l i=pre++(l.take i).map f:=by
 unfold sn
 generalize l.take i=k
 induction k generalizing pre with
 |nil=>simp
 |cons a r ih=>simp[ih]
theorem Ai{α:Type}{pre:List Int}{f:α->Int}{l:List α}{i:Nat}(h:i<l.length)(hc:(sn pre f l i).contains (f l[i])=false):qB (sn pre f l i) (f l[i])=sn pre f l (i+1):=by
 unfold qB
 rw[hc,ky,ky,List.take_add_one,List.getElem?_eq_getElem h]
 simp only[Bool.false_eq_true,if_false,Option.toList_some,List.map_append,List.map_cons,List.map_nil,List.append_assoc]
def ml(l:List Int):Int:=l.getD (l.length-1) 0
def qN(l:Led):List Int:=l.rs.map Rec.so++l.ts.map Ret.so++l.ss.map Sig.so
structure bx (l:Led):Prop where
 ps:jf kE Pap.id l.ps=true
 psn:l.ps.length<=12
 rs:jf dd Rec.so l.rs=true
 rsn:l.rs.length<=60
 ts:jf gA Ret.so l.ts=true
 tsn:l.ts.length<=60
 ss:jf iU Sig.so l.ss=true
 ssn:l.ss.length<=60
 rl:∀ j (h:j<l.rs.length),ml l.rs[j].lv<=ir l.ps l.rs[j].pa
 sl:∀ j (h:j<l.ss.length),l.ss[j].le<=ir l.ps l.ss[j].pa
 nd:(qN l).Nodup
open Classical in
def n9(l:Led):Bool:=decide (bx l)
theorem A4{l:Led}:n9 l=true↔bx l:=by unfold n9;exact @decide_eq_true_iff _ (Classical.propDecidable _)
def lL(l:Led):Int:=bH (n9 l) 24
theorem mQ{l:Led}(h:¬ bx l):lL l=24:=by unfold lL;rw[sw A4 h];rfl
theorem Mr{l:Led}(h:bx l):lL l=0:=by unfold lL;rw[A4.2 h];rfl
def lx{α:Type}(pre:List Int)(f:α->Int)(l:List α)(i:Nat):Prop:=∀ j (h:j<l.length),j<i->(sn pre f l j).contains (f l[j])=false
theorem Be{α:Type}{pre:List Int}{f:α->Int}{l:List α}{i:Nat}(h:lx pre f l i)(hi:i<l.length)(hc:(sn pre f l i).contains (f l[i])=false):lx pre f l (i+1):=by
 intro j hj c6
 rcases Nat.lt_succ_iff_lt_or_eq.1 c6 with h1 | rfl
 ·exact h j hj h1
 ·exact hc
theorem tr{α:Type}{pre:List Int}{f:α->Int}{l:List α}(hp:pre.Nodup):lx pre f l l.length↔(pre++l.map f).Nodup:=by
 constructor
 ·intro h
  rw[List.nodup_append]
  refine⟨hp,?_,?_⟩
  ·rw[List.nodup_iff_pairwise_ne,List.pairwise_map,List.pairwise_iff_getElem]
   intro i j hi hj bD e
   have :=h j hj hj
   rw[ky]at this
   simp only[List.contains_append,Bool.or_eq_false_iff]at this
   have h2:=this.2
   have :(List.map f (List.take j l)).contains (f l[j])=true:=by
    rw[List.contains_iff_mem,List.mem_map]
    exact⟨l[i],by rw[List.mem_take_iff_getElem];exact⟨i,by omega,rfl⟩,e⟩
   rw[h2]at this;cases this
  ·intro a ha b hb e
   subst e
   obtain⟨x,hx,rfl⟩:=List.mem_map.1 hb
   obtain⟨j,hj,rfl⟩:=List.getElem_of_mem hx
   have :=h j hj hj
   rw[ky]at this
   simp only[List.contains_append,Bool.or_eq_false_iff]at this
   have h2:=this.1
   rw[List.contains_iff_mem.2 ha]at h2;cases h2
 ·intro h j hj _
  rw[List.nodup_append]at h
  obtain⟨_,h1,h2⟩:=h
  rw[ky,Bool.eq_false_iff]
  intro hc
  rw[List.contains_iff_mem,List.mem_append]at hc
  rcases hc with hc | hc
  ·exact h2 _ hc _ (List.mem_map_of_mem (List.getElem_mem hj)) rfl
  ·obtain⟨x,hx,e⟩:=List.mem_map.1 hc
   obtain⟨i,hi,rfl⟩:=List.mem_take_iff_getElem.1 hx
   rw[List.nodup_iff_pairwise_ne,List.pairwise_map,List.pairwise_iff_getElem]at h1
   exact h1 i j (by omega) hj (by omega) e
theorem Hw{α:Type}{pre:List Int}{f:α->Int}{l:List α}(h:(pre++l.map f).Nodup):pre.Nodup:=(List.nodup_append.1 h).1
def Gs(l:Led)(i:Nat):Prop:=∀ j (h:j<l.rs.length),j<i->ml l.rs[j].lv<=ir l.ps l.rs[j].pa
def Fy(l:Led)(i:Nat):Prop:=∀ j (h:j<l.ss.length),j<i->l.ss[j].le<=ir l.ps l.ss[j].pa
theorem EH{l:Led}(h:bx l):lx [] Rec.so l.rs l.rs.length/\lx (sn [] Rec.so l.rs l.rs.length) Ret.so l.ts l.ts.length/\lx (sn (sn [] Rec.so l.rs l.rs.length) Ret.so l.ts l.ts.length) Sig.so l.ss l.ss.length:=by
 have hn:=h.nd
 unfold qN at hn
 have e1:sn [] Rec.so l.rs l.rs.length=l.rs.map Rec.so:=by rw[ky,List.take_length];rfl
 have e2:sn (sn [] Rec.so l.rs l.rs.length) Ret.so l.ts l.ts.length=l.rs.map Rec.so++l.ts.map Ret.so:=by rw[ky,e1,List.take_length]
 have n2:=Hw hn
 have n1:=Hw n2
 refine⟨(tr (by simp)).2 (by simpa using n1),?_,?_⟩
 ·rw[e1];exact(tr n1).2 n2
 ·rw[e2];exact(tr n2).2 hn
theorem Z0{l:Led}(h1:lx [] Rec.so l.rs l.rs.length)(h2:lx (sn [] Rec.so l.rs l.rs.length) Ret.so l.ts l.ts.length)(h3:lx (sn (sn [] Rec.so l.rs l.rs.length) Ret.so l.ts l.ts.length) Sig.so l.ss l.ss.length):(qN l).Nodup:=by
 have e1:sn [] Rec.so l.rs l.rs.length=l.rs.map Rec.so:=by rw[ky,List.take_length];rfl
 have e2:sn (sn [] Rec.so l.rs l.rs.length) Ret.so l.ts l.ts.length=l.rs.map Rec.so++l.ts.map Ret.so:=by rw[ky,e1,List.take_length]
 have n1:(l.rs.map Rec.so).Nodup:=by simpa using(tr (pre:=[]) (by simp)).1 h1
 have n2:=(tr n1).1 (by rw[e1]at h2;exact h2)
 exact(tr n2).1 (by rw[e2]at h3;exact h3)
theorem Yq{a b c d:Bool}{p q r s:Prop}[Decidable p][Decidable q][Decidable r][Decidable s](h:(!(a&&decide p)||!(b&&decide q)||!(c&&decide r)||!(d&&decide s))=false):a=true/\p/\b=true/\q/\c=true/\r/\d=true/\s:=by
 simp only[Bool.or_eq_false_iff,Bool.not_eq_false',Bool.and_eq_true,decide_eq_true_eq]at h
 obtain⟨⟨⟨⟨h1,h2⟩,h3,h4⟩,h5,h6⟩,h7,h8⟩:=h
 exact⟨h1,h2,h3,h4,h5,h6,h7,h8⟩
theorem nL{α:Type}{fO:α->Bool}{num:α->Int}{l:List α}(h:jf fO num l=true){j:Nat}(hj:j<l.length):fO l[j]=true:=(gb.1 h j hj hj).1
theorem Gv{r:Rec}(h:dd r=true):0<r.lv.length:=by
 unfold dd at h
 simp only[Bool.and_eq_true]at h
 exact(mj.1 h.1.1.2).1
@[go_sem] def P37:PSpec:=p1 iL (fun _=>True) (fun l=>vInt (lL l)) true
@[go_sem] def Et:Spec:=P37.toSpec
theorem PS:aN Tryz.prog 37 P37:=by
 refine dQ (rs:=[.tmp 2]) Tryz.func37 Tryz.ntmps37 fun l hp hw=>?_
 have hP:=dL
 simp only[iL,dA]at hw |-
 have hΓ:=Z'
 repeat refine sq ?_
 refine rs hΓ [1] [[1,0]] ?_
 repeat refine sq ?_
 refine rs hΓ [1,32] [[1,0]] ?_
 repeat refine sq ?_
 refine av (fun hb=>?_) fun hb=>?_
 ·repeat refine sq ?_
  have dG:¬ bx l:=by
   intro h
   rw[h.ps,h.rs,h.ts,h.ss]at hb
   have h1:=h.psn
   have h2:=h.rsn
   have h3:=h.tsn
   have h4:=h.ssn
   simp only[Bool.true_and,Bool.or_eq_true,Bool.not_eq_true',decide_eq_false_iff_not]at hb
   omega
  repeat refine sq ?_
  refine rs hΓ [2] [] ?_
  refine au ?_
  simp only[go_sem]
  rw[mQ dG]
 ·repeat refine sq ?_
  obtain⟨gl,B8,ca,fm,ry,oB,rB,kM⟩:=Yq hb
  have J8:srt Pap.id l.ps:=A3 (gb.1 gl)
  have oG:l.rs.length<=maxLen:=by unfold maxLen;omega
  have i6:l.ts.length<=maxLen:=by unfold maxLen;omega
  have tN:l.ss.length<=maxLen:=by unfold maxLen;omega
  refine ax ?_
  repeat refine sq ?_
  refine rs hΓ [1,3] [[1,0],[3,0],[33,0]] ?_
  repeat refine sq ?_
  refine rs hΓ [1,4] [[1,0],[3,0],[33,0]] ?_
  repeat refine sq ?_
  refine rs hΓ [1,4,36,37,38] [[1,0],[3,0],[33,0]] ?_
  repeat refine sq ?_
  refine aH ?_
  repeat refine sq ?_
  refine bB (fun s:Nat=>[(38,⟨true,.v (vInt s)⟩)]) (fun s=>[([33,0],.map 0 (fa (sn [] Rec.so l.rs s)))]) (fun s=>s<=l.rs.length/\lx [] Rec.so l.rs s/\Gs l s) (fun s=>l.rs.length-s) 0 ?_ ?_ ?_ ?_
  ·exact⟨Nat.zero_le _,fun j _ h=>by omega,fun j _ h=>by omega⟩
  ·rfl
  ·rfl
  rintro i ⟨hi,hR,KZ⟩
  simp only[go_sem]
  repeat refine sq ?_
  refine rs hΓ [1,4,36,37,38,39] [[1,0],[3,0],[33,0]] ?_
  repeat refine sq ?_
  refine av (fun hb=>?_) fun hb=>?_
  ·have ab:i<l.rs.length:=by simpa using hb
   have an:(i:Int)<l.rs.length:=by omega
   clear hb
   have hv:=Gv (nL ca ab)
   have tJ:l.rs[i].lv.length<=maxLen:=by have h0:=(mj.1 (by have h:=nL ca ab;unfold dd at h;simp only[Bool.and_eq_true]at h;exact h.1.1.2:np l.rs[i].lv=true)).2.1;unfold maxLen;omega
   have Uu:=wW (by omega:¬ l.rs[i].lv.length=0) tJ
   have B7:((l.rs[i].lv.length-1:Nat):Int)<l.rs[i].lv.length:=by omega
   have x9:l.rs[i].lv.length-1<l.rs[i].lv.length:=by omega
   have lE:(l.rs[i].lv.map vInt).getD (l.rs[i].lv.length-1) default=vInt (ml l.rs[i].lv):=by unfold ml;rw[ae x9,ck x9]
   repeat refine sq ?_
   refine ax ?_
   repeat refine sq ?_
   refine aH ?_
   repeat refine sq ?_
   refine rx hΓ [1,4,6,36,37,38] [[1,0],[3,0],[6,0],[33,0]] (fun K' hK=>by simp only[go_sem,ae ab,ah,ai,an];exact fn) ?_
   repeat refine sq ?_
   refine dx hΓ hP [[],[],[1],[0,1,2],u4,u5,u6,u7,u6,[0,1,2,3,4,5,8],[0,1,2,3,4,5,8,9],[0,1,2,3,4,5,8,9,10],eU,gP,u6,[0,1,2,3,4,5,14],[0,1,2,3,4,5,14,15],jk,ie] [1,4,36,37,38,60] [[1,0],[3,0],[33,0]] (by kernel_rfl) (fun K' hK=>by simp only[go_sem,ae ab,ah,ai,an,J8,Uu,lE,B7];exact fd) ?_
   repeat refine sq ?_
   refine av (fun hb=>?_) fun hb=>?_
   ·repeat refine sq ?_
    have dG:¬ bx l:=by
     intro h
     have h1:=(EH h).1 i ab ab
     have h2:=h.rl i ab
     rw[h1]at hb
     simp only[Bool.not_false,Bool.not_true,Bool.false_or,decide_eq_true_eq]at hb
     omega
    repeat refine sq ?_
    refine rx hΓ [2] [] (fun K' hK=>by simp only[go_sem,ae ab,ah,ai,an];exact fn) ?_
    refine au ?_
    simp only[go_sem]
    rw[mQ dG]
   ·repeat refine sq ?_
    have oD:(sn [] Rec.so l.rs i).contains l.rs[i].so=false:=by
     simp only[Bool.or_eq_false_iff,Bool.not_not]at hb
     exact hb.1
    have oC:ml l.rs[i].lv<=ir l.ps l.rs[i].pa:=by
     simp only[Bool.or_eq_false_iff,decide_eq_false_iff_not]at hb
     omega
    rw[Ai ab oD]
    refine ax ?_
    refine bE ?_
    simp only[go_sem]
    refine kp [1,4,36,37,38] [[1,0],[3,0],[33,0]] ?_
    repeat refine sq ?_
    refine aM hΓ fun K' hK=>?_
    simp only[go_sem,ae ab,ah,ai,an]
    repeat (refine⟨ob,?_⟩)
    refine hK _ ?_
    clear K' hK
    simp only[go_sem]
    refine⟨i+1,⟨ab,?_⟩,by(show l.rs.length-(i+1)<l.rs.length-i;omega),?_⟩
    ·exact⟨Be hR ab oD,fun j hj c6=>by
      rcases Nat.lt_succ_iff_lt_or_eq.1 c6 with h1 | rfl
      ·exact KZ j hj h1
      ·exact oC⟩
    refine aY [1,4,36,37,38] [[1,0],[3,0],[33,0]] ?_ ?_<;>simp only[go_sem,aT ab oG,aU]
  ·have be:i=l.rs.length:=by
    have :¬ (i:Int)<l.rs.length:=by simpa using hb
    omega
   clear hb
   subst be
   repeat refine sq ?_
   refine bp ?_
   simp only[go_sem]
   refine kp [1,4] [[1,0],[3,0],[33,0]] ?_
   repeat refine sq ?_
   refine rs hΓ [1,4,63,64,65] [[1,0],[3,0],[33,0]] ?_
   repeat refine sq ?_
   refine aH ?_
   repeat refine sq ?_
   refine bB (fun s:Nat=>[(65,⟨true,.v (vInt s)⟩)]) (fun s=>[([33,0],.map 0 (fa (sn (sn [] Rec.so l.rs l.rs.length) Ret.so l.ts s)))]) (fun s=>s<=l.ts.length/\lx (sn [] Rec.so l.rs l.rs.length) Ret.so l.ts s) (fun s=>l.ts.length-s) 0 ?_ ?_ ?_ ?_
   ·exact⟨Nat.zero_le _,fun j _ h=>by omega⟩
   ·rfl
   ·rfl
   rintro i ⟨KA,qj⟩
   simp only[go_sem]
   repeat refine sq ?_
   refine rs hΓ [1,4,63,64,65,66] [[1,0],[3,0],[33,0]] ?_
   repeat refine sq ?_
   refine av (fun hb=>?_) fun hb=>?_
   ·have ay:i<l.ts.length:=by simpa using hb
    have aQ:(i:Int)<l.ts.length:=by omega
    clear hb
    repeat refine sq ?_
    refine ax ?_
    repeat refine sq ?_
    refine aH ?_
    repeat refine sq ?_
    refine rx hΓ [1,4,8,63,64,65] [[1,0],[3,0],[8,0],[33,0]] (fun K' hK=>by simp only[go_sem,ae ay,ah,ai,aQ];exact fn) ?_
    repeat refine sq ?_
    refine rx hΓ [1,4,63,64,65,73] [[1,0],[3,0],[33,0]] (fun K' hK=>by simp only[go_sem,ae ay,ah,ai,aQ];exact fn) ?_
    repeat refine sq ?_
    refine av (fun hb=>?_) fun hb=>?_
    ·repeat refine sq ?_
     have dG:¬ bx l:=by
      intro h
      have h1:=(EH h).2.1 i ay ay
      rw[h1]at hb
      cases hb
     repeat refine sq ?_
     refine rx hΓ [2] [] (fun K' hK=>by simp only[go_sem,ae ay,ah,ai,aQ];exact fn) ?_
     refine au ?_
     simp only[go_sem]
     rw[mQ dG]
    ·repeat refine sq ?_
     have oD:(sn (sn [] Rec.so l.rs l.rs.length) Ret.so l.ts i).contains l.ts[i].so=false:=by
      simpa only[Bool.not_not]using hb
     rw[Ai ay oD]
     refine ax ?_
     refine bE ?_
     simp only[go_sem]
     refine kp [1,4,63,64,65] [[1,0],[3,0],[33,0]] ?_
     repeat refine sq ?_
     refine aM hΓ fun K' hK=>?_
     simp only[go_sem,ae ay,ah,ai,aQ]
     repeat (refine⟨ob,?_⟩)
     refine hK _ ?_
     clear K' hK
     simp only[go_sem]
     refine⟨i+1,⟨ay,?_⟩,by(show l.ts.length-(i+1)<l.ts.length-i;omega),?_⟩
     ·exact Be qj ay oD
     refine aY [1,4,63,64,65] [[1,0],[3,0],[33,0]] ?_ ?_<;>simp only[go_sem,aT ay i6,aU]
   ·have er:i=l.ts.length:=by
     have :¬ (i:Int)<l.ts.length:=by simpa using hb
     omega
    clear hb
    subst er
    repeat refine sq ?_
    refine bp ?_
    simp only[go_sem]
    refine kp [1,4] [[1,0],[3,0],[33,0]] ?_
    repeat refine sq ?_
    refine rs hΓ [1,4,76,77,78] [[1,0],[3,0],[33,0]] ?_
    repeat refine sq ?_
    refine aH ?_
    repeat refine sq ?_
    refine bB (fun s:Nat=>[(78,⟨true,.v (vInt s)⟩)]) (fun s=>[([33,0],.map 0 (fa (sn (sn (sn [] Rec.so l.rs l.rs.length) Ret.so l.ts l.ts.length) Sig.so l.ss s)))]) (fun s=>s<=l.ss.length/\lx (sn (sn [] Rec.so l.rs l.rs.length) Ret.so l.ts l.ts.length) Sig.so l.ss s/\Fy l s) (fun s=>l.ss.length-s) 0 ?_ ?_ ?_ ?_
    ·exact⟨Nat.zero_le _,fun j _ h=>by omega,fun j _ h=>by omega⟩
    ·rfl
    ·rfl
    rintro i ⟨kf,mJ,KX⟩
    simp only[go_sem]
    repeat refine sq ?_
    refine rs hΓ [1,4,76,77,78,79] [[1,0],[3,0],[33,0]] ?_
    repeat refine sq ?_
    refine av (fun hb=>?_) fun hb=>?_
    ·have br:i<l.ss.length:=by simpa using hb
     have dg:(i:Int)<l.ss.length:=by omega
     clear hb
     repeat refine sq ?_
     refine ax ?_
     repeat refine sq ?_
     refine aH ?_
     repeat refine sq ?_
     refine rx hΓ [1,4,10,76,77,78] [[1,0],[3,0],[10,0],[33,0]] (fun K' hK=>by simp only[go_sem,ae br,ah,ai,dg];exact fn) ?_
     repeat refine sq ?_
     refine dx hΓ hP [[],[],[1],[0,1,2],u4,u5,u6,u7,u6,[0,1,2,3,4,5,8],[0,1,2,3,4,5,8,9],cK,eU] [1,4,76,77,78,94] [[1,0],[3,0],[33,0]] (by kernel_rfl) (fun K' hK=>by simp only[go_sem,ae br,ah,ai,dg,J8];exact fd) ?_
     repeat refine sq ?_
     refine av (fun hb=>?_) fun hb=>?_
     ·repeat refine sq ?_
      have dG:¬ bx l:=by
       intro h
       have h1:=(EH h).2.2 i br br
       have h2:=h.sl i br
       rw[h1]at hb
       simp only[Bool.not_false,Bool.not_true,Bool.false_or,decide_eq_true_eq]at hb
       omega
      repeat refine sq ?_
      refine rx hΓ [2] [] (fun K' hK=>by simp only[go_sem,ae br,ah,ai,dg];exact fn) ?_
      refine au ?_
      simp only[go_sem]
      rw[mQ dG]
     ·repeat refine sq ?_
      have oD:(sn (sn (sn [] Rec.so l.rs l.rs.length) Ret.so l.ts l.ts.length) Sig.so l.ss i).contains l.ss[i].so=false:=by
       simp only[Bool.or_eq_false_iff,Bool.not_not]at hb
       exact hb.1
      have oC:l.ss[i].le<=ir l.ps l.ss[i].pa:=by
       simp only[Bool.or_eq_false_iff,decide_eq_false_iff_not]at hb
       omega
      rw[Ai br oD]
      refine ax ?_
      refine bE ?_
      simp only[go_sem]
      refine kp [1,4,76,77,78] [[1,0],[3,0],[33,0]] ?_
      repeat refine sq ?_
      refine aM hΓ fun K' hK=>?_
      simp only[go_sem,ae br,ah,ai,dg]
      repeat (refine⟨ob,?_⟩)
      refine hK _ ?_
      clear K' hK
      simp only[go_sem]
      refine⟨i+1,⟨br,?_⟩,by(show l.ss.length-(i+1)<l.ss.length-i;omega),?_⟩
      ·exact⟨Be mJ br oD,fun j hj c6=>by
        rcases Nat.lt_succ_iff_lt_or_eq.1 c6 with h1 | rfl
        ·exact KX j hj h1
        ·exact oC⟩
      refine aY [1,4,76,77,78] [[1,0],[3,0],[33,0]] ?_ ?_<;>simp only[go_sem,aT br tN,aU]
    ·have jB:i=l.ss.length:=by
      have :¬ (i:Int)<l.ss.length:=by simpa using hb
      omega
     clear hb
     subst jB
     repeat refine sq ?_
     refine bp ?_
     simp only[go_sem]
     refine kp [] [] ?_
     repeat refine sq ?_
     refine rs hΓ [2] [] ?_
     refine au ?_
     simp only[go_sem]
     rw[Mr ⟨gl,by omega,ca,by omega,ry,by omega,rB,by omega,fun j h=>KZ j h h,fun j h=>KX j h h,Z0 hR qj mJ⟩]
end
set_option maxHeartbeats 8000000
noncomputable section
theorem Aj{α:Type}{pre:List Int}{f:α->Int}{l:List α}{i:Nat}(h:i<l.length):sn pre f l (i+1)=sn pre f l i++[f l[i]]:=by
 rw[ky,ky,List.take_add_one,List.getElem?_eq_getElem h]
 simp only[Option.toList_some,List.map_append,List.map_cons,List.map_nil,List.append_assoc]
theorem sT{α:Type}{pre:List Int}{f:α->Int}{l:List α}{i:Nat}(h:i<=l.length):(sn pre f l i).length=pre.length+i:=by
 rw[ky,List.length_append,List.length_map,List.length_take];omega
theorem OC(l:Led):sn (sn (sn [] Rec.so l.rs l.rs.length) Ret.so l.ts l.ts.length) Sig.so l.ss l.ss.length=qN l:=by
 simp only[ky,List.take_length,List.nil_append,qN]
def FA(l:Led):Prop:=l.rs.length<=60/\l.ts.length<=60/\l.ss.length<=60
@[go_sem] def P125:PSpec:=p1 iL (fun l=>FA l) (fun l=>.sl ((qN l).map vInt)) false
@[go_sem] def ED:Spec:=P125.toSpec
theorem Qi:aN Tryz.prog 125 P125:=by
 refine dQ (rs:=[.tmp 2]) Tryz.func125 Tryz.ntmps125 fun l hp hw=>?_
 simp only[iL,dA]at hw |-
 have hΓ:=@fg Tryz.prog
 obtain⟨oD,oC,hn3⟩:=hp
 have oG:l.rs.length<=maxLen:=by unfold maxLen;omega
 have i6:l.ts.length<=maxLen:=by unfold maxLen;omega
 have tN:l.ss.length<=maxLen:=by unfold maxLen;omega
 repeat refine sq ?_
 refine rs hΓ [1] [[1,0]] ?_
 repeat refine sq ?_
 refine rs hΓ [1,3] [[1,0],[22,0],[38,0],[54,0]] ?_
 refine dp (pk 3 [22,0] 1 (by simp only[go_sem]) (by simp only[go_sem]) [1,3] [[1,0],[22,0],[38,0],[54,0]] ?_ rfl) ?_
 ·simp only[go_sem]
 simp only[go_sem]
 repeat refine sq ?_
 refine rs hΓ [1,3,4] [[1,0],[22,0],[38,0],[54,0]] ?_
 repeat refine sq ?_
 refine aH ?_
 repeat refine sq ?_
 refine bB (fun s:Nat=>[(4,⟨true,.v (vInt s)⟩),(3,⟨true,.msl [22,0] (sn [] Rec.so l.rs s).length⟩)]) (fun s=>[([22,0],.arr 1 ((sn [] Rec.so l.rs s).map vInt))]) (fun s=>s<=l.rs.length) (fun s=>l.rs.length-s) 0 ?_ ?_ ?_ ?_
 ·exact Nat.zero_le _
 ·rfl
 ·rfl
 rintro i hi
 simp only[go_sem]
 repeat refine sq ?_
 refine rs hΓ [1,3,4,11] [[1,0],[22,0],[38,0],[54,0]] ?_
 repeat refine sq ?_
 refine av (fun hb=>?_) fun hb=>?_
 ·have ab:i<l.rs.length:=by simpa using hb
  have an:(i:Int)<l.rs.length:=by omega
  clear hb
  have ep:(sn [] Rec.so l.rs i).length=i:=by rw[sT (by omega)];simp
  repeat refine sq ?_
  refine ax ?_
  repeat refine sq ?_
  refine aH ?_
  repeat refine sq ?_
  refine aM hΓ fun K' hK=>?_
  simp only[go_sem,ae ab,ah,ai,an]
  repeat (refine⟨ob,?_⟩)
  refine hK _ ?_
  clear K' hK
  simp only[go_sem]
  refine kp [1,3,4] [[1,0],[22,0],[38,0],[54,0]] ?_
  repeat refine sq ?_
  refine aM hΓ fun K' hK=>?_
  simp only[go_sem,ae ab,ah,ai,an]
  repeat (refine⟨ob,?_⟩)
  refine hK _ ?_
  clear K' hK
  simp only[go_sem]
  refine⟨i+1,ab,by(show l.rs.length-(i+1)<l.rs.length-i;omega),?_⟩
  refine aY [1,3,4] [[1,0],[22,0],[38,0],[54,0]] ?_ ?_<;>simp only[go_sem,aT ab oG,aU,Aj ab,List.map_append,List.length_append,List.map_cons,List.map_nil,List.length_cons,List.length_nil]
 ·have be:i=l.rs.length:=by
   have :¬ (i:Int)<l.rs.length:=by simpa using hb
   omega
  clear hb
  subst be
  repeat refine sq ?_
  refine bp ?_
  simp only[go_sem]
  refine kp [1,3] [[1,0],[22,0],[38,0],[54,0]] ?_
  repeat refine sq ?_
  refine rs hΓ [1,3,5] [[1,0],[22,0],[38,0],[54,0]] ?_
  repeat refine sq ?_
  refine aH ?_
  repeat refine sq ?_
  refine bB (fun s:Nat=>[(5,⟨true,.v (vInt s)⟩),(3,⟨true,.msl [22,0] (sn (sn [] Rec.so l.rs l.rs.length) Ret.so l.ts s).length⟩)]) (fun s=>[([22,0],.arr 1 ((sn (sn [] Rec.so l.rs l.rs.length) Ret.so l.ts s).map vInt))]) (fun s=>s<=l.ts.length) (fun s=>l.ts.length-s) 0 ?_ ?_ ?_ ?_
  ·exact Nat.zero_le _
  ·rfl
  ·rfl
  rintro i hi
  simp only[go_sem]
  repeat refine sq ?_
  refine rs hΓ [1,3,5,27] [[1,0],[22,0],[38,0],[54,0]] ?_
  repeat refine sq ?_
  refine av (fun hb=>?_) fun hb=>?_
  ·have ay:i<l.ts.length:=by simpa using hb
   have aQ:(i:Int)<l.ts.length:=by omega
   clear hb
   have ep:(sn (sn [] Rec.so l.rs l.rs.length) Ret.so l.ts i).length=l.rs.length+i:=by rw[sT (by omega),sT (Nat.le_refl _)];simp
   repeat refine sq ?_
   refine ax ?_
   repeat refine sq ?_
   refine aH ?_
   repeat refine sq ?_
   refine aM hΓ fun K' hK=>?_
   simp only[go_sem,ae ay,ah,ai,aQ]
   repeat (refine⟨ob,?_⟩)
   refine hK _ ?_
   clear K' hK
   simp only[go_sem]
   refine kp [1,3,5] [[1,0],[22,0],[38,0],[54,0]] ?_
   repeat refine sq ?_
   refine aM hΓ fun K' hK=>?_
   simp only[go_sem,ae ay,ah,ai,aQ]
   repeat (refine⟨ob,?_⟩)
   refine hK _ ?_
   clear K' hK
   simp only[go_sem]
   refine⟨i+1,ay,by(show l.ts.length-(i+1)<l.ts.length-i;omega),?_⟩
   refine aY [1,3,5] [[1,0],[22,0],[38,0],[54,0]] ?_ ?_<;>simp only[go_sem,aT ay i6,aU,Aj ay,List.map_append,List.length_append,List.map_cons,List.map_nil,List.length_cons,List.length_nil]
  ·have er:i=l.ts.length:=by
    have :¬ (i:Int)<l.ts.length:=by simpa using hb
    omega
   clear hb
   subst er
   repeat refine sq ?_
   refine bp ?_
   simp only[go_sem]
   refine kp [1,3] [[1,0],[22,0],[38,0],[54,0]] ?_
   repeat refine sq ?_
   refine rs hΓ [1,3,6] [[1,0],[22,0],[38,0],[54,0]] ?_
   repeat refine sq ?_
   refine aH ?_
   repeat refine sq ?_
   refine bB (fun s:Nat=>[(6,⟨true,.v (vInt s)⟩),(3,⟨true,.msl [22,0] (sn (sn (sn [] Rec.so l.rs l.rs.length) Ret.so l.ts l.ts.length) Sig.so l.ss s).length⟩)]) (fun s=>[([22,0],.arr 1 ((sn (sn (sn [] Rec.so l.rs l.rs.length) Ret.so l.ts l.ts.length) Sig.so l.ss s).map vInt))]) (fun s=>s<=l.ss.length) (fun s=>l.ss.length-s) 0 ?_ ?_ ?_ ?_
   ·exact Nat.zero_le _
   ·rfl
   ·rfl
   rintro i hi
   simp only[go_sem]
   repeat refine sq ?_
   refine rs hΓ [1,3,6,43] [[1,0],[22,0],[38,0],[54,0]] ?_
   repeat refine sq ?_
   refine av (fun hb=>?_) fun hb=>?_
   ·have br:i<l.ss.length:=by simpa using hb
    have dg:(i:Int)<l.ss.length:=by omega
    clear hb
    have ep:(sn (sn (sn [] Rec.so l.rs l.rs.length) Ret.so l.ts l.ts.length) Sig.so l.ss i).length=l.rs.length+l.ts.length+i:=by rw[sT (by omega),sT (Nat.le_refl _),sT (Nat.le_refl _)];simp
    repeat refine sq ?_
    refine ax ?_
    repeat refine sq ?_
    refine aH ?_
    repeat refine sq ?_
    refine aM hΓ fun K' hK=>?_
    simp only[go_sem,ae br,ah,ai,dg]
    repeat (refine⟨ob,?_⟩)
    refine hK _ ?_
    clear K' hK
    simp only[go_sem]
    refine kp [1,3,6] [[1,0],[22,0],[38,0],[54,0]] ?_
    repeat refine sq ?_
    refine aM hΓ fun K' hK=>?_
    simp only[go_sem,ae br,ah,ai,dg]
    repeat (refine⟨ob,?_⟩)
    refine hK _ ?_
    clear K' hK
    simp only[go_sem]
    refine⟨i+1,br,by(show l.ss.length-(i+1)<l.ss.length-i;omega),?_⟩
    refine aY [1,3,6] [[1,0],[22,0],[38,0],[54,0]] ?_ ?_<;>simp only[go_sem,aT br tN,aU,Aj br,List.map_append,List.length_append,List.map_cons,List.map_nil,List.length_cons,List.length_nil]
   ·have jB:i=l.ss.length:=by
     have :¬ (i:Int)<l.ss.length:=by simpa using hb
     omega
    clear hb
    subst jB
    repeat refine sq ?_
    refine bp ?_
    simp only[go_sem]
    refine kp [3] [[22,0],[38,0],[54,0]] ?_
    repeat refine sq ?_
    refine rs hΓ [2] [[22,0],[38,0],[54,0]] ?_
    refine au ?_
    simp only[go_sem]
    rw[OC]
@[go_sem] def P156:PSpec:=p1 cH (fun _=>True) (fun l=>.bool (decide l.Nodup)) true
@[go_sem] def ZF:Spec:=P156.toSpec
theorem Qb:aN Tryz.prog 156 P156:=by
 refine dQ (rs:=[.tmp 2]) Tryz.func156 Tryz.ntmps156 fun l hp hw=>?_
 have hP:=dL
 simp only[cH]at hw |-
 have hΓ:=@fg Tryz.prog
 have hl:l.length<=maxLen:=by have:=hw.1.1;simpa using this
 repeat refine sq ?_
 refine rs hΓ [0] [] ?_
 repeat refine sq ?_
 refine rs hΓ [0,3] [] ?_
 repeat refine sq ?_
 refine aH ?_
 repeat refine sq ?_
 refine bB (fun s:Nat=>[(3,⟨true,.v (vInt s)⟩)]) (fun s=>[]) (fun s=>s<=l.length/\∀ a b (ha:a<l.length) (hb:b<l.length),a<s->b<a->l[b]≠l[a]) (fun s=>l.length-s) 0 ?_ ?_ ?_ ?_
 ·exact⟨Nat.zero_le _,fun a b _ _ h=>by omega⟩
 ·rfl
 ·rfl
 rintro i ⟨hi,hR⟩
 simp only[go_sem]
 repeat refine sq ?_
 refine rs hΓ [0,3,8] [] ?_
 repeat refine sq ?_
 refine av (fun hb=>?_) fun hb=>?_
 ·have ab:i<l.length:=by simpa using hb
  have an:(i:Int)<l.length:=by omega
  clear hb
  repeat refine sq ?_
  refine ax ?_
  repeat refine sq ?_
  refine aH ?_
  repeat refine sq ?_
  refine rx hΓ [0,3,4] [] (fun K' hK=>by simp only[go_sem,ae ab,ah,ai,an];exact fn) ?_
  repeat refine sq ?_
  refine aH ?_
  repeat refine sq ?_
  refine bB (fun s:Nat=>[(4,⟨true,.v (vInt s)⟩)]) (fun s=>[]) (fun s=>s<=i/\∀ b (hb:b<l.length),b<s->l[b]≠l[i]) (fun s=>i-s) 0 ?_ ?_ ?_ ?_
  ·exact⟨Nat.zero_le _,fun b _ h=>by omega⟩
  ·rfl
  ·rfl
  rintro k ⟨KA,qj⟩
  simp only[go_sem]
  repeat refine sq ?_
  refine rx hΓ [0,3,4,13] [] (fun K' hK=>by simp only[go_sem,ae ab,ah,ai,an];exact fn) ?_
  repeat refine sq ?_
  refine av (fun hb=>?_) fun hb=>?_
  ·have ay:k<i:=by simpa using hb
   have aQ:(k:Int)<i:=by omega
   clear hb
   have gp:(k:Int)<l.length:=by omega
   repeat refine sq ?_
   refine ax ?_
   repeat refine sq ?_
   refine aH ?_
   repeat refine sq ?_
   refine dx hΓ hP [[],[],[0,1],[0,1,2],[],[],[4,5],[4,5,6],u8] [0,3,4,24] [] (by kernel_rfl) (fun K' hK=>by simp only[go_sem,ae ab,ah,ai,an,ae ab,ae (show k<l.length by omega),ah,ai,an,gp];exact fd) ?_
   repeat refine sq ?_
   refine av (fun hb=>?_) fun hb=>?_
   ·repeat refine sq ?_
    have dG:¬ l.Nodup:=by
     intro h
     rw[List.nodup_iff_pairwise_ne,List.pairwise_iff_getElem]at h
     exact h k i (by omega) ab ay (by simpa using(by simpa using hb:l[i]=l[k]).symm)
    repeat refine sq ?_
    refine rx hΓ [2] [] (fun K' hK=>by simp only[go_sem,ae ab,ah,ai,an,ae ab,ae (show k<l.length by omega),ah,ai,an,gp];exact fn) ?_
    refine au ?_
    simp only[go_sem]
    simp[dG]
   ·repeat refine sq ?_
    refine ax ?_
    refine bE ?_
    simp only[go_sem]
    refine kp [0,3,4] [] ?_
    repeat refine sq ?_
    refine aM hΓ fun K' hK=>?_
    simp only[go_sem,ae ab,ah,ai,an,ae ab,ae (show k<l.length by omega),ah,ai,an,gp]
    repeat (refine⟨ob,?_⟩)
    refine hK _ ?_
    clear K' hK
    simp only[go_sem]
    refine⟨k+1,⟨ay,?_⟩,by(show i-(k+1)<i-k;omega),?_⟩
    ·intro b eE bR
     rcases Nat.lt_succ_iff_lt_or_eq.1 bR with h1 | rfl
     ·exact qj b eE h1
     ·intro e;rw[e]at hb;simp at hb
    refine aY [0,3,4] [] ?_ ?_<;>simp only[go_sem,aT ay (by omega),aU]
  ·have er:k=i:=by
    have :¬ (k:Int)<i:=by simpa using hb
    omega
   clear hb
   skip
   repeat refine sq ?_
   refine bp ?_
   simp only[go_sem]
   refine kp [0,3] [] ?_
   repeat refine sq ?_
   refine aM hΓ fun K' hK=>?_
   simp only[go_sem,ae ab,ah,ai,an]
   repeat (refine⟨ob,?_⟩)
   refine hK _ ?_
   clear K' hK
   simp only[go_sem]
   refine⟨i+1,⟨ab,?_⟩,by(show l.length-(i+1)<l.length-i;omega),?_⟩
   ·intro a b ha eE V4 VX
    rcases Nat.lt_succ_iff_lt_or_eq.1 V4 with h1 | rfl
    ·exact hR a b ha eE h1 VX
    ·exact qj b eE (by omega)
   refine aY [0,3] [] ?_ ?_<;>simp only[go_sem,aT ab hl,aU]
 ·have be:i=l.length:=by
   have :¬ (i:Int)<l.length:=by simpa using hb
   omega
  clear hb
  subst be
  repeat refine sq ?_
  refine bp ?_
  simp only[go_sem]
  refine kp [] [] ?_
  repeat refine sq ?_
  refine rs hΓ [2] [] ?_
  refine au ?_
  simp only[go_sem]
  have CG:l.Nodup:=by
   rw[List.nodup_iff_pairwise_ne,List.pairwise_iff_getElem]
   exact fun a b ha hb lG=>hR b a hb ha hb lG
  simp[CG]
def K8a:List (Nat×Spec):=[(146,sC),(84,Ep)]
theorem Z9:KS K8a:=tc ve.sound<|tc Pu.sound<|tn
attribute [go_sem] K8a
def pU(l:Led)(pa le:Int):Bool:=cj le 1 (ir l.ps pa)
structure Fol where
 (pa le:Int)
 deriving Inhabited,DecidableEq
def se(f:Fol):V:=.agg [vInt f.pa,vInt f.le]
def L4:V->Fol
 | .agg [.int _ a,.int _ b]=>⟨a,b⟩
 |_=>default
def nq:En Fol:=⟨se,L4⟩
attribute [go_sem] se L4 nq
@[go_sem] theorem aeg(p:Fol):(⟨p.pa,p.le⟩:Fol)=p:=rfl
@[go_sem] def P100:PSpec:=p2 iL nq (fun _ _=>True) (fun l f=>.bool (pU l f.pa f.le)) true
@[go_sem] def EE:Spec:=P100.toSpec
theorem Qs:aN Tryz.prog 100 P100:=by
 refine cX (rs:=[.tmp 4]) Tryz.func100 Tryz.ntmps100 fun l f hp hw=>?_
 have hP:=dL
 simp only[nq,iL,se,dA]at hw |-
 have hΓ:=Z9
 repeat refine sq ?_
 refine rs hΓ [2,3] [[2,0],[3,0]] ?_
 repeat refine sq ?_
 refine dx hΓ hP [[],[0],[],[],[3],[2,3,4],u6,u7] [4] [] (by kernel_rfl) (fun K' hK=>by simp only[go_sem];exact fd) ?_
 refine au ?_
 simp only[go_sem]
 all_goals first | rfl | (simp;done) | (grind [pU];done)
end
noncomputable section
def K9:List (Nat×Spec):=[(62,Zi),(64,Zg),(66,Ze),(68,Nm),(100,EE),(125,ED),(156,ZF)]
theorem Z5:KS K9:=tc PD.sound<|tc PB.sound<|tc Pz.sound<|tc Px.sound<|tc Qs.sound<|tc Qi.sound<|tc Qb.sound<|tn
attribute [go_sem] K9
theorem Sw(r:Rec)(hl:r.lv.length<=maxLen):∃ kd x,(r.lv.map vInt).getD (IntKind.i64.wrap ((r.lv.length:Int)-1)).toNat default=.int kd x/\
 (dd r=true->kd=.i64/\x=ml r.lv/\0<=IntKind.i64.wrap ((r.lv.length:Int)-1)/\IntKind.i64.wrap ((r.lv.length:Int)-1)<r.lv.length):=by
 by_cases h:r.lv.length=0
 ·have e:r.lv=[]:=List.length_eq_zero_iff.1 h
  refine⟨default,default,?_,fun hb=>?_⟩
  ·rw[e];rfl
  ·have:=Gv hb;omega
 ·have hw:=wW h hl
  have h2:r.lv.length-1<r.lv.length:=by omega
  refine⟨.i64,ml r.lv,?_,fun _=>⟨rfl,rfl,?_⟩⟩
  ·rw[hw,ah,ae h2]
   unfold ml
   rw[ck h2]
  ·rw[hw];omega
theorem Sx{l:List Int}(h:np l=true):1<=ml l:=by
 obtain⟨h1,_,_,h4⟩:=mj.1 h
 have h2:l.length-1<l.length:=by omega
 have :=h4 _ h2
 unfold ml
 rw[ck h2]
 unfold cj at this
 simp only[Bool.and_eq_true,decide_eq_true_eq]at this
 exact this.1
theorem Gu{r:Rec}(h:dd r=true):np r.lv=true:=by
 unfold dd at h
 simp only[Bool.and_eq_true]at h
 exact h.1.1.2
theorem Rb{a b c d:Int}{n m o p:Int}(h:(decide (a>n)||decide (b>m)||decide (c>o)||decide (d>p))=false):a<=n/\b<=m/\c<=o/\d<=p:=by
 simp only[Bool.or_eq_false_iff,decide_eq_false_iff_not]at h
 omega
@[go_sem] def P69:PSpec:=p1 iL (fun _=>True) (fun l=>vInt (lL l)) true
@[go_sem] def Es:Spec:=P69.toSpec
set_option maxHeartbeats 8000000 in
theorem Pw:aN Tryz.prog 69 P69:=by
 refine dQ (rs:=[.tmp 2]) Tryz.func69 Tryz.ntmps69 fun l hp hw=>?_
 have hP:=dL
 simp only[iL,dA]at hw |-
 have hΓ:=Z5
 repeat refine sq ?_
 refine rs hΓ [1] [[1,0]] ?_
 repeat refine sq ?_
 refine rs hΓ [1,30] [[1,0]] ?_
 repeat refine sq ?_
 refine av (fun hb=>?_) fun hb=>?_
 ·repeat refine sq ?_
  have dG:¬ bx l:=by
   intro h
   have h1:=h.psn
   have h2:=h.rsn
   have h3:=h.tsn
   have h4:=h.ssn
   simp only[Bool.or_eq_true,decide_eq_true_eq]at hb
   omega
  repeat refine sq ?_
  refine rs hΓ [2] [] ?_
  refine au ?_
  simp only[go_sem]
  rw[mQ dG]
 ·repeat refine sq ?_
  obtain⟨B8,fm,oB,kM⟩:=Rb hb
  have Kt:l.ps.length<=maxLen:=by unfold maxLen;omega
  have oG:l.rs.length<=maxLen:=by unfold maxLen;omega
  have i6:l.ts.length<=maxLen:=by unfold maxLen;omega
  have tN:l.ss.length<=maxLen:=by unfold maxLen;omega
  have jx:FA l:=⟨by omega,by omega,by omega⟩
  clear hb
  refine ax ?_
  repeat refine sq ?_
  refine rs hΓ [1,3] [[1,0]] ?_
  repeat refine sq ?_
  refine aH ?_
  repeat refine sq ?_
  refine bB (fun s:Nat=>[(3,⟨true,.v (vInt s)⟩)]) (fun s=>[]) (fun s=>s<=l.ps.length/\jW kE Pap.id l.ps s) (fun s=>l.ps.length-s) 0 ?_ ?_ ?_ ?_
  ·exact⟨Nat.zero_le _,pJ⟩
  ·rfl
  ·rfl
  rintro i ⟨hi,hR⟩
  simp only[go_sem]
  repeat refine sq ?_
  refine rs hΓ [1,3,35] [[1,0]] ?_
  repeat refine sq ?_
  refine av (fun hb=>?_) fun hb=>?_
  ·have ab:i<l.ps.length:=by simpa using hb
   have an:(i:Int)<l.ps.length:=by omega
   clear hb
   obtain⟨p,hp,fW,bN⟩:=n8 ab Kt
   repeat refine sq ?_
   refine ax ?_
   repeat refine sq ?_
   refine aH ?_
   repeat refine sq ?_
   refine dx hΓ hP [[],[0],[],[0,1,2],u4,u5,u6,u7,u8,u9,bO,cK,eU,cK,[0,1,2,3,4,5,6,7,8,9,10,13],l4,u16,jk,cK,[0,1,2,3,4,5,6,7,8,9,10,18],cK,[0,1,2,3,4,5,6,7,8,9,10,18,19,20],[0,1,2,3,4,5,6,7,8,9,10,18,19,20,21],[0,1,2,3,4,5,6,7,8,9,10,18,19,20,21,22],Ab,uQ,Aa] [1,3,64] [[1,0]] (by kernel_rfl) (fun K' hK=>by simp only[go_sem,ae ab,ah,ai,an,hp,ae fW,fun b=>oV b 20 (by decide)];(repeat (refine⟨by first | exact ob | (intro h;have:=bN (by simp_all);simp_all;done),?_⟩));exact e8) ?_
   repeat refine sq ?_
   refine av (fun hb=>?_) fun hb=>?_
   ·repeat refine sq ?_
    have dG:¬ bx l:=by
     intro h
     obtain⟨h1,h2⟩:=gb.1 h.ps i ab ab
     simp only[h1,Bool.not_true,Bool.false_or,Bool.and_eq_true,decide_eq_true_eq]at hb
     obtain⟨e,_⟩:=bN (by omega)
     subst e
     have :=h2 (by omega)
     have :=hb.2
     omega
    repeat refine sq ?_
    refine rx hΓ [2] [] (fun K' hK=>by simp only[go_sem,ae ab,ah,ai,an];exact fn) ?_
    refine au ?_
    simp only[go_sem]
    rw[mQ dG]
   ·repeat refine sq ?_
    have hn:kE l.ps[i]=true/\(0<i->Pap.id l.ps[i-1] <Pap.id l.ps[i]):=by
     simp only[Bool.or_eq_false_iff,Bool.not_eq_false',Bool.and_eq_false_iff,decide_eq_false_iff_not]at hb
     refine⟨hb.1,fun h=>?_⟩
     obtain⟨e,_⟩:=bN h
     subst e
     omega
    refine ax ?_
    refine bE ?_
    simp only[go_sem]
    refine kp [1,3] [[1,0]] ?_
    repeat refine sq ?_
    refine aM hΓ fun K' hK=>?_
    simp only[go_sem,ae ab,ah,ai,an]
    repeat (refine⟨ob,?_⟩)
    refine hK _ ?_
    clear K' hK
    simp only[go_sem]
    refine⟨i+1,⟨ab,?_⟩,by(show l.ps.length-(i+1)<l.ps.length-i;omega),?_⟩
    ·exact pK hR ab hn
    refine aY [1,3] [[1,0]] ?_ ?_<;>simp only[go_sem,aT ab Kt,aU]
  ·have be:i=l.ps.length:=by
    have :¬ (i:Int)<l.ps.length:=by simpa using hb
    omega
   clear hb
   subst be
   repeat refine sq ?_
   refine bp ?_
   simp only[go_sem]
   refine kp [1] [[1,0]] ?_
   repeat refine sq ?_
   refine rs hΓ [1,4] [[1,0]] ?_
   repeat refine sq ?_
   refine aH ?_
   repeat refine sq ?_
   refine bB (fun s:Nat=>[(4,⟨true,.v (vInt s)⟩)]) (fun s=>[]) (fun s=>s<=l.rs.length/\jW dd Rec.so l.rs s/\Gs l s) (fun s=>l.rs.length-s) 0 ?_ ?_ ?_ ?_
   ·exact⟨Nat.zero_le _,pJ,fun j _ h=>by omega⟩
   ·rfl
   ·rfl
   rintro i ⟨KA,qj,KY⟩
   simp only[go_sem]
   repeat refine sq ?_
   refine rs hΓ [1,4,69] [[1,0]] ?_
   repeat refine sq ?_
   refine av (fun hb=>?_) fun hb=>?_
   ·have ay:i<l.rs.length:=by simpa using hb
    have aQ:(i:Int)<l.rs.length:=by omega
    clear hb
    obtain⟨p,hp,fW,bN⟩:=n8 ay oG
    have tJ:l.rs[i].lv.length<=maxLen:=by
     have h1:=zZ hw _ (List.mem_singleton.2 rfl)
     simp only[V.wf,V.wfL]at h1
     have h2:=zZ h1.2.1.2 (encR l.rs[i]) (List.mem_map_of_mem (List.getElem_mem ay))
     simp only[encR,V.wf,V.wfL,List.length_map]at h2
     exact h2.2.2.2.1.1
    obtain⟨kd,x,lE,Cu⟩:=Sw l.rs[i] tJ
    repeat refine sq ?_
    refine ax ?_
    repeat refine sq ?_
    refine aH ?_
    repeat refine sq ?_
    refine rx hΓ [1,4,5] [[1,0],[5,0]] (fun K' hK=>by simp only[go_sem,ae ay,ah,ai,aQ];exact fn) ?_
    repeat refine sq ?_
    refine dx hΓ hP [[],[0],[0,1],[0,1,2],u4,u5,u6,u7,u8,u7,[0,1,2,3,4,5,6,9],cK,eU,gP,u7,[0,1,2,3,4,5,6,14],u16,jk,ie,lk,gz,gz,[0,1,2,3,4,5,6,7,8,9,10,11,12,13,14,15,16,17,18,19,21],gz,[0,1,2,3,4,5,6,7,8,9,10,11,12,13,14,15,16,17,18,19,23],gz,[0,1,2,3,4,5,6,7,8,9,10,11,12,13,14,15,16,17,18,19,25],[0,1,2,3,4,5,6,7,8,9,10,11,12,13,14,15,16,17,18,19,25,26],[0,1,2,3,4,5,6,7,8,9,10,11,12,13,14,15,16,17,18,19,25,26,27],[0,1,2,3,4,5,6,7,8,9,10,11,12,13,14,15,16,17,18,19,23,24,25,26,27,28],[0,1,2,3,4,5,6,7,8,9,10,11,12,13,14,15,16,17,18,19,23,24,25,26,27,28,29],[0,1,2,3,4,5,6,7,8,9,10,11,12,13,14,15,16,17,18,19,21,22,23,24,25,26,27,28,29,30],u32,EZ,Oh] [1,4,111] [[1,0]] (by kernel_rfl) (fun K' hK=>by simp only[go_sem,ae ay,ah,ai,aQ,hp,ae fW,fun b=>oV b 21 (by decide),lE];(repeat (refine⟨by first | exact ob | (intro h;have:=bN (by simp_all);simp_all;done) | (intro h;have:=Cu (by simp_all);simp_all;done),?_⟩));exact e8) ?_
    repeat refine sq ?_
    refine av (fun hb=>?_) fun hb=>?_
    ·repeat refine sq ?_
     have dG:¬ bx l:=by
      intro h
      obtain⟨h1,h2⟩:=gb.1 h.rs i ay ay
      obtain⟨_,h4,_⟩:=Cu h1
      have h5:=h.rl i ay
      have h6:=Sx (Gu h1)
      have h7:pU l l.rs[i].pa x=true:=by unfold pU cj;simp only[Bool.and_eq_true,decide_eq_true_eq];omega
      simp only[h1,h7,Bool.not_true,Bool.false_or,Bool.or_false,Bool.and_eq_true,decide_eq_true_eq]at hb
      obtain⟨e,_⟩:=bN (by omega)
      subst e
      have :=h2 (by omega)
      have :=hb.2
      omega
     repeat refine sq ?_
     refine rx hΓ [2] [] (fun K' hK=>by simp only[go_sem,ae ay,ah,ai,aQ];exact fn) ?_
     refine au ?_
     simp only[go_sem]
     rw[mQ dG]
    ·repeat refine sq ?_
     have hn:dd l.rs[i]=true/\(0<i->Rec.so l.rs[i-1] <Rec.so l.rs[i]):=by
      simp only[Bool.or_eq_false_iff,Bool.not_eq_false',Bool.and_eq_false_iff,decide_eq_false_iff_not]at hb
      refine⟨hb.1.1,fun h=>?_⟩
      obtain⟨e,_⟩:=bN h
      subst e
      omega
     have oC:ml l.rs[i].lv<=ir l.ps l.rs[i].pa:=by
      obtain⟨_,h4,_⟩:=Cu hn.1
      simp only[Bool.or_eq_false_iff,Bool.not_eq_false']at hb
      have :=hb.2
      unfold pU cj at this
      simp only[Bool.and_eq_true,decide_eq_true_eq]at this
      omega
     refine ax ?_
     refine bE ?_
     simp only[go_sem]
     refine kp [1,4] [[1,0]] ?_
     repeat refine sq ?_
     refine aM hΓ fun K' hK=>?_
     simp only[go_sem,ae ay,ah,ai,aQ]
     repeat (refine⟨ob,?_⟩)
     refine hK _ ?_
     clear K' hK
     simp only[go_sem]
     refine⟨i+1,⟨ay,?_⟩,by(show l.rs.length-(i+1)<l.rs.length-i;omega),?_⟩
     ·exact⟨pK qj ay hn,fun j hj c6=>by
       rcases Nat.lt_succ_iff_lt_or_eq.1 c6 with h1 | rfl
       ·exact KY j hj h1
       ·exact oC⟩
     refine aY [1,4] [[1,0]] ?_ ?_<;>simp only[go_sem,aT ay oG,aU]
   ·have er:i=l.rs.length:=by
     have :¬ (i:Int)<l.rs.length:=by simpa using hb
     omega
    clear hb
    subst er
    repeat refine sq ?_
    refine bp ?_
    simp only[go_sem]
    refine kp [1] [[1,0]] ?_
    repeat refine sq ?_
    refine rs hΓ [1,6] [[1,0]] ?_
    repeat refine sq ?_
    refine aH ?_
    repeat refine sq ?_
    refine bB (fun s:Nat=>[(6,⟨true,.v (vInt s)⟩)]) (fun s=>[]) (fun s=>s<=l.ts.length/\jW gA Ret.so l.ts s) (fun s=>l.ts.length-s) 0 ?_ ?_ ?_ ?_
    ·exact⟨Nat.zero_le _,pJ⟩
    ·rfl
    ·rfl
    rintro i ⟨kf,mJ⟩
    simp only[go_sem]
    repeat refine sq ?_
    refine rs hΓ [1,6,116] [[1,0]] ?_
    repeat refine sq ?_
    refine av (fun hb=>?_) fun hb=>?_
    ·have br:i<l.ts.length:=by simpa using hb
     have dg:(i:Int)<l.ts.length:=by omega
     clear hb
     obtain⟨p,hp,fW,bN⟩:=n8 br i6
     repeat refine sq ?_
     refine ax ?_
     repeat refine sq ?_
     refine aH ?_
     repeat refine sq ?_
     refine dx hΓ hP [[],[0],[],[0,1,2],u4,u5,u6,u7,u8,u9,bO,cK,eU,cK,[0,1,2,3,4,5,6,7,8,9,10,13],l4,u16,jk,cK,[0,1,2,3,4,5,6,7,8,9,10,18],cK,[0,1,2,3,4,5,6,7,8,9,10,18,19,20],[0,1,2,3,4,5,6,7,8,9,10,18,19,20,21],[0,1,2,3,4,5,6,7,8,9,10,18,19,20,21,22],Ab,uQ,Aa] [1,6,145] [[1,0]] (by kernel_rfl) (fun K' hK=>by simp only[go_sem,ae br,ah,ai,dg,hp,ae fW,fun b=>oV b 22 (by decide)];(repeat (refine⟨by first | exact ob | (intro h;have:=bN (by simp_all);simp_all;done),?_⟩));exact e8) ?_
     repeat refine sq ?_
     refine av (fun hb=>?_) fun hb=>?_
     ·repeat refine sq ?_
      have dG:¬ bx l:=by
       intro h
       obtain⟨h1,h2⟩:=gb.1 h.ts i br br
       simp only[h1,Bool.not_true,Bool.false_or,Bool.and_eq_true,decide_eq_true_eq]at hb
       obtain⟨e,_⟩:=bN (by omega)
       subst e
       have :=h2 (by omega)
       have :=hb.2
       omega
      repeat refine sq ?_
      refine rx hΓ [2] [] (fun K' hK=>by simp only[go_sem,ae br,ah,ai,dg];exact fn) ?_
      refine au ?_
      simp only[go_sem]
      rw[mQ dG]
     ·repeat refine sq ?_
      have hn:gA l.ts[i]=true/\(0<i->Ret.so l.ts[i-1] <Ret.so l.ts[i]):=by
       simp only[Bool.or_eq_false_iff,Bool.not_eq_false',Bool.and_eq_false_iff,decide_eq_false_iff_not]at hb
       refine⟨hb.1,fun h=>?_⟩
       obtain⟨e,_⟩:=bN h
       subst e
       omega
      refine ax ?_
      refine bE ?_
      simp only[go_sem]
      refine kp [1,6] [[1,0]] ?_
      repeat refine sq ?_
      refine aM hΓ fun K' hK=>?_
      simp only[go_sem,ae br,ah,ai,dg]
      repeat (refine⟨ob,?_⟩)
      refine hK _ ?_
      clear K' hK
      simp only[go_sem]
      refine⟨i+1,⟨br,?_⟩,by(show l.ts.length-(i+1)<l.ts.length-i;omega),?_⟩
      ·exact pK mJ br hn
      refine aY [1,6] [[1,0]] ?_ ?_<;>simp only[go_sem,aT br i6,aU]
    ·have jB:i=l.ts.length:=by
      have :¬ (i:Int)<l.ts.length:=by simpa using hb
      omega
     clear hb
     subst jB
     repeat refine sq ?_
     refine bp ?_
     simp only[go_sem]
     refine kp [1] [[1,0]] ?_
     repeat refine sq ?_
     refine rs hΓ [1,7] [[1,0]] ?_
     repeat refine sq ?_
     refine aH ?_
     repeat refine sq ?_
     refine bB (fun s:Nat=>[(7,⟨true,.v (vInt s)⟩)]) (fun s=>[]) (fun s=>s<=l.ss.length/\jW iU Sig.so l.ss s/\Fy l s) (fun s=>l.ss.length-s) 0 ?_ ?_ ?_ ?_
     ·exact⟨Nat.zero_le _,pJ,fun j _ h=>by omega⟩
     ·rfl
     ·rfl
     rintro i ⟨hi3,KW,KV⟩
     simp only[go_sem]
     repeat refine sq ?_
     refine rs hΓ [1,7,150] [[1,0]] ?_
     repeat refine sq ?_
     refine av (fun hb=>?_) fun hb=>?_
     ·have dN:i<l.ss.length:=by simpa using hb
      have ka:(i:Int)<l.ss.length:=by omega
      clear hb
      obtain⟨p,hp,fW,bN⟩:=n8 dN tN
      repeat refine sq ?_
      refine ax ?_
      repeat refine sq ?_
      refine aH ?_
      repeat refine sq ?_
      refine rx hΓ [1,7,8] [[1,0],[8,0]] (fun K' hK=>by simp only[go_sem,ae dN,ah,ai,ka];exact fn) ?_
      repeat refine sq ?_
      refine dx hΓ hP [[],[0],[0,1],[0,1,2],u4,u5,u6,u7,u8,u7,[0,1,2,3,4,5,6,9],cK,eU,gP,u7,[0,1,2,3,4,5,6,14],u16,jk,ie,lk,gz,gz,[0,1,2,3,4,5,6,7,8,9,10,11,12,13,14,15,16,17,18,19,21],gz,[0,1,2,3,4,5,6,7,8,9,10,11,12,13,14,15,16,17,18,19,23],[0,1,2,3,4,5,6,7,8,9,10,11,12,13,14,15,16,17,18,19,21,22,23,24],Aa,E1,w6] [1,7,186] [[1,0]] (by kernel_rfl) (fun K' hK=>by simp only[go_sem,ae dN,ah,ai,ka,hp,ae fW,fun b=>oV b 23 (by decide)];(repeat (refine⟨by first | exact ob | (intro h;have:=bN (by simp_all);simp_all;done),?_⟩));exact e8) ?_
      repeat refine sq ?_
      refine av (fun hb=>?_) fun hb=>?_
      ·repeat refine sq ?_
       have dG:¬ bx l:=by
        intro h
        obtain⟨h1,h2⟩:=gb.1 h.ss i dN dN
        have h5:=h.sl i dN
        have h6:1<=l.ss[i].le:=by unfold iU cj at h1;simp only[Bool.and_eq_true,decide_eq_true_eq]at h1;omega
        have h7:pU l l.ss[i].pa l.ss[i].le=true:=by unfold pU cj;simp only[Bool.and_eq_true,decide_eq_true_eq];omega
        simp only[h1,h7,Bool.not_true,Bool.false_or,Bool.or_false,Bool.and_eq_true,decide_eq_true_eq]at hb
        obtain⟨e,_⟩:=bN (by omega)
        subst e
        have :=h2 (by omega)
        have :=hb.2
        omega
       repeat refine sq ?_
       refine rx hΓ [2] [] (fun K' hK=>by simp only[go_sem,ae dN,ah,ai,ka];exact fn) ?_
       refine au ?_
       simp only[go_sem]
       rw[mQ dG]
      ·repeat refine sq ?_
       have hn:iU l.ss[i]=true/\(0<i->Sig.so l.ss[i-1] <Sig.so l.ss[i]):=by
        simp only[Bool.or_eq_false_iff,Bool.not_eq_false',Bool.and_eq_false_iff,decide_eq_false_iff_not]at hb
        refine⟨hb.1.1,fun h=>?_⟩
        obtain⟨e,_⟩:=bN h
        subst e
        omega
       have oC:l.ss[i].le<=ir l.ps l.ss[i].pa:=by
        simp only[Bool.or_eq_false_iff,Bool.not_eq_false']at hb
        have :=hb.2
        unfold pU cj at this
        simp only[Bool.and_eq_true,decide_eq_true_eq]at this
        omega
       refine ax ?_
       refine bE ?_
       simp only[go_sem]
       refine kp [1,7] [[1,0]] ?_
       repeat refine sq ?_
       refine aM hΓ fun K' hK=>?_
       simp only[go_sem,ae dN,ah,ai,ka]
       repeat (refine⟨ob,?_⟩)
       refine hK _ ?_
       clear K' hK
       simp only[go_sem]
       refine⟨i+1,⟨dN,?_⟩,by(show l.ss.length-(i+1)<l.ss.length-i;omega),?_⟩
       ·exact⟨pK KW dN hn,fun j hj c6=>by
         rcases Nat.lt_succ_iff_lt_or_eq.1 c6 with h1 | rfl
         ·exact KV j hj h1
         ·exact oC⟩
       refine aY [1,7] [[1,0]] ?_ ?_<;>simp only[go_sem,aT dN tN,aU]
     ·have v5:i=l.ss.length:=by
       have :¬ (i:Int)<l.ss.length:=by simpa using hb
       omega
      clear hb
      subst v5
      repeat refine sq ?_
      refine bp ?_
      simp only[go_sem]
      refine kp [1] [[1,0]] ?_
      repeat refine sq ?_
      refine rx hΓ [190] [] (fun K' hK=>by simp only[go_sem,jx];exact fn) ?_
      repeat refine sq ?_
      refine av (fun hb=>?_) fun hb=>?_
      ·repeat refine sq ?_
       have dG:¬ bx l:=fun h=>by have:=h.nd;simp[this]at hb
       repeat refine sq ?_
       refine rs hΓ [2] [] ?_
       refine au ?_
       simp only[go_sem]
       rw[mQ dG]
      ·repeat refine sq ?_
       have CG:(qN l).Nodup:=by simpa using hb
       refine ax ?_
       repeat refine sq ?_
       refine rs hΓ [2] [] ?_
       refine au ?_
       simp only[go_sem]
       rw[Mr ⟨gb.2 hR,by omega,gb.2 qj,by omega,gb.2 mJ,by omega,gb.2 KW,by omega,fun j h=>KY j h h,fun j h=>KV j h h,CG⟩]
end
set_option maxHeartbeats 8000000
noncomputable section
theorem yQ(d:Nat)(a b:Int):iJ Tryz.prog (d+1) 3 (vInt a) (vInt b)=some (a==b):=by
 simp only[iJ,Tryz.underlying3,if_true]
theorem VB:Tryz.prog.stoodInHeld 46=false:=by kernel_rfl
theorem WI:Tryz.prog.eqGuardType Tryz.prog.depth 46=false:=by kernel_rfl
theorem W2(d:Nat)(a b a' b':Int):iJ Tryz.prog (d+2) 46 (.agg [vInt a,vInt b]) (.agg [vInt a',vInt b'])=some (a==a'&&b==b'):=by
 unfold iJ
 simp only[Tryz.underlying46,VB,Bool.false_eq_true,if_false,nF,pF,w9,List.getElem?_cons_zero,List.getElem?_cons_succ,yQ]
 cases a==a'<;>cases b==b'<;>rfl
@[go_sem] theorem aem(obj:Name->Option O)(op:BinOp)(a b a' b':Int):ji Tryz.prog obj op 46 (.agg [vInt a,vInt b]) (.agg [vInt a',vInt b'])=
    ⟨op=.eql\/op=.neq,.v (.bool (if op=.eql then(a==a'&&b==b')else !(a==a'&&b==b'))),obj⟩:=by
  unfold ji
  rw[show Op.maxDepth=9998+2 from rfl,W2]
  simp only[WI,true_and]
theorem VA:Tryz.prog.stoodInHeld 56=false:=by kernel_rfl
theorem WH:Tryz.prog.eqGuardType Tryz.prog.depth 56=false:=by kernel_rfl
theorem W0(d:Nat)(a b a' b':Int):iJ Tryz.prog (d+2) 56 (.agg [vInt a,vInt b]) (.agg [vInt a',vInt b'])=some (a==a'&&b==b'):=by
 unfold iJ
 simp only[Tryz.underlying56,VA,Bool.false_eq_true,if_false,nF,pF,w9,List.getElem?_cons_zero,List.getElem?_cons_succ,yQ]
 cases a==a'<;>cases b==b'<;>rfl
@[go_sem] theorem ael(obj:Name->Option O)(op:BinOp)(a b a' b':Int):ji Tryz.prog obj op 56 (.agg [vInt a,vInt b]) (.agg [vInt a',vInt b'])=
    ⟨op=.eql\/op=.neq,.v (.bool (if op=.eql then(a==a'&&b==b')else !(a==a'&&b==b'))),obj⟩:=by
  unfold ji
  rw[show Op.maxDepth=9998+2 from rfl,W0]
  simp only[WH,true_and]
theorem VC:Tryz.prog.stoodInHeld 38=false:=by kernel_rfl
theorem WJ:Tryz.prog.eqGuardType Tryz.prog.depth 38=false:=by kernel_rfl
theorem W3(d:Nat)(a b a' b':Int):iJ Tryz.prog (d+2) 38 (.agg [vInt a,vInt b]) (.agg [vInt a',vInt b'])=some (a==a'&&b==b'):=by
 unfold iJ
 simp only[Tryz.underlying38,VC,Bool.false_eq_true,if_false,nF,pF,w9,List.getElem?_cons_zero,List.getElem?_cons_succ,yQ]
 cases a==a'<;>cases b==b'<;>rfl
@[go_sem] theorem aen(obj:Name->Option O)(op:BinOp)(a b a' b':Int):ji Tryz.prog obj op 38 (.agg [vInt a,vInt b]) (.agg [vInt a',vInt b'])=
    ⟨op=.eql\/op=.neq,.v (.bool (if op=.eql then(a==a'&&b==b')else !(a==a'&&b==b'))),obj⟩:=by
  unfold ji
  rw[show Op.maxDepth=9998+2 from rfl,W3]
  simp only[WJ,true_and]
theorem Vz:Tryz.prog.stoodInHeld 81=false:=by kernel_rfl
theorem WG:Tryz.prog.eqGuardType Tryz.prog.depth 81=false:=by kernel_rfl
theorem WZ(k:Nat)(a b c d e f g a' b' c' d' e' f' g':Int):iJ Tryz.prog (k+2) 81 (.agg [vInt a,vInt b,vInt c,vInt d,vInt e,vInt f,vInt g]) (.agg [vInt a',vInt b',vInt c',vInt d',vInt e',vInt f',vInt g'])=
 some (a==a'&&(b==b'&&(c==c'&&(d==d'&&(e==e'&&(f==f'&&g==g')))))):=by
 unfold iJ
 simp only[Tryz.underlying81,Vz,Bool.false_eq_true,if_false,nF,pF,w9,List.getElem?_cons_zero,List.getElem?_cons_succ,yQ]
 cases a==a'<;>cases b==b'<;>cases c==c'<;>cases d==d'<;>cases e==e'<;>cases f==f'<;>cases g==g'<;>rfl
@[go_sem] theorem aek(obj:Name->Option O)(op:BinOp)(a b c d e f g a' b' c' d' e' f' g':Int):ji Tryz.prog obj op 81 (.agg [vInt a,vInt b,vInt c,vInt d,vInt e,vInt f,vInt g]) (.agg [vInt a',vInt b',vInt c',vInt d',vInt e',vInt f',vInt g'])=
    ⟨op=.eql\/op=.neq,.v (.bool (if op=.eql then(a==a'&&(b==b'&&(c==c'&&(d==d'&&(e==e'&&(f==f'&&g==g'))))))else !(a==a'&&(b==b'&&(c==c'&&(d==d'&&(e==e'&&(f==f'&&g==g')))))))),obj⟩:=by
  unfold ji
  rw[show Op.maxDepth=9998+2 from rfl,WZ]
  simp only[WG,true_and]
def xe{α:Type}(a b:List α)(n:Nat):Prop:=∀ j (h:j<a.length) (h':j<b.length),j<n->a[j]=b[j]
theorem O1{α:Type}{a b:List α}{i:Nat}(h:xe a b i)(hi:∀ (h:i<a.length) (h':i<b.length),a[i]=b[i]):xe a b (i+1):=by
 intro j hj eB c6
 rcases Nat.lt_succ_iff_lt_or_eq.1 c6 with h1 | rfl
 ·exact h j hj eB h1
 ·exact hi hj eB
theorem O2{α:Type}{a b:List α}(hl:a.length=b.length)(h:xe a b a.length):a=b:=List.ext_getElem hl fun j h1 h2=>h j h1 h2 h1
theorem KT{l:List Int}{n:Int}:l.contains n=true↔∃ k,∃ (h:k<l.length),l[k]=n:=by
 rw[List.contains_iff_mem]
 constructor
 ·intro h
  obtain⟨k,hk,e⟩:=List.getElem_of_mem h
  exact⟨k,hk,e⟩
 ·rintro⟨k,hk,rfl⟩
  exact List.getElem_mem hk
@[go_sem] def P15:PSpec:=p2 cH iI (fun _ _=>True) (fun l n=>.bool (l.contains n)) true
@[go_sem] def uH:Spec:=P15.toSpec
theorem Az:aN Tryz.prog 15 P15:=by
 refine cX (rs:=[.tmp 4]) Tryz.func15 Tryz.ntmps15 fun l n hp hw=>?_
 simp only[iI,cH]at hw |-
 have hΓ:=@fg Tryz.prog
 have hl:l.length<=maxLen:=by have:=hw.1.1;simpa using this
 repeat refine sq ?_
 refine rs hΓ [0,1] [] ?_
 repeat refine sq ?_
 refine rs hΓ [0,1,5] [] ?_
 repeat refine sq ?_
 refine aH ?_
 repeat refine sq ?_
 refine bB (fun s:Nat=>[(5,⟨true,.v (vInt s)⟩)]) (fun s=>[]) (fun s=>s<=l.length/\∀ k (h:k<l.length),k<s->l[k]≠n) (fun s=>l.length-s) 0 ?_ ?_ ?_ ?_
 ·exact⟨Nat.zero_le _,by simp⟩
 ·rfl
 ·rfl
 rintro i ⟨hi,hR⟩
 simp only[go_sem]
 repeat refine sq ?_
 refine rs hΓ [0,1,5,9] [] ?_
 repeat refine sq ?_
 refine av (fun hb=>?_) fun hb=>?_
 ·have ab:i<l.length:=by simpa using hb
  have an:(i:Int)<l.length:=by omega
  clear hb
  repeat refine sq ?_
  refine ax ?_
  repeat refine sq ?_
  refine aH ?_
  repeat refine sq ?_
  refine rx hΓ [0,1,5,17] [] (fun K' hK=>by simp only[go_sem,ae ab,ah,ai,an];exact fn) ?_
  repeat refine sq ?_
  refine av (fun hb=>?_) fun hb=>?_
  ·repeat refine sq ?_
   refine rx hΓ [4] [] (fun K' hK=>by simp only[go_sem,ae ab,ah,ai,an];exact fn) ?_
   refine au ?_
   simp only[go_sem]
   rw[KT.2 ⟨i,ab,by simpa using hb⟩]
  ·repeat refine sq ?_
   refine ax ?_
   refine bE ?_
   simp only[go_sem]
   refine kp [0,1,5] [] ?_
   repeat refine sq ?_
   refine aM hΓ fun K' hK=>?_
   simp only[go_sem,ae ab,ah,ai,an]
   repeat (refine⟨ob,?_⟩)
   refine hK _ ?_
   clear K' hK
   simp only[go_sem]
   refine⟨i+1,⟨ab,?_⟩,by(show l.length-(i+1)<l.length-i;omega),?_⟩
   ·intro k hk eA
    rcases Nat.lt_succ_iff_lt_or_eq.1 eA with h5 | rfl
    ·exact hR k hk h5
    ·simpa using hb
   refine aY [0,1,5] [] ?_ ?_<;>simp only[go_sem,aT ab hl,aU]
 ·have be:i=l.length:=by
   have :¬ (i:Int)<l.length:=by simpa using hb
   omega
  clear hb
  subst be
  repeat refine sq ?_
  refine bp ?_
  simp only[go_sem]
  refine kp [] [] ?_
  repeat refine sq ?_
  refine rs hΓ [4] [] ?_
  refine au ?_
  simp only[go_sem]
  rw[sw KT (fun ⟨k,hk,e⟩=>hR k hk hk e)]
@[go_sem] def P24:PSpec:=p2 cH cH (fun _ _=>True) (fun a b=>.bool (decide (a=b))) true
@[go_sem] def Eu:Spec:=P24.toSpec
theorem PT:aN Tryz.prog 24 P24:=by
 refine cX (rs:=[.tmp 4]) Tryz.func24 Tryz.ntmps24 fun a b hp hw=>?_
 have hP:=dL
 simp only[cH]at hw |-
 have hΓ:=@fg Tryz.prog
 have hl:a.length<=maxLen:=by have:=hw.1.1;simpa using this
 repeat refine sq ?_
 refine rs hΓ [0,1] [] ?_
 repeat refine sq ?_
 refine rs hΓ [0,1,10] [] ?_
 repeat refine sq ?_
 refine av (fun hb=>?_) fun hb=>?_
 ·repeat refine sq ?_
  have dG:a≠b:=by
   rintro rfl
   simp at hb
  repeat refine sq ?_
  refine rs hΓ [4] [] ?_
  refine au ?_
  simp only[go_sem]
  rw[decide_eq_false dG]
 ·repeat refine sq ?_
  have lG:a.length=b.length:=by
   have :(a.length:Int)=b.length:=by simpa using hb
   omega
  clear hb
  refine ax ?_
  repeat refine sq ?_
  refine rs hΓ [0,1,5] [] ?_
  repeat refine sq ?_
  refine aH ?_
  repeat refine sq ?_
  refine bB (fun s:Nat=>[(5,⟨true,.v (vInt s)⟩)]) (fun s=>[]) (fun s=>s<=a.length/\xe a b s) (fun s=>a.length-s) 0 ?_ ?_ ?_ ?_
  ·exact⟨Nat.zero_le _,fun j _ _ h=>by omega⟩
  ·rfl
  ·rfl
  rintro i ⟨hi,hR⟩
  simp only[go_sem]
  repeat refine sq ?_
  refine rs hΓ [0,1,5,14] [] ?_
  repeat refine sq ?_
  refine av (fun hb=>?_) fun hb=>?_
  ·have ab:i<a.length:=by simpa using hb
   have an:(i:Int)<a.length:=by omega
   clear hb
   have Ct:(i:Int)<b.length:=by omega
   have hlb:i<b.length:=by omega
   repeat refine sq ?_
   refine ax ?_
   repeat refine sq ?_
   refine aH ?_
   repeat refine sq ?_
   refine dx hΓ hP [[],[],[0,1],[0,1,2],[],[],[4,5],[4,5,6],u8] [0,1,5,25] [] (by kernel_rfl) (fun K' hK=>by simp only[go_sem,ae ab,ae (show i<b.length by omega),ah,ai,an,Ct];exact fd) ?_
   repeat refine sq ?_
   refine av (fun hb=>?_) fun hb=>?_
   ·repeat refine sq ?_
    have dG:a≠b:=by
     rintro rfl
     simp at hb
    repeat refine sq ?_
    refine rx hΓ [4] [] (fun K' hK=>by simp only[go_sem,ae ab,ae (show i<b.length by omega),ah,ai,an,Ct];exact fn) ?_
    refine au ?_
    simp only[go_sem]
    rw[decide_eq_false dG]
   ·repeat refine sq ?_
    refine ax ?_
    refine bE ?_
    simp only[go_sem]
    refine kp [0,1,5] [] ?_
    repeat refine sq ?_
    refine aM hΓ fun K' hK=>?_
    simp only[go_sem,ae ab,ae (show i<b.length by omega),ah,ai,an,Ct]
    repeat (refine⟨ob,?_⟩)
    refine hK _ ?_
    clear K' hK
    simp only[go_sem]
    refine⟨i+1,⟨ab,?_⟩,by(show a.length-(i+1)<a.length-i;omega),?_⟩
    ·exact O1 hR fun _ _=>by simpa using hb
    refine aY [0,1,5] [] ?_ ?_<;>simp only[go_sem,aT ab hl,aU]
  ·have be:i=a.length:=by
    have :¬ (i:Int)<a.length:=by simpa using hb
    omega
   clear hb
   subst be
   repeat refine sq ?_
   refine bp ?_
   simp only[go_sem]
   refine kp [] [] ?_
   repeat refine sq ?_
   refine rs hΓ [4] [] ?_
   refine au ?_
   simp only[go_sem]
   rw[decide_eq_true (O2 lG hR)]
def aa9:List (Nat×Spec):=[(24,Eu)]
attribute [go_sem] aa9
def K10:List (Nat×Spec):=[]
attribute [go_sem] K10
end
noncomputable section
theorem aN.conv{P:Program}{f:FuncId}{s s':PSpec}(h:aN P f s)(hf:s'.flat=s.flat)(hp:∀ xs,s'.pre xs->s.pre xs/\s'.fn xs=s.fn xs):aN P f s':=by
 refine⟨h.ne,h.enter,fun eC xs hx=>?_,fun m w xs args hm hx dZ=>?_⟩
 ·rw[(hp xs hx).2];exact h.flat (hf▸eC) xs (hp xs hx).1
 ·rw[(hp xs dZ).2];exact h.calls m w xs args hm hx (hp xs dZ).1
def S132:Spec:=uy Tryz.prog 29
theorem JK:aR Tryz.prog 132 S132:=XQ Ml
attribute [go_sem] S132
def K11:List (Nat×Spec):=[(132,S132)]
attribute [go_sem] K11
def XF(l:Led):List (Name×O):=[([8,0],.arr 2 (l.ps.map gJ)),([11,0],.arr 7 (l.rs.map encR)),([14,0],.arr 8 (l.ts.map fv)),([17,0],.arr 7 (l.ss.map encS))]
def XG(l:Led):D:=.agg [.msl [8,0] l.ps.length,.msl [11,0] l.rs.length,.msl [14,0] l.ts.length,.msl [17,0] l.ss.length]
attribute [go_sem] XF XG
theorem Ha(l:List Pap):∀ y∈l.map gJ,y.cells.length=2/\y.okc=true:=by
 intro y hy;obtain⟨x,_,rfl⟩:=List.mem_map.1 hy;exact⟨rfl,rfl⟩
theorem A2(l:List Rec):∀ y∈l.map encR,y.cells.length=7/\y.okc=true:=by
 intro y hy;obtain⟨x,_,rfl⟩:=List.mem_map.1 hy;exact⟨rfl,rfl⟩
theorem G'(l:List Ret):∀ y∈l.map fv,y.cells.length=8/\y.okc=true:=by
 intro y hy;obtain⟨x,_,rfl⟩:=List.mem_map.1 hy;exact⟨rfl,rfl⟩
theorem A1(l:List Sig):∀ y∈l.map encS,y.cells.length=7/\y.okc=true:=by
 intro y hy;obtain⟨x,_,rfl⟩:=List.mem_map.1 hy;exact⟨rfl,rfl⟩
theorem He(l:List Int):∀ y∈l.map vInt,y.cells.length=1/\y.okc=true:=by
 intro y hy;obtain⟨x,_,rfl⟩:=List.mem_map.1 hy;exact⟨rfl,rfl⟩
theorem ao{p:Prop}(h:p:=by first | exact Ha _ | exact A2 _ | exact G' _ | exact A1 _ | exact He _ | ((repeat' apply And.intro)<;>first | rfl | omega | (unfold maxLen;omega) | trivial | decide | exact Ha _ | exact A2 _ | exact G' _ | exact A1 _ | exact He _) | exact ob):p:=h
theorem ak{p:Prop}(h:p:=by(repeat (refine⟨ao,?_⟩));exact hK _ (by simp only[go_sem]) (by simp only[go_sem]<;>rfl)):p:=h
theorem eT{p:Prop}(h:p:=by(repeat (refine⟨ao,?_⟩));(first | refine⟨by rfl,?_⟩ | skip);exact hK _ (by simp only[go_sem]) (by simp only[go_sem]<;>rfl)):p:=h
end
end Go.Eng
