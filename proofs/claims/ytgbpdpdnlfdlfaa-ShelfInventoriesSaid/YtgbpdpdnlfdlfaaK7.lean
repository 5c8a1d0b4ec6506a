import Derived.Test.YtgbpdpdnlfdlfaaK6
/- Texts KB to KB. -/
set_option linter.all false
namespace Go.Eng
open Go Go.Proofs
noncomputable def xK(f:FuncId):Option SpecB:=
 match Nat.beq f 55 with
 |true=>some (Fh Try.prog 22)
 |false=>match Nat.beq f 126 with
  |true=>some (Fh Try.prog 99)
  |false=>match Nat.beq f 54 with
   |true=>some P7
   |false=>match Nat.beq f 115 with
    |true=>some P6
    |false=>none
noncomputable def uC(_:FuncId->Option SpecB)(f:FuncId):Option SpecB:=xK f
theorem KV:∀ Γ:FuncId->Option SpecB,(∀ f s,aM Γ f=some s->an Try.prog f s)->∀ f s,uC Γ f=some s->an Try.prog f s.spec:=by
 intro Γ _ f s h
 unfold uC xK at h
 split at h
 ·rename_i hb;have:=Nat.eq_of_beq_eq_true hb;subst this;cases h;exact w8 Fi
 ·split at h
  ·rename_i hb;have:=Nat.eq_of_beq_eq_true hb;subst this;cases h;exact w8 QB
  ·split at h
   ·rename_i hb;have:=Nat.eq_of_beq_eq_true hb;subst this;cases h;exact MS
   ·split at h
    ·rename_i hb;have:=Nat.eq_of_beq_eq_true hb;subst this;cases h;exact CQ
    ·cases h
noncomputable def zU(F:List Nat)(T:List Ent):FuncId->Option SpecB:=ΓB Try.prog (xd Try.prog uC 100000 F T) 100000 24
theorem KS{F:List Nat}{T:List Ent}(hT:∀ e∈T,ak Try.prog e):∀ f s,aM (zU F T) f=some s->an Try.prog f s:=
 xt (QV (fun Γ h f s=>KV Γ h f s) hT) 24
theorem aJ{F:List Nat}{T:List Ent}(hT:∀ e∈T,ak Try.prog e){e:Ent}(h:tp Try.prog (zU F T) 100000 e=true):ak Try.prog e:=IN (KS hT) h
theorem aL{P:Program}{e:Ent}{T:List Ent}(h:ak P e)(hT:∀ e∈T,ak P e):∀ x∈e::T,ak P x:=by
 intro x hx
 rcases List.mem_cons.1 hx with rfl | hx
 ·exact h
 ·exact hT x hx
def Bf:List Ent:=[]
theorem Cx:∀ e∈Bf,ak Try.prog e:=fun e h=>by cases h
end Go.Eng
