import PyProof.Rows.All
import Wide.All
import OpenK.AllK
import Wide.FinOn
import KE.KExcInit
import KE.KExcIs
import KE.KExcMore
import HandS.ForMost
import HandS.Exc
import HandS.IsInst
import HandS.Defaults
import HandS.ClsMeth
import HandS.MakeKwOnly
import HandS.HeadHook4
import HandS.TupMul
import HandS.Walk
import KE.KStateDown
import Lean
import HandS.Head0
import HandS.Head1
import HandS.Head2
import HandS.HeadEnd
import HandS.MakeKw
import PySem.Challenge.RW_everyreal_k99_errors_by_hand
set_option Elab.async false
set_option linter.all false
set_option maxRecDepth 100000
set_option maxHeartbeats 4000000
/-! Exceptions of own classes with an own __init__, held as values: the machine's side. -/
namespace PySem
namespace EV
open Builtin Builtin.ObjectAttr PySem.HandSPX
/-- own classes, then a built-in class's chain -/
def tailB (bmB : List Value) : List Value → Bool
  | .ref _ :: r => tailB bmB r
  | l => l == bmB
theorem tailB_split (bmB : List Value) : ∀ l : List Value, tailB bmB l = true → ∃ cs : List Addr, l = cs.map Value.ref ++ bmB
  | [], e => ⟨[], by simpa using beq_iff_eq.mp e⟩
  | .ref c :: r, e => by
    obtain ⟨cs, q⟩ := tailB_split bmB r e
    exact ⟨c :: cs, by rw [q]; rfl⟩
  | .none :: _, e => ⟨[], by simpa using beq_iff_eq.mp e⟩
  | .ellipsis :: _, e => ⟨[], by simpa using beq_iff_eq.mp e⟩
  | .notImplemented :: _, e => ⟨[], by simpa using beq_iff_eq.mp e⟩
  | .bool _ :: _, e => ⟨[], by simpa using beq_iff_eq.mp e⟩
  | .int _ _ :: _, e => ⟨[], by simpa using beq_iff_eq.mp e⟩
  | .float _ _ :: _, e => ⟨[], by simpa using beq_iff_eq.mp e⟩
  | .str _ _ :: _, e => ⟨[], by simpa using beq_iff_eq.mp e⟩
  | .bytes _ _ :: _, e => ⟨[], by simpa using beq_iff_eq.mp e⟩
  | .type _ :: _, e => ⟨[], by simpa using beq_iff_eq.mp e⟩
  | .builtin _ :: _, e => ⟨[], by simpa using beq_iff_eq.mp e⟩
theorem tailB_has {bmB l : List Value} (e : tailB bmB l = true) (X : String) : l.contains (.type X) = bmB.contains (.type X) := by
  obtain ⟨cs, rfl⟩ := tailB_split bmB l e
  clear e
  induction cs with
  | nil => rfl
  | cons c r ih =>
    rw [List.map_cons, List.cons_append, List.contains_cons, ih]
    rfl
/-- what is known of a built-in class of errors -/
structure BaseX (B newId initId : String) (bmB : List Value) : Prop where
  F : ExcBaseFacts B newId initId bmB
  S : StoreFacts B bmB "object.__setattr__" "object"
  ob : bmB.contains (.type "object") = true
  be : bmB.contains (.type "BaseException") = true
  ne : bmB.isEmpty = false
  hi : W.handedIn (.builtin initId) = true
theorem base_VE : BaseX "ValueError" "ValueError.__new__" "ValueError.__init__" [.type "ValueError", .type "Exception", .type "BaseException", .type "object"] :=
  ⟨F.excBase_ValueError, F.store_ValueError, by decide +kernel, by decide +kernel, rfl, by decide +kernel⟩
theorem base_LE : BaseX "LookupError" "LookupError.__new__" "LookupError.__init__" [.type "LookupError", .type "Exception", .type "BaseException", .type "object"] :=
  ⟨F.excBase_LookupError, F.store_LookupError, by decide +kernel, by decide +kernel, rfl, by decide +kernel⟩
theorem base_OE : BaseX "OverflowError" "OverflowError.__new__" "OverflowError.__init__" [.type "OverflowError", .type "ArithmeticError", .type "Exception", .type "BaseException", .type "object"] :=
  ⟨F.excBase_OverflowError, F.store_OverflowError, by decide +kernel, by decide +kernel, rfl, by decide +kernel⟩
theorem tailB_pass {B newId initId : String} {bmB l : List Value} (X : BaseX B newId initId bmB) (e : tailB bmB l = true) (self : Value) : refuseLoop self "__setattr__" l = pure () := by
  obtain ⟨cs, rfl⟩ := tailB_split bmB l e
  clear e
  induction cs with
  | nil => exact X.S.passes self
  | cons c r ih =>
    rw [List.map_cons, List.cons_append, refuseLoop_ref]
    exact ih
theorem tailB_ne {B newId initId : String} {bmB l : List Value} (X : BaseX B newId initId bmB) (e : tailB bmB l = true) : l.isEmpty = false := by
  obtain ⟨cs, rfl⟩ := tailB_split bmB l e
  cases cs with
  | nil => exact X.ne
  | cons c r => rfl

/-! ### C(.., k = v): type.__call__ with keywords -/
section
variable {M : Model} {A : Around} {E : Value → Shared → Prop} {h : Heap} {g : Array GenState} {d : Drawn} {t : Nat} {os : OsState}
variable {nm q : Str} {C N : Addr} {bs bm bmB : List Value} {hdct : Bool} {sn : List Str} {sub : List Value} {ab : Bool} {col : Option Bool} {dd : Option Addr} {k0 k1 k2 k3 k5 : Option Value} {B newId initId : String} {kw : List (Str × Value)}
theorem check_newK (F : ExcBaseFacts B newId initId bmB) (hT : ∀ X : String, bm.contains (.type X) = bmB.contains (.type X)) {rest : List Value} {Q : Unit → Shared → Prop}
    (hC : h.get? C = some (excClassObj nm q C N bs bm hdct sn sub ab col dd k0 k1 k2 k3 k5 newId)) (hq : Q () ⟨h, g, d, t, os⟩) : wpAny M A (checkBuiltinCall newId ⟨.ref C :: rest, kw⟩) Q E ⟨h, g, d, t, os⟩ := by
  have hcont : (Value.ref C :: bm).contains (.type B) = true := by rw [List.contains_cons, hT, F.hasB, Bool.or_true]
  have hstar := F.noStar
  simp only [checkBuiltinCall, F.newKind, F.newSplit, F.newRow]
  repeat (first | refine wpAny_loadPart_at hC ?_ | (refine wpAny_isSubtype_exc hC ?_; rw [hcont]) | refine wpAny_staticBase_exc hC ?_ | refine wpAny_madeBy_exc hC ?_ | simp only [bne_self_eq_false, Bool.false_eq_true, if_false] | wp_step)
  exact hq
end
section
variable {prog : Program} {w : World} {A : Around} {E : Value → Shared → Prop} {R : Result → Shared → Prop} {h : Heap} {g : Array GenState} {d : Drawn} {t : Nat} {os : OsState}
variable {nm q : Str} {C N : Addr} {bs bm bmB : List Value} {hdct : Bool} {sn : List Str} {sub : List Value} {ab : Bool} {col : Option Bool} {dd : Option Addr} {k0 k1 k2 k3 k5 : Option Value} {B newId initId : String} {kw : List (Str × Value)}
theorem new_K (F : ExcBaseFacts B newId initId bmB) (hT : ∀ X : String, bm.contains (.type X) = bmB.contains (.type X)) {rest : List Value}
    (hC : h.get? C = some (excClassObj nm q C N bs bm hdct sn sub ab col dd k0 k1 k2 k3 k5 newId)) (hrest : rest.length ≤ sizeLine)
    (hq : R (.ok (.ret (.ref (h.objs.size + 1)))) ⟨(h.push (W.kdv_tup rest)).push (excO C h.objs.size), g, d, t, os⟩) :
    codeAny (model prog w) A (.builtin newId ⟨.ref C :: rest, kw⟩) R ⟨h, g, d, t, os⟩ := by
  have hends := F.ends
  have c1 : (Value.ref C :: bm).contains (.type B) = true := by rw [List.contains_cons, hT, F.hasB, Bool.or_true]
  have c2 : (Value.ref C :: bm).contains (.type "AttributeError") = false := by rw [List.contains_cons, hT, F.noAttr]; rfl
  have c3 : (Value.ref C :: bm).contains (.type "NameError") = false := by rw [List.contains_cons, hT, F.noName]; rfl
  refine codeAny_builtinAt F.entry ?_
  unfold Builtin.«BaseException.__new__»
  refine wpAt_bind ?_
  show wpAt _ _ _ (stack >>= _) _ _ _
  refine wpAt_bind (wpAt_stack fun p below => wpAt_of_wpAny ?_)
  wp_walk
  refine wpAt_of_wpAny ?_
  rw [F.owner]
  repeat (first | with_reducible refine wpAny_madeHere_exc F.canon hC ?_ | with_reducible refine wpAny_loadPart_at hC ?_ | (with_reducible refine wpAny_isSubtype_exc hC ?_; first | rw [c1] | rw [c2] | rw [c3]) | wp_step)
  show R _ _
  rw [Heap.size_push]
  exact hq
theorem tcall_K (F : ExcBaseFacts B newId initId bmB) (hT : ∀ X : String, bm.contains (.type X) = bmB.contains (.type X)) {rest : List Value} {fI : Addr} {Q : Fin → Shared → Prop}
    (hC : h.get? C = some (excClassObj nm q C N bs bm hdct sn sub ab col dd k0 k1 k2 k3 k5 newId))
    (hi : W.Looks (model prog w) h (typeLookup (.ref C) "__init__") (some (.ref fI))) (hb : ∀ self, W.Looks (model prog w) h (bindSpecial (.ref fI) self) (.ref fI, [self])) (hrest : rest.length ≤ sizeLine)
    (hq : codeAny (model prog w) A (.call (.ref fI) ⟨.ref (h.objs.size + 1) :: rest, kw⟩)
      (fun r s' => match r with | .ok (.ret v) => v = .none ∧ Q (.done (.ret (.ref (h.objs.size + 1)))) s' | .ok _ => False | .error e => E e s')
      ⟨(h.push (W.kdv_tup rest)).push (excO C h.objs.size), g, d, t, os⟩) :
    wpAny (model prog w) A (Builtin.«type.__call__» ⟨.ref C :: rest, kw⟩) Q E ⟨h, g, d, t, os⟩ := by
  repeat (first | with_reducible refine wpAny_loadPart_at hC ?_ | with_reducible refine wpAny_madeBy_exc hC ?_ | wp_step)
  refine codeAny_call_builtin_code (Code.quiet_builtin _ F.quiet) (check_newK F hT hC ?_)
  refine new_K F hT hC hrest ?_
  show wpAny _ _ _ _ _ _
  have kp : ∀ b o, h.get? b = some o → ((h.push (W.kdv_tup rest)).push (excO C h.objs.size)).get? b = some o := fun b o e => Heap.get?_push_of_some _ (Heap.get?_push_of_some _ e)
  have hC' := kp _ _ hC
  have hg : ((h.push (W.kdv_tup rest)).push (excO C h.objs.size)).get? (h.objs.size + 1) = some (excO C h.objs.size) := by heap_get
  have hcC : (Value.ref C :: bm).contains (.ref C) = true := by simp
  have i1 := hi.keeps kp
  have b1 := (hb (.ref (h.objs.size + 1))).keeps kp
  unfold isInstance
  repeat (first | with_reducible refine wpAny_loadPart_at hg ?_ | (with_reducible refine wpAny_isSubtype_exc hC' ?_; rw [hcC]) | wp_step)
  show wpAny _ _ (typeLookup (.ref C) _) _ _ _
  refine i1.at ?_
  refine wpAny_holding (wpAny_bind (b1.at ?_))
  refine wpAny_bind (wpAny_call (codeAny_mono hq fun r s' z => ?_))
  rcases r with e | (v | _ | _ | _) <;> first | exact z | exact z.elim | skip
  obtain ⟨rfl, z⟩ := z
  first
    | exact wpAny_pure (wpAny_pure z)
    | (wp_walk; exact z)
theorem call_K (F : ExcBaseFacts B newId initId bmB) (hT : ∀ X : String, bm.contains (.type X) = bmB.contains (.type X)) {rest : List Value} {fI : Addr}
    (hC : h.get? C = some (excClassObj nm q C N bs bm hdct sn sub ab col dd k0 k1 k2 k3 k5 newId))
    (hi : W.Looks (model prog w) h (typeLookup (.ref C) "__init__") (some (.ref fI))) (hb : ∀ self, W.Looks (model prog w) h (bindSpecial (.ref fI) self) (.ref fI, [self])) (hrest : rest.length ≤ sizeLine)
    (hq : codeAny (model prog w) (A.under (.builtin "type.__call__" ⟨.ref C :: rest, kw⟩)) (.call (.ref fI) ⟨.ref (h.objs.size + 1) :: rest, kw⟩) (W.InitBack (h.objs.size + 1) R)
      ⟨(h.push (W.kdv_tup rest)).push (excO C h.objs.size), g, d, t, os⟩) :
    codeAny (model prog w) A (.call (.ref C) ⟨rest, kw⟩) R ⟨h, g, d, t, os⟩ := by
  have f1 := tc_lookup
  have f2 := tc_bind (.ref C)
  have hTy : (⟨h, g, d, t, os⟩ : Shared).TypeIs (.ref C) "type" := ⟨_, hC, rfl⟩
  refine codeAny_of_tree ?_
  show wpAny _ _ (callAny (.ref C) _) _ _ _
  repeat (any_goals (first | assumption | with_reducible refine wpAny_loadPart_at hC ?_ | wp_step))
  refine ⟨rfl, ?_⟩
  refine codeAny_call_builtin_at (Code.quiet_builtin _ (by decide +kernel)) entry_typeCall (wpAny_check_type_call_sub hC (tcall_K F hT hC hi hb hrest ?_))
  refine codeAny_mono hq fun r s' z => ?_
  rcases r with e | (v | _ | _ | _) <;> exact z
end
end EV
end PySem

set_option Elab.async false
set_option linter.all false
set_option maxRecDepth 100000
set_option maxHeartbeats 4000000
/-! Exceptions of own classes with an own __init__, held as values: the layer's side (readings and rules). -/
namespace PySem
namespace EV
open Builtin Builtin.ObjectAttr PySem.HandSPX
section
variable {prog : Program} {w : World} {A : Around} {E : Value → Shared → Prop} {R : Result → Shared → Prop} {hp : Heap} {g : Array GenState} {d : Drawn} {t : Nat} {os : OsState}
variable {B newId initId : String} {bmB : List Value}
/-- the base's own __init__(self, ..): the arguments stand in a new tuple -/
theorem init_B {nm q : Str} {C N : Addr} {bs bm : List Value} {hdct : Bool} {sn : List Str} {sub : List Value} {ab : Bool} {col : Option Bool} {dd : Option Addr} {k0 k1 k2 k3 k5 : Option Value}
    (F : ExcBaseFacts B newId initId bmB) (hT : ∀ X : String, bm.contains (.type X) = bmB.contains (.type X)) {e t0 : Addr} {rest : List Value}
    (hC : hp.get? C = some (excClassObj nm q C N bs bm hdct sn sub ab col dd k0 k1 k2 k3 k5 newId)) (he : hp.get? e = some (excO C t0)) (hrest : rest.length ≤ sizeLine)
    (hq : ∀ h', (∀ b o, b ≠ e → hp.get? b = some o → h'.get? b = some o) → h'.get? e = some (excO C hp.objs.size) → h'.get? hp.objs.size = some (W.kdv_tup rest) → R (.ok (.ret .none)) ⟨h', g, d, t, os⟩) :
    codeAny (model prog w) A (.call (.builtin initId) ⟨.ref e :: rest, []⟩) R ⟨hp, g, d, t, os⟩ := by
  refine codeAny_call_builtin F.init.plain F.initEntry (check_init_own F hT hC he rfl ?_)
  wp_walk
  refine hq _ (fun b o hb ho => ?_) ?_ ?_
  · rw [Heap.get?_update_other _ _ (Ne.symm hb)]
    exact Heap.get?_push_of_some _ ho
  · rw [Heap.get?_update_self _ (Heap.get?_push_of_some _ he) rfl]
    rfl
  · rw [Heap.get?_update_other _ _ (Nat.ne_of_lt (Heap.lt_size he))]
    exact Heap.get?_push_size hp rfl
/-- self.name = v on an exception that has no dict yet, whatever its base -/
theorem osa_B {K : W.Frag} {name : Str} {tk : Tok} {v : Value} {x C : Addr} {fv : Array Value} {cd : ClassData} (BX : BaseX B newId initId bmB)
    (X : K.In hp) (hx : hp.get? x = some { cls := .ref C, data := .fields fv }) (hcd : W.clsIn K C = some cd) (hm : tailB bmB cd.mro = true) (hh : cd.hasDict = true) (ha : W.findIn K (.ref C) name = some none)
    (hq : ∀ h' tk' dx, (∀ b o, b ≠ x → hp.get? b = some o → h'.get? b = some o) → hp.objs.size ≤ dx → dx ≠ x → h'.get? x = some { cls := .ref C, dict := some dx, data := .fields fv } →
      h'.Ns1 dx (fun y => if y = name then some v else none) → R (.ok (.ret .none)) ⟨h', g, d, tk', os⟩) :
    codeAny (model prog w) A (.call (.builtin "object.__setattr__") ⟨[.ref x, .str name tk, v], []⟩) R ⟨hp, g, d, t, os⟩ := by
  have I : W.InstAt hp x { cls := .ref C, data := .fields fv } C none := ⟨hx, rfl, rfl, trivial⟩
  have SF := F.store_object
  have ne := tailB_ne BX hm
  have hob : cd.mro.contains (.type "object") = true := (tailB_has hm "object").trans BX.ob
  have hxs : x ≠ hp.objs.size := Nat.ne_of_lt (Heap.lt_size hx)
  have sub : W.Looks (model prog w) hp (isInstance (.ref x) (.type "object")) true := I.type.andThen (W.looks_mroIn X (by unfold W.mroIn; rw [hcd, Option.bind_some, if_neg (by rw [ne]; decide), hob]))
  refine codeAny_call_builtin SF.slot.plain SF.entry (@W.check_slot (model prog w) _ _ ⟨hp, g, d, t, os⟩ "object.__setattr__" "object" "__setattr__" (.ref x) [.str name tk, v] [] _ SF.kind SF.split sub (SF.args (.ref x) (.str name tk) v) ?_)
  have m1 : W.Looks (model prog w) hp (mroOf (.ref C)) cd.mro := (W.looks_clsIn X hcd).andThen .now
  have m2 : W.Looks (model prog w) hp (storeTaker? none) none := .now
  have m3 : W.Looks (model prog w) hp (classData C) cd := W.looks_clsIn X hcd
  rw [W.osa_eq, refuse_eq]
  refine wpAny_bind (wpAny_bind (I.type.at (wpAny_bind (m1.at ?_))))
  rw [tailB_pass BX hm]
  refine wpAny_pure (wpAny_bind (I.type.at (wpAny_bind ((W.looks_findIn X ha).at (wpAny_bind (m2.at ?_))))))
  show wpAny _ _ (storeInOwnDict (.ref x) (.ref C) (.str name tk) name v false) _ _ _
  obtain ⟨nm, bs, mro, ns, qn, hd, sn, sb, ab, col, del⟩ := cd
  dsimp only at hh
  subst hh
  unfold storeInOwnDict ownDictForStores
  repeat (first | with_reducible refine store_in_new ?_ ?_ | with_reducible refine wpAny_loadPart_at hx ?_ | with_reducible refine m3.at ?_ | wp_step)
  · exact ⟨_, #[], _, (Heap.get?_update_ne _ _ _ _ hxs.symm).trans (Heap.get?_push_at rfl rfl), rfl, fun e he => absurd he (by simp), fun _ => rfl⟩
  · intro h' tk' hn' hs
    have hx1 : (hp.push { cls := .type "dict", data := .dict #[] }).get? x = some { cls := .ref C, data := .fields fv } := Heap.get?_push_of_some _ hx
    refine hq h' tk' hp.objs.size (fun b o hb ho => ?_) (Nat.le_refl _) hxs.symm ?_ hn'
    · exact (hs.2 b (Nat.ne_of_lt (Heap.lt_size ho))).trans ((Heap.get?_update_ne _ _ _ _ hb).trans (Heap.get?_push_of_some _ ho))
    · exact (hs.2 x hxs).trans (Heap.get?_update_self _ hx1 rfl)
end
theorem typ_OE : typeOf (.type "OverflowError") = pure (.type "type") := by kernel_rfl
theorem typ_LE : typeOf (.type "LookupError") = pure (.type "type") := by kernel_rfl
end EV
end PySem

namespace XV
open PySem PySem.Spec PyProof.Rows L2
/-- at e: an exception of the class at C, its arguments at t, its own dict (none as yet | at d) -/
def xvo (e C t : Addr) (d : Option Addr) : HO := .ext fun h => h.get? e = some ({ cls := .ref C, dict := d, data := .fields #[.ref t, .none, .none, .none, .bool false, .none] } : Obj)
/-- at dx: the dict of an exception -/
def xvd (dx : Addr) (fs : List (Str × V)) : HO := .ext fun h => ∃ mA, h.Ns1 dx mA ∧ ∀ f, RelO (fs.lookup f) (mA f)
/-- what the written part says of the class -/
structure XvC (K : PySem.W.Frag) (bmB : List Value) (newId : String) (C : Addr) : Prop where
  cls : ∃ nm q N bs bm sn sub ab col dd k0 k1 k2 k3 k5, K.lookup C = some (excClassObj nm q C N bs bm true sn sub ab col dd k0 k1 k2 k3 k5 newId) ∧ EV.tailB bmB bm = true
  sa : PySem.W.findIn K (.ref C) "__setattr__" = some (some (.builtin "object.__setattr__"))
  ga : PySem.W.findIn K (.ref C) "__getattribute__" = some (some (.builtin "BaseException.__getattribute__"))
  gg : PySem.W.findIn K (.ref C) "__getattr__" = some none
  st : PySem.W.findIn K (.ref C) "__str__" = some (some (.builtin "BaseException.__str__"))
  ci : PySem.W.findIn K (.ref C) "__class__" = some (some (.builtin "object.__class__"))
  exC : PySem.W.subIn K (.ref C) (.type "BaseException") = some true
  tyC : PySem.W.typeIn K (.ref C) = some (.type "type")
  mo : PySem.W.mroIn K C (.type "object") = some true
  hdC : PySem.W.hasDictIn K C = true
  kC : PySem.W.keepIn K (.ref C) = true
  cg : PySem.W.specialIn K (.builtin "object.__class__") "__get__" = some (some (.builtin "getset_descriptor.__get__"))
  ct : PySem.W.takesIn K (.builtin "object.__class__") = some true
section
variable {P : Program} {w : World} {H : Hp} {h : Heap} {e C t dx : Addr} {d : Option Addr} {fs : List (Str × V)} {xs : List V}
theorem xvo_ok (he : h.get? e = some ({ cls := .ref C, dict := d, data := .fields #[.ref t, .none, .none, .none, .bool false, .none] } : Obj)) : ObjOk P w H h e (xvo e C t d) :=
  ⟨he, ⟨_, he⟩, fun _ _ z k => k _ z⟩
theorem xvo_at (hok : HOk P w H h) (he : H e = some (xvo e C t d)) : h.get? e = some ({ cls := .ref C, dict := d, data := .fields #[.ref t, .none, .none, .none, .bool false, .none] } : Obj) := by
  have x : ObjOk P w H h e (xvo e C t d) := hok e _ he
  exact x.1
theorem xvd_ok {mA : Str → Option Value} (hn : h.Ns1 dx mA) (r : ∀ f, RelO (fs.lookup f) (mA f)) : ObjOk P w H h dx (xvd dx fs) := by
  obtain ⟨o, es, ep, ho, hr⟩ := hn
  exact ⟨⟨mA, ⟨o, es, ep, ho, hr⟩, r⟩, ⟨o, ho⟩, fun h1 h2 z k => by
    obtain ⟨m2, hn2, r2⟩ := z
    exact ⟨m2, hn2.at fun o q => k _ q, r2⟩⟩
theorem xvd_at (hok : HOk P w H h) (he : H dx = some (xvd dx fs)) : ∃ mA, h.Ns1 dx mA ∧ ∀ f, RelO (fs.lookup f) (mA f) := by
  have x : ObjOk P w H h dx (xvd dx fs) := hok dx _ he
  exact x.1
theorem xvo_ne {o : HO} (h : ∀ φ, o ≠ .ext φ) : xvo e C t d ≠ o := fun z => h _ z.symm
theorem xvd_ne {o : HO} (h : ∀ φ, o ≠ .ext φ) : xvd dx fs ≠ o := fun z => h _ z.symm
end
theorem clash {H : Hp} {a b : Addr} {o u : HO} (ha : H a = some o) (hb : H b = some u) (d : o ≠ u) : b ≠ a := fun z => by
  rw [z, ha] at hb
  exact d (Option.some.inj hb)

section
variable {B newId initId : String} {bmB : List Value} {X : Cx} {pins : List (Addr × Obj)} {σ : L2.St} {H : Hp} {s : Shared} {a C t dx : Addr} {f : Str} {y : V} {u : Value} {fs : List (Str × V)} {A : Around} {E : Value → Shared → Prop}
/-- self.f = y, the first one -/
theorem put_new {Q : Unit → Shared → Prop} (BX : EV.BaseX B newId initId bmB) (T : XvC X.K bmB newId C) (I : Inv X pins σ H s) (e : H a = some (xvo a C t none)) (hno : PySem.W.findIn X.K (.ref C) f = some none) (ry : RelV y u)
    (h : ∀ dx s', H dx = none → dx ≠ a → Inv X pins σ (upd (upd H dx (xvd dx [(f, y)])) a (xvo a C t (some dx))) s' → Q () s') : wpAny (model X.prog X.w) A (setAttr (.ref a) f u) Q E s := by
  obtain ⟨nm, q, N, bs, bm, sn, sub, ab, col, dd, k0, k1, k2, k3, k5, hC, hbm⟩ := T.cls
  have hcl : PySem.W.clsIn X.K C = some { name := nm, bases := bs, mro := .ref C :: bm, ns := N, qualname := q, hasDict := true, slotNames := sn, subclasses := sub, abstract := ab, collection := col, hasDel := false } := by unfold PySem.W.clsIn; rw [hC] <;> rfl
  have ho := xvo_at I.hok e
  obtain ⟨hp, g, d, tk, os⟩ := s
  refine PySem.W.set_plain I.kIn (ox := { cls := .ref C, dict := none, data := .fields #[.ref t, .none, .none, .none, .bool false, .none] }) (od := none) ⟨ho, rfl, rfl, trivial⟩ T.sa ?_
  refine EV.osa_B BX I.kIn ho hcl (show EV.tailB bmB (.ref C :: bm) = true from hbm) rfl hno (fun h' tk' dx k dn dne hx hn => ?_)
  have hnd : H dx = none := I.hok.fresh dn
  have nd : ∀ {b : Addr} {o : Obj}, hp.get? b = some o → b ≠ dx := fun {b o} q => Nat.ne_of_lt (Nat.lt_of_lt_of_le (Heap.lt_size q) dn)
  have na : ∀ {b : Addr}, H b = none → b ≠ a := fun {b} n z => by
    rw [z, e] at n
    cases n
  have U : Un X.fs [] H (upd (upd H dx (xvd dx [(f, y)])) a (xvo a C t (some dx))) hp h' := {
    keep := fun b o q n _ _ => k b o (na n) q
    slot := fun b o q n _ _ => ⟨o.slots, k b o (na n) q⟩
    free := fun b o q n _ => by rw [upd_ne (na n), upd_ne (nd q)]; exact n
    there := fun b o q _ => by
      by_cases hb : b = a
      · exact ⟨_, by rw [hb]; exact hx⟩
      · exact ⟨o, k b o hb q⟩
    tups := fun b xs q => by rw [upd_ne (clash e q (xvo_ne fun φ z => nomatch z)), upd_ne (ne_of_none q hnd)]; exact q
    frzs := fun b o v q => by rw [upd_ne (clash e q (xvo_ne fun φ z => nomatch z)), upd_ne (ne_of_none q hnd)]; exact q
    tbls := fun b ps q => ⟨#[], by rw [upd_ne (clash e q (xvo_ne fun φ z => nomatch z)), upd_ne (ne_of_none q hnd), q]; simp⟩ }
  refine h dx _ hnd dne (I.un (t' := tk') U fun b o q => ?_)
  by_cases hb : b = a
  · subst hb
    rw [upd_same] at q
    cases q
    exact xvo_ok hx
  · rw [upd_ne hb] at q
    by_cases hd : b = dx
    · subst hd
      rw [upd_same] at q
      cases q
      refine xvd_ok hn fun g' => ?_
      have z : ([(f, y)] : List (Str × V)).lookup g' = if g' = f then some y else none := by
        by_cases hg : g' = f
        · subst hg
          simp [List.lookup]
        · have z2 : (g' == f) = false := by simpa using hg
          rw [if_neg hg]
          simp [List.lookup, z2]
      rw [z]
      by_cases hg : g' = f
      · rw [if_pos hg, if_pos hg]
        exact ry
      · rw [if_neg hg, if_neg hg]
        exact True.intro
    · rw [upd_ne hd] at q
      exact (I.hok b o q).stay (fun c v hc z => k c v (by
          rcases hc with hc | hc
          · rw [hc]
            exact hb
          · exact clash e hc (xvo_ne fun φ z => nomatch z)) z)
        (fun c hc => by rw [upd_ne (clash e hc (xvo_ne fun φ z => nomatch z)), upd_ne (ne_of_none hc hnd)]; exact hc) (fun c xs hc => by rw [upd_ne (clash e hc (xvo_ne fun φ z => nomatch z)), upd_ne (ne_of_none hc hnd)]; exact hc)
/-- the base's __init__(self, ..): the arguments' tuple is new -/
theorem init_ok {ws : List V} {us : List Value} {Q : Value → Shared → Prop} (BX : EV.BaseX B newId initId bmB) (T : XvC X.K bmB newId C) (I : Inv X pins σ H s) (e : H a = some (xvo a C t none)) (hl : us.length ≤ sizeLine) (r : Vals ws us)
    (h : ∀ t1 s', H t1 = none → t1 ≠ a → Inv X pins σ (upd (upd H t1 (.tup ws)) a (xvo a C t1 none)) s' → Q .none s') :
    wpAny (model X.prog X.w) A (call (.builtin initId) (.ref a :: us)) Q E s := by
  obtain ⟨nm, q, N, bs, bm, sn, sub, ab, col, dd, k0, k1, k2, k3, k5, hC, hbm⟩ := T.cls
  have ho := xvo_at I.hok e
  obtain ⟨hp, g, d, tk, os⟩ := s
  refine wpAny_call (EV.init_B BX.F (fun Y => EV.tailB_has hbm Y) (I.kIn _ _ hC) ho hl fun h' k hx ht => ?_)
  have hnd : H hp.objs.size = none := I.hok.fresh (Nat.le_refl _)
  have dne : hp.objs.size ≠ a := Nat.ne_of_gt (Heap.lt_size ho)
  have nd : ∀ {b : Addr} {o : Obj}, hp.get? b = some o → b ≠ hp.objs.size := fun {b o} q => Nat.ne_of_lt (Heap.lt_size q)
  have na : ∀ {b : Addr}, H b = none → b ≠ a := fun {b} n z => by
    rw [z, e] at n
    cases n
  have U : Un X.fs [] H (upd (upd H hp.objs.size (.tup ws)) a (xvo a C hp.objs.size none)) hp h' := {
    keep := fun b o q n _ _ => k b o (na n) q
    slot := fun b o q n _ _ => ⟨o.slots, k b o (na n) q⟩
    free := fun b o q n _ => by rw [upd_ne (na n), upd_ne (nd q)]; exact n
    there := fun b o q _ => by
      by_cases hb : b = a
      · exact ⟨_, by rw [hb]; exact hx⟩
      · exact ⟨o, k b o hb q⟩
    tups := fun b xs q => by rw [upd_ne (clash e q (xvo_ne fun φ z => nomatch z)), upd_ne (ne_of_none q hnd)]; exact q
    frzs := fun b o v q => by rw [upd_ne (clash e q (xvo_ne fun φ z => nomatch z)), upd_ne (ne_of_none q hnd)]; exact q
    tbls := fun b ps q => ⟨#[], by rw [upd_ne (clash e q (xvo_ne fun φ z => nomatch z)), upd_ne (ne_of_none q hnd), q]; simp⟩ }
  refine h hp.objs.size _ hnd dne (I.un (t' := tk) U fun b o q => ?_)
  by_cases hb : b = a
  · subst hb
    rw [upd_same] at q
    cases q
    exact xvo_ok hx
  · rw [upd_ne hb] at q
    by_cases hd : b = hp.objs.size
    · subst hd
      rw [upd_same] at q
      cases q
      exact ⟨by rw [r.length]; exact hl, us, r, _, ht, rfl, _, rfl⟩
    · rw [upd_ne hd] at q
      exact (I.hok b o q).stay (fun c v hc z => k c v (by
          rcases hc with hc | hc
          · rw [hc]
            exact hb
          · exact clash e hc (xvo_ne fun φ z => nomatch z)) z)
        (fun c hc => by rw [upd_ne (clash e hc (xvo_ne fun φ z => nomatch z)), upd_ne (ne_of_none hc hnd)]; exact hc) (fun c xs hc => by rw [upd_ne (clash e hc (xvo_ne fun φ z => nomatch z)), upd_ne (ne_of_none hc hnd)]; exact hc)
end
end XV

set_option Elab.async false
set_option linter.all false
set_option maxRecDepth 100000
set_option maxHeartbeats 600000
/-! Exceptions of own classes with an own __init__, held as values: the rules. -/
namespace XV
open PySem PySem.Spec PyProof.Rows L2
section
variable {B newId initId : String} {bmB : List Value} {X : Cx} {CX : CXT} {k : Nat} {C fI R : Addr} {fd : FuncData} {ps ks : List Str} {sp : Sp} {E : XK} {x : Str} {p pos p1 p2 : Pos} {e : Expr} {es : List Expr} {kws : List Keyword} {ta tk : TA}
/-- a new exception, its __init__ run -/
theorem run_new {pins : List (Addr × Obj)} {σ : L2.St} {H : Hp} {s : Shared} {Q : VK} {us ws : List Value} {vs : List V} {kw : List (Str × Value)} (BX : EV.BaseX B newId initId bmB) (T : XvC X.K bmB newId C) (iC : PySem.W.findIn X.K (.ref C) "__init__" = some (some (.ref fI)))
    (tI : PySem.W.typeIn X.K (.ref fI) = some (.type "function")) (F1 : FnOk X.prog X.w X.K X.mg X.base CX k fI fd ps sp) (hr : Room (k + 1) X.A) (hx : Passes CX X E) (I : Inv X pins σ H s) (hl : us.length ≤ sizeLine) (r : Vals vs ws)
    (hb : ∀ (s : Shared) (x : Value), X.K.In s.heap → BindsTo s fd ⟨x :: us, kw⟩ (ps.zip (x :: ws)))
    (h : ∀ a t0, H a = none → sp (.ref a :: vs) (upd H a (xvo a C t0 none)) (fun v H2 => v = .non ∧ Q (.ref a) H2) E) :
    wpAny (model X.prog X.w) X.A (call (.ref C) us kw) (EP X pins σ Q) X.xe s := by
  obtain ⟨nm, q, N, bs, bm, sn, sub, ab, col, dd, k0, k1, k2, k3, k5, hC, hbm⟩ := T.cls
  obtain ⟨hp, g, dr, tok, os⟩ := s
  have hsz : hp.objs.size ≤ hp.objs.size + 1 := Nat.le_succ _
  have hn : H (hp.objs.size + 1) = none := I.hok.fresh hsz
  have hq := h (hp.objs.size + 1) hp.objs.size hn
  have kk : ∀ b o, hp.get? b = some o → ((hp.push (PySem.W.kdv_tup us)).push (PySem.HandSPX.excO C hp.objs.size)).get? b = some o := fun b o e => Heap.get?_push_of_some _ (Heap.get?_push_of_some _ e)
  have hget : ((hp.push (PySem.W.kdv_tup us)).push (PySem.HandSPX.excO C hp.objs.size)).get? (hp.objs.size + 1) = some (PySem.HandSPX.excO C hp.objs.size) := by heap_get
  have I2 : Inv X pins σ (upd H (hp.objs.size + 1) (xvo (hp.objs.size + 1) C hp.objs.size none)) ⟨(hp.push (PySem.W.kdv_tup us)).push (PySem.HandSPX.excO C hp.objs.size), g, dr, tok, os⟩ :=
    I.laid (t' := tok) (a := hp.objs.size + 1) (o := xvo (hp.objs.size + 1) C hp.objs.size none) (h' := (hp.push (PySem.W.kdv_tup us)).push (PySem.HandSPX.excO C hp.objs.size)) kk hsz (xvo_ok hget)
  have r2 : Vals (V.ref (hp.objs.size + 1) :: vs) (Value.ref (hp.objs.size + 1) :: ws) := .cons rfl r
  refine wpAny_call (EV.call_K BX.F (fun Y => EV.tailB_has hbm Y) (I.kIn _ _ hC) (PySem.W.looks_findIn I.kIn iC) (fun self => PySem.W.bind_fn I.kIn self tI) hl
    (codeAny_mono (F1.run _ X.stack _ _ ⟨Value.ref (hp.objs.size + 1) :: us, kw⟩ (Value.ref (hp.objs.size + 1) :: ws) _ _ E (hr.make C us kw) (I2.env0.make C us kw) (hb _ (Value.ref (hp.objs.size + 1)) I2.kIn) r2 hq) fun r s' hq' => ?_))
  cases r with
  | error er => exact hx pins σ _ _ er s' I2 hq'
  | ok fl =>
    cases fl with
    | ret u =>
      obtain ⟨v, H2, I3, rv, ev, q3⟩ := I2.after hq'
      subst ev
      exact ⟨rv, ⟨V.ref (hp.objs.size + 1), H2, I3, rfl, q3⟩⟩
    | next => exact False.elim hq'
    | brk => exact False.elim hq'
    | cont => exact False.elim hq'
/-- C(e, ..): gV puts the written arguments in the parameters' order, defaults behind -/
def tNew (C : Addr) (sp : Sp) (n : Nat) (dvs : List V) (E : XK) (ta : TA) : TE := fun σ H Q => ta σ H fun vs H1 => vs.length = n ∧ ∀ a t0, H1 a = none → sp (.ref a :: (vs ++ dvs)) (upd H1 a (xvo a C t0 none)) (fun v H2 => v = .non ∧ Q (.ref a) H2) E
theorem pe_new {n : Nat} {ds : List Value} {dvs : List V} (hn : n ≤ 1000) (BX : EV.BaseX B newId initId bmB) (T : XvC X.K bmB newId C) (iC : PySem.W.findIn X.K (.ref C) "__init__" = some (some (.ref fI))) (tI : PySem.W.typeIn X.K (.ref fI) = some (.type "function"))
    (F1 : FnOk X.prog X.w X.K X.mg X.base CX k fI fd ps sp) (hr : Room (k + 1) X.A) (hb : Binds X.K fd ps ds) (hd : Vals dvs ds) (hps : ps.length = n + dvs.length + 1) (hx : Passes CX X E) (hg : Gl X x) (hm : X.mg x = some (.ref C)) (ha : PA X (e :: es) ta)
    (hdb : (x == ("__debug__" : Str)) = false := by decide) (he : starEach (e :: es) X.env = (false, eval e X.env) :: starEach es X.env := by rfl) (hpl : (backTo pos (starEach es X.env)).any (·.1) = false := by rfl) :
    PE X (.Call (.Name x p) (e :: es) [] pos) (tNew C sp n dvs E ta) := by
  refine ⟨fun pins s σ H Q I h => ?_⟩
  refine wpAny_Call_Name_kw (ld_glob I hg hm ?_ hdb)
  refine PySem.W.callWith_K (h₀ := X.base) I.ok.mod.kin T.kC (thn (ha.run pos pins s σ H _ I h) fun us s1 ⟨vs, H1, I1, r1, hz, q1⟩ => ⟨I1.kIn, ?_⟩) he hpl
  have l1 : us.length = n := by rw [← Paired.length r1]; exact hz
  refine run_new (us := us) (ws := us ++ ds) (kw := []) BX T iC tI F1 hr hx I1 (by rw [l1, sizeLine_eq]; omega) (r1.append hd) (fun s x X => hb s (x :: us) X ?_) q1
  rw [List.length_append, List.length_cons, l1, ← hd.length, hps]
  omega
/-- C() -/
theorem pe_new0 {ds : List Value} {dvs : List V} (BX : EV.BaseX B newId initId bmB) (T : XvC X.K bmB newId C) (iC : PySem.W.findIn X.K (.ref C) "__init__" = some (some (.ref fI))) (tI : PySem.W.typeIn X.K (.ref fI) = some (.type "function"))
    (F1 : FnOk X.prog X.w X.K X.mg X.base CX k fI fd ps sp) (hr : Room (k + 1) X.A) (hb : Binds X.K fd ps ds) (hd : Vals dvs ds) (hps : ps.length = dvs.length + 1) (hx : Passes CX X E) (hg : Gl X x) (hm : X.mg x = some (.ref C))
    (hdb : (x == ("__debug__" : Str)) = false := by decide) :
    PE X (.Call (.Name x p) [] [] pos) (tNew C sp 0 dvs E tNil) := by
  refine ⟨fun pins s σ H Q I h => ?_⟩
  obtain ⟨_, h⟩ := h
  refine wpAny_Call_Name_kw (ld_glob I hg hm ?_ hdb)
  refine PySem.W.callWith_K0 I.kIn T.kC (run_new (us := []) (ws := ds) BX T iC tI F1 hr hx I (Nat.zero_le _) hd (fun s x X => hb s [x] X ?_) h)
  rw [List.length_append, List.length_cons, List.length_nil, ← hd.length, hps]
  omega
/-- C(k = v, ..) -/
def tNewK (C : Addr) (sp : Sp) (n : Nat) (gV : List V → List V → List V) (E : XK) (tk : TA) : TE := fun σ H Q => tk σ H fun zs H1 => zs.length = n ∧ ∀ a t0, H1 a = none → ∃ vs, gV [.ref a] zs = .ref a :: vs ∧ sp (.ref a :: vs) (upd H1 a (xvo a C t0 none)) (fun v H2 => v = .non ∧ Q (.ref a) H2) E
end
section
variable {B newId initId : String} {bmB : List Value} {X : Cx} {CX : CXT} {k : Nat} {C fI R : Addr} {fd : FuncData} {ps ks : List Str} {sp : Sp} {E : XK} {x kn : Str} {p pos p1 p2 kpos : Pos} {e : Expr} {te : TE}
/-- C(k = v), one keyword, its only parameter beside self -/
theorem pe_new1K (BX : EV.BaseX B newId initId bmB) (T : XvC X.K bmB newId C) (iC : PySem.W.findIn X.K (.ref C) "__init__" = some (some (.ref fI))) (tI : PySem.W.typeIn X.K (.ref fI) = some (.type "function"))
    (F1 : FnOk X.prog X.w X.K X.mg X.base CX k fI fd ps sp) (hr : Room (k + 1) X.A) (hb : ∀ (s : Shared) (u v : Value), X.K.In s.heap → BindsTo s fd ⟨[u], [(kn, v)]⟩ (ps.zip [u, v])) (hx : Passes CX X E) (hg : Gl X x) (hm : X.mg x = some (.ref C)) (ha : PE X e te)
    (hall : (backToKw pos (keywordEach [⟨some kn, e, kpos⟩] X.env)).all (·.1.isSome) = true := by rfl) (hks : (backToKw pos (keywordEach [⟨some kn, e, kpos⟩] X.env)).filterMap (·.1) = [kn] := by rfl) (hdb : (x == ("__debug__" : Str)) = false := by decide)
    (hpl : ((backTo pos (starEach [] X.env)).any (·.1) || (backToKw pos (keywordEach [⟨some kn, e, kpos⟩] X.env)).any (·.1.isNone)) = false := by rfl) :
    PE X (.Call (.Name x p) [] [⟨some kn, e, kpos⟩] pos) (tNew C sp 1 [] E (tCons te tNil)) := by
  refine ⟨fun pins s σ H Q I h => ?_⟩
  refine wpAny_Call_Name_kw (ld_glob I hg hm ?_ hdb)
  refine PySem.W.callWith_KW0 (h₀ := X.base) I.ok.mod.kin T.kC hall ?_ hpl
  have hkw : PK X [⟨some kn, e, kpos⟩] (tCons te tNil) := pk_cons ha pk_nil
  refine thn (hkw.run pos pins s σ H _ I h) fun ws s2 ⟨zs, H2, I2, rz, l2, q2⟩ => ⟨I2.kIn, ?_⟩
  rw [hks]
  cases rz with
  | nil => cases l2
  | @cons z w zr wr r1 r2 =>
    cases r2 with
    | cons _ _ => cases l2
    | nil =>
      show wpAny _ _ (call (.ref C) [] [(kn, w)]) _ _ _
      refine run_new (us := []) (ws := [w]) (kw := [(kn, w)]) (vs := [z]) BX T iC tI F1 hr hx I2 (Nat.zero_le _) (.cons r1 .nil) (fun s x X => hb s x w X) ?_
      exact q2
/-- R.__init__(self, ..), R an own class whose __init__ is the base's -/
def tInit (K : PySem.W.Frag) (bmB : List Value) (newId : String) (ta : TA) : TE := fun σ H Q => ta σ H fun vs H1 => ∃ (a C t0 : Addr) (ws : List V), vs = .ref a :: ws ∧ ws.length ≤ 1000 ∧ XvC K bmB newId C ∧ H1 a = some (xvo a C t0 none) ∧ ∀ t1, H1 t1 = none → t1 ≠ a → Q .non (upd (upd H1 t1 (.tup ws)) a (xvo a C t1 none))
theorem pe_init {es : List Expr} {ta : TA} {pl : Sem Bool} (BX : EV.BaseX B newId initId bmB) (hg : Gl X x) (hm : X.mg x = some (.ref R)) (rd : PySem.W.readsIn X.K R (.type "type") = true) (ga : PySem.W.specialIn X.K (.ref R) "__getattribute__" = some (some (.builtin "type.__getattribute__")))
    (fc : PySem.W.findCls X.K (.ref R) (.type "type") "__init__" = some (.val (.builtin initId))) (ha : PA X (e :: es) ta) (hdb : (x == ("__debug__" : Str)) = false := by decide)
    (hc : eval (.Call (.Attribute (.Name x p1) "__init__" p2) (e :: es) [] pos) X.env = (do
      let ov ← eval (.Name x p1) X.env
      standAt p2.atName
      let (f, first) ← holding [ov] (getMethod ov "__init__" pl)
      callWith pos f first (backTo pos (starEach (e :: es) X.env)) (backToKw pos (keywordEach [] X.env))) := by rfl)
    (he : starEach (e :: es) X.env = (false, eval e X.env) :: starEach es X.env := by rfl) (hpl : (backTo pos (starEach es X.env)).any (·.1) = false := by rfl) :
    PE X (.Call (.Attribute (.Name x p1) "__init__" p2) (e :: es) [] pos) (tInit X.K bmB newId ta) := by
  refine ⟨fun pins s σ H Q I h => ?_⟩
  refine PySem.W.methodCall_KW (ld_glob I hg hm ?_ hdb) hc
  refine PySem.W.method_cls I.kIn ga (PySem.W.cls_value I.kIn rd fc BX.hi ?_)
  show wpAny _ _ (callWith pos (Value.builtin initId) [] (backTo pos (starEach (e :: es) X.env)) []) _ _ _
  refine PyProof.Rows.callWith_method1 (thn (ha.run pos pins _ σ H _ (I.tok _) h) fun us s1 ⟨vs, H1, I1, r1, a, C, t0, ws, ev, hl, T, ea, q⟩ => ?_) he hpl
  subst ev
  cases r1 with
  | @cons _ u0 _ ur ra rw' =>
    obtain rfl : u0 = Value.ref a := ra
    have hlen : ur.length ≤ sizeLine := by
      rw [← Paired.length rw', sizeLine_eq]
      omega
    exact init_ok BX T I1 ea hlen rw' fun t1 s' n ne J => ⟨.non, _, J, rfl, q t1 n ne⟩
/-- B.__init__(self, ..), B the built-in class itself -/
theorem pe_initB {es : List Expr} {ta : TA} {pl : Sem Bool} (BX : EV.BaseX B newId initId bmB) (hg : Gl X B) (hm : X.mg B = none) (hbt : bootBuiltins B = some (.type B)) (ty : typeOf (.type B) = pure (.type "type")) (hst : Manifest.isStub B = false)
    (fc : PySem.W.findCls X.K (.type B) (.type "type") "__init__" = some (.val (.builtin initId))) (ha : PA X (e :: es) ta) (hn : (Str.ofString B) ≠ "__name__" := by decide) (hdb : ((Str.ofString B) == ("__debug__" : Str)) = false := by decide)
    (hc : eval (.Call (.Attribute (.Name B p1) "__init__" p2) (e :: es) [] pos) X.env = (do
      let ov ← eval (.Name B p1) X.env
      standAt p2.atName
      let (f, first) ← holding [ov] (getMethod ov "__init__" pl)
      callWith pos f first (backTo pos (starEach (e :: es) X.env)) (backToKw pos (keywordEach [] X.env))) := by rfl)
    (he : starEach (e :: es) X.env = (false, eval e X.env) :: starEach es X.env := by rfl) (hpl : (backTo pos (starEach es X.env)).any (·.1) = false := by rfl) :
    PE X (.Call (.Attribute (.Name B p1) "__init__" p2) (e :: es) [] pos) (tInit X.K bmB newId ta) := by
  refine ⟨fun pins s σ H Q I h => ?_⟩
  refine PySem.W.methodCall_KW (ld_blt I hg hm hbt ?_ hn hdb) hc
  obtain ⟨m, fr⟩ := I.fr
  refine PySem.W.method_type fr I.ok.mod.kin ty hst fc BX.hi ?_
  show wpAny _ _ (callWith pos (Value.builtin initId) [] (backTo pos (starEach (e :: es) X.env)) []) _ _ _
  refine PyProof.Rows.callWith_method1 (thn (ha.run pos pins _ σ H _ (I.tok _) h) fun us s1 ⟨vs, H1, I1, r1, a, C, t0, ws, ev, hl, T, ea, q⟩ => ?_) he hpl
  subst ev
  cases r1 with
  | @cons _ u0 _ ur ra rw' =>
    obtain rfl : u0 = Value.ref a := ra
    have hlen : ur.length ≤ sizeLine := by
      rw [← Paired.length rw', sizeLine_eq]
      omega
    exact init_ok BX T I1 ea hlen rw' fun t1 s' n ne J => ⟨.non, _, J, rfl, q t1 n ne⟩
/-- self.f = e, the first field -/
def tPut (K : PySem.W.Frag) (bmB : List Value) (newId : String) (f : Str) (to te : TE) : TS := fun D σ H => te σ H fun y H1 => to σ H1 fun x H2 => ∃ a C t : Addr, x = .ref a ∧ XvC K bmB newId C ∧ PySem.W.findIn K (.ref C) f = some none ∧
  H2 a = some (xvo a C t none) ∧ ∀ dx, H2 dx = none → dx ≠ a → D.nx σ (upd (upd H2 dx (xvd dx [(f, y)])) a (xvo a C t (some dx)))
theorem ps_put {o : Expr} {to : TE} {f : Str} {p' : Pos} (BX : EV.BaseX B newId initId bmB) (ho : PE X o to) (he : PE X e te) (hs : swapsWith e (some (.Attribute o f p')) pos.line X.env = pure false := by rfl) : PS X (.Assign [.Attribute o f p'] e pos) (tPut X.K bmB newId f to te) := by
  refine ⟨fun pins s σ H D I h => ?_⟩
  refine plainObj_wpAny_Assign_Attribute (thn (he.run pins s σ H _ I h) fun v s1 ⟨y, H1, I1, r1, q1⟩ => thn (ho.run pins s1 σ H1 _ I1 q1) fun u s2 ⟨x, H2, I2, r2, a, C, t, ex, T, hno, ea, q⟩ => ?_) hs
  subst ex
  obtain rfl : u = Value.ref a := r2
  exact put_new BX T I2 ea hno r1 fun dx s' n ne J => ⟨σ, _, J, q dx n ne⟩
/-- e.f, e such an exception -/
def tGet (K : PySem.W.Frag) (bmB : List Value) (newId : String) (f : Str) (te : TE) : TE := fun σ H Q => te σ H fun x H1 => ∃ (a C t dx : Addr) (fs : List (Str × V)) (v : V), x = .ref a ∧ XvC K bmB newId C ∧ PySem.W.findIn K (.ref C) f = some none ∧ H1 a = some (xvo a C t (some dx)) ∧ H1 dx = some (xvd dx fs) ∧ fs.lookup f = some v ∧ Q v H1
theorem pe_get {f : Str} (he : PE X e te) (hb : attributeBase e f X.env (eval e X.env) = eval e X.env := by rfl) : PE X (.Attribute e f pos) (tGet X.K bmB newId f te) := by
  refine ⟨fun pins s σ H Q I h => ?_⟩
  refine attr_of hb (thn (he.run pins s σ H _ I h) fun u s1 ⟨x, H1, I1, rx, a, C, t, dx, fs, v, ex, T, hno, ea, ed, l, q⟩ => ?_)
  subst ex
  obtain rfl : u = Value.ref a := rx
  have ha := xvo_at I1.hok ea
  obtain ⟨mA, hns, hr⟩ := xvd_at I1.hok ed
  obtain ⟨od, ho, hl⟩ := lookIn_ns hns
  obtain ⟨u, hu, ru⟩ := RelO.some_of (v := v) (o := mA f) (by rw [← l]; exact hr f)
  have J : PySem.W.InstAt s1.heap a { cls := .ref C, dict := some dx, data := .fields #[.ref t, .none, .none, .none, .bool false, .none] } C (some od) := ⟨ha, rfl, rfl, ho⟩
  exact HandSPX.exc_get I1.kIn J T.ga T.gg T.exC (PySem.W.findObj_own T.hdC hno rfl (by rw [hl, hu])) (handed_of ru) ⟨v, H1, I1.tok _, ru, q⟩
/-- isinstance(e, c) -/
def rIsX (K : PySem.W.Frag) (bmB : List Value) (newId : String) : List V → Hp → VK → Prop := fun xs H Q => ∃ (a C t dx : Addr) (fs : List (Str × V)) (c : V) (u : Value) (b : Bool), xs = [.ref a, c] ∧ XvC K bmB newId C ∧ H a = some (xvo a C t (some dx)) ∧ H dx = some (xvd dx fs) ∧
  ClsV c u ∧ PySem.W.kitOne K (.ref C) u = some b ∧ Q (.bl b) H
theorem inst_at {pins : List (Addr × Obj)} {σ : L2.St} {H : Hp} {s : Shared} {a C t dx : Addr} {fs : List (Str × V)} (I : Inv X pins σ H s) (ea : H a = some (xvo a C t (some dx))) (ed : H dx = some (xvd dx fs)) :
    ∃ od, PySem.W.InstAt s.heap a { cls := .ref C, dict := some dx, data := .fields #[.ref t, .none, .none, .none, .bool false, .none] } C (some od) := by
  obtain ⟨mA, hns, _⟩ := xvd_at I.hok ed
  obtain ⟨od, ho, _⟩ := lookIn_ns hns
  exact ⟨od, xvo_at I.hok ea, rfl, rfl, ho⟩
theorem call_isX : CallR X (.builtin "isinstance") (rIsX X.K bmB newId) := by
  intro pins s σ H xs us Q I r h
  obtain ⟨a, C, t, dx, fs, c, u, b, rfl, T, ea, ed, k, e, q⟩ := h
  obtain ⟨u1, u2, rfl, r1, r2⟩ := vals2 r
  have e2 := k.eq r2
  subst e2
  cases (show u1 = Value.ref a from r1)
  obtain ⟨od, J⟩ := inst_at I ea ed
  have hcl : (PySem.W.clsIn X.K C).isSome = true := by
    obtain ⟨nm, q, N, bs, bm, sn, sub, ab, col, dd, k0, k1, k2, k3, k5, hC, hbm⟩ := T.cls
    unfold PySem.W.clsIn
    rw [hC] <;> rfl
  exact PySem.W.kia_one (PySem.W.kitx_exc hcl T.ga T.gg T.exC T.ci T.cg T.ct T.mo) I.kIn J e (fun z => nomatch z) fun tk => ⟨.bl b, H, I.tok tk, rfl, q⟩
/-- str(e), its only argument a text -/
def rStrX (K : PySem.W.Frag) (bmB : List Value) (newId : String) : List V → Hp → VK → Prop := fun xs H Q => ∃ (a C t : Addr) (d : Option Addr) (m : Str), xs = [.ref a] ∧ XvC K bmB newId C ∧ H a = some (xvo a C t d) ∧ H t = some (.tup [.str m]) ∧ Q (.str m) H
theorem call_strX (hu : X.A.units + 2 < cLine) : CallR X (.type "str") (rStrX X.K bmB newId) := by
  intro pins s σ H xs us Q I r h
  obtain ⟨a, C, t, d, m, rfl, T, ea, et, q⟩ := h
  obtain ⟨u, rfl, r1⟩ := vals1 r
  cases (show u = Value.ref a from r1)
  have ha := xvo_at I.hok ea
  obtain ⟨_, its, rv, o, h1, h2, n, h3⟩ := (show ObjOk X.prog X.w H s.heap t (.tup [.str m]) from I.hok t _ et)
  obtain ⟨v, rfl, tk, rfl⟩ := vals1 rv
  exact PySem.P.str_of_C_one (tk := tk) hu ⟨I.kIn, _, _, ha, rfl, rfl, rfl⟩ ⟨o, n, h1, h2, h3⟩ T.st T.exC ⟨.str m, H, I, ⟨tk, rfl⟩, q⟩
end
end XV

set_option Elab.async false
set_option linter.all false
set_option maxRecDepth 100000
set_option maxHeartbeats 1000000
/-! The errors' classes of k99: their text and their __init__. -/
namespace K99
open PySem PySem.Spec PyProof.Rows L2 XV
def top (i : Nat) : Stmt := PySem.Challenge.pw_everyreal_k99_errors_by_hand.main.body.getD i (.Pass ⟨0, 0, 0, 0⟩)
abbrev mVE : List Value := [.type "ValueError", .type "Exception", .type "BaseException", .type "object"]
abbrev mLE : List Value := [.type "LookupError", .type "Exception", .type "BaseException", .type "object"]
abbrev mOE : List Value := [.type "OverflowError", .type "ArithmeticError", .type "Exception", .type "BaseException", .type "object"]
abbrev FnP (K : PySem.W.Frag) (qual : Str) (st : Stmt) (dvs : List V) (f : Addr) (fd : FuncData) : Prop := FunD K "__init__" qual (defArgs st) (defBody st) (defScope st) dvs [] f fd
theorem upd_swap {H : Hp} {a d : Addr} {o1 o2 u : HO} : upd (upd (upd H a o1) d u) a o2 = upd (upd H d u) a o2 := by
  funext b
  unfold upd
  by_cases h : b = a
  · simp only [h, if_true]
  · by_cases h2 : b = d
    · simp only [h, h2, if_true, if_false]
    · simp only [h, h2, if_false]
/-- behind C(y): the exception at a, its arguments at t, its dict at d -/
def made (H : Hp) (a C t d : Addr) (msg f : Str) (y : V) : Hp := upd (upd (upd H t (.tup [.str msg])) d (xvd d [(f, y)])) a (xvo a C t (some d))
/-- __init__'s promise -/
def spI (K : PySem.W.Frag) (bmB : List Value) (newId : String) (msg f : Str) : Sp := fun vs H Q _ => ∃ (a C t0 : Addr) (y : V), vs = [.ref a, y] ∧ XvC K bmB newId C ∧ PySem.W.findIn K (.ref C) f = some none ∧ H a = some (xvo a C t0 none) ∧
  ∀ t d, H t = none → H d = none → t ≠ a → d ≠ a → d ≠ t → Q .non (made H a C t d msg f y)
/-- what the top holds of the classes whose __init__ is called by name -/
structure RealE (K : PySem.W.Frag) (mg : Str → Option Value) (R : Addr) : Prop where
  g : mg "RealError" = some (.ref R)
  rd : PySem.W.readsIn K R (.type "type") = true
  ga : PySem.W.specialIn K (.ref R) "__getattribute__" = some (some (.builtin "type.__getattribute__"))
  fc : PySem.W.findCls K (.ref R) (.type "type") "__init__" = some (.val (.builtin "ValueError.__init__"))
structure BltE (K : PySem.W.Frag) (mg : Str → Option Value) (B initId : String) : Prop where
  g : mg B = none
  fc : PySem.W.findCls K (.type B) (.type "type") "__init__" = some (.val (.builtin initId))
section
variable {P : Program} {w : World} {K : PySem.W.Frag} {mg : Str → Option Value} {base : Heap} {f R : Addr} {fd : FuncData}
theorem pure_init {bmB : List Value} {newId : String} {msg fn pn : Str} (vs : List V) (H : Hp) (Q : VK) (E : XK) (h : spI K bmB newId msg fn vs H Q E) :
    tSeq (tDrop (tInit K bmB newId (tCons (tVar 0) (tCons (tC (.str msg)) tNil)))) (tPut K bmB newId fn (tVar 0) (tVar 1)) { nx := fun _ H' => Q .non H', rt := Q } (start ["self", pn] vs) H := by
  obtain ⟨a, C, t0, y, rfl, T, hno, ha, q⟩ := h
  refine ⟨_, rfl, a, C, t0, [.str msg], rfl, by show 1 ≤ 1000; decide, T, ha, fun t1 n1 ne1 => ?_⟩
  refine ⟨_, rfl, _, rfl, a, C, t1, rfl, T, hno, upd_same, fun d nd ned => ?_⟩
  rw [upd_ne ned] at nd
  have ndt : d ≠ t1 := fun z => by
    rw [z, upd_same] at nd
    cases nd
  rw [upd_ne ndt] at nd
  show Q .non _
  have z := q t1 d n1 nd ne1 ned ndt
  unfold made at z
  rw [upd_swap]
  exact z

abbrev s_BadFraction : Stmt := inClass (top 2) 0
theorem sc_BadFraction : FnScope ["self", "value"] ["self", "value"] (defScope s_BadFraction) := ⟨rfl, rfl, rfl, by decide +kernel, rfl, by decide +kernel, by decide +kernel⟩
theorem ok_BadFraction (F : FnP K "BadFraction.__init__" s_BadFraction [.non] f fd) (T : RealE K mg R) : FnOk P w K mg base CX0 1 f fd ["self", "value"] (spI K mVE "ValueError.__new__" "no such fraction" "value") := by
  refine F.ok sc_BadFraction (fun vs H Q E h => ?_) (fun cdv A outer s H vs Q E hr h => ⟨_, PSs.nox ?_, pure_init (pn := "value") vs H Q E h⟩)
  · obtain ⟨a, C, t0, y, rfl, _⟩ := h
    rfl
  · exact pss_cons (ps_expr (pe_init EV.base_VE rfl T.g T.rd T.ga T.fc (pa_cons (pv 0) (pa_cons pe_str pa_nil)))) (pss_one (ps_put EV.base_VE (pv 0) (pv 1)))
abbrev s_BadName : Stmt := inClass (top 3) 0
theorem sc_BadName : FnScope ["self", "value"] ["self", "value"] (defScope s_BadName) := ⟨rfl, rfl, rfl, by decide +kernel, rfl, by decide +kernel, by decide +kernel⟩
theorem ok_BadName (F : FnP K "BadName.__init__" s_BadName [.non] f fd) (T : RealE K mg R) : FnOk P w K mg base CX0 1 f fd ["self", "value"] (spI K mVE "ValueError.__new__" "no such name" "value") := by
  refine F.ok sc_BadName (fun vs H Q E h => ?_) (fun cdv A outer s H vs Q E hr h => ⟨_, PSs.nox ?_, pure_init (pn := "value") vs H Q E h⟩)
  · obtain ⟨a, C, t0, y, rfl, _⟩ := h
    rfl
  · exact pss_cons (ps_expr (pe_init EV.base_VE rfl T.g T.rd T.ga T.fc (pa_cons (pv 0) (pa_cons pe_str pa_nil)))) (pss_one (ps_put EV.base_VE (pv 0) (pv 1)))
abbrev s_BadNumber : Stmt := inClass (top 4) 0
theorem sc_BadNumber : FnScope ["self", "value"] ["self", "value"] (defScope s_BadNumber) := ⟨rfl, rfl, rfl, by decide +kernel, rfl, by decide +kernel, by decide +kernel⟩
theorem ok_BadNumber (F : FnP K "BadNumber.__init__" s_BadNumber [.non] f fd) (T : RealE K mg R) : FnOk P w K mg base CX0 1 f fd ["self", "value"] (spI K mVE "ValueError.__new__" "no such number" "value") := by
  refine F.ok sc_BadNumber (fun vs H Q E h => ?_) (fun cdv A outer s H vs Q E hr h => ⟨_, PSs.nox ?_, pure_init (pn := "value") vs H Q E h⟩)
  · obtain ⟨a, C, t0, y, rfl, _⟩ := h
    rfl
  · exact pss_cons (ps_expr (pe_init EV.base_VE rfl T.g T.rd T.ga T.fc (pa_cons (pv 0) (pa_cons pe_str pa_nil)))) (pss_one (ps_put EV.base_VE (pv 0) (pv 1)))
abbrev s_BadPolynomial : Stmt := inClass (top 5) 0
theorem sc_BadPolynomial : FnScope ["self", "place"] ["self", "place"] (defScope s_BadPolynomial) := ⟨rfl, rfl, rfl, by decide +kernel, rfl, by decide +kernel, by decide +kernel⟩
theorem ok_BadPolynomial (F : FnP K "BadPolynomial.__init__" s_BadPolynomial [.non] f fd) (T : RealE K mg R) : FnOk P w K mg base CX0 1 f fd ["self", "place"] (spI K mVE "ValueError.__new__" "no such polynomial" "place") := by
  refine F.ok sc_BadPolynomial (fun vs H Q E h => ?_) (fun cdv A outer s H vs Q E hr h => ⟨_, PSs.nox ?_, pure_init (pn := "place") vs H Q E h⟩)
  · obtain ⟨a, C, t0, y, rfl, _⟩ := h
    rfl
  · exact pss_cons (ps_expr (pe_init EV.base_VE rfl T.g T.rd T.ga T.fc (pa_cons (pv 0) (pa_cons pe_str pa_nil)))) (pss_one (ps_put EV.base_VE (pv 0) (pv 1)))
abbrev s_BadFormula : Stmt := inClass (top 6) 0
theorem sc_BadFormula : FnScope ["self", "place"] ["self", "place"] (defScope s_BadFormula) := ⟨rfl, rfl, rfl, by decide +kernel, rfl, by decide +kernel, by decide +kernel⟩
theorem ok_BadFormula (F : FnP K "BadFormula.__init__" s_BadFormula [.non] f fd) (T : RealE K mg R) : FnOk P w K mg base CX0 1 f fd ["self", "place"] (spI K mVE "ValueError.__new__" "no such formula" "place") := by
  refine F.ok sc_BadFormula (fun vs H Q E h => ?_) (fun cdv A outer s H vs Q E hr h => ⟨_, PSs.nox ?_, pure_init (pn := "place") vs H Q E h⟩)
  · obtain ⟨a, C, t0, y, rfl, _⟩ := h
    rfl
  · exact pss_cons (ps_expr (pe_init EV.base_VE rfl T.g T.rd T.ga T.fc (pa_cons (pv 0) (pa_cons pe_str pa_nil)))) (pss_one (ps_put EV.base_VE (pv 0) (pv 1)))
abbrev s_BadTheory : Stmt := inClass (top 7) 0
theorem sc_BadTheory : FnScope ["self", "place"] ["self", "place"] (defScope s_BadTheory) := ⟨rfl, rfl, rfl, by decide +kernel, rfl, by decide +kernel, by decide +kernel⟩
theorem ok_BadTheory (F : FnP K "BadTheory.__init__" s_BadTheory [.non] f fd) (T : RealE K mg R) : FnOk P w K mg base CX0 1 f fd ["self", "place"] (spI K mVE "ValueError.__new__" "no such theory" "place") := by
  refine F.ok sc_BadTheory (fun vs H Q E h => ?_) (fun cdv A outer s H vs Q E hr h => ⟨_, PSs.nox ?_, pure_init (pn := "place") vs H Q E h⟩)
  · obtain ⟨a, C, t0, y, rfl, _⟩ := h
    rfl
  · exact pss_cons (ps_expr (pe_init EV.base_VE rfl T.g T.rd T.ga T.fc (pa_cons (pv 0) (pa_cons pe_str pa_nil)))) (pss_one (ps_put EV.base_VE (pv 0) (pv 1)))
abbrev s_BadPoint : Stmt := inClass (top 8) 0
theorem sc_BadPoint : FnScope ["self", "place"] ["self", "place"] (defScope s_BadPoint) := ⟨rfl, rfl, rfl, by decide +kernel, rfl, by decide +kernel, by decide +kernel⟩
theorem ok_BadPoint (F : FnP K "BadPoint.__init__" s_BadPoint [.non] f fd) (T : RealE K mg R) : FnOk P w K mg base CX0 1 f fd ["self", "place"] (spI K mVE "ValueError.__new__" "no such point" "place") := by
  refine F.ok sc_BadPoint (fun vs H Q E h => ?_) (fun cdv A outer s H vs Q E hr h => ⟨_, PSs.nox ?_, pure_init (pn := "place") vs H Q E h⟩)
  · obtain ⟨a, C, t0, y, rfl, _⟩ := h
    rfl
  · exact pss_cons (ps_expr (pe_init EV.base_VE rfl T.g T.rd T.ga T.fc (pa_cons (pv 0) (pa_cons pe_str pa_nil)))) (pss_one (ps_put EV.base_VE (pv 0) (pv 1)))
abbrev s_BadTower : Stmt := inClass (top 9) 0
theorem sc_BadTower : FnScope ["self", "place"] ["self", "place"] (defScope s_BadTower) := ⟨rfl, rfl, rfl, by decide +kernel, rfl, by decide +kernel, by decide +kernel⟩
theorem ok_BadTower (F : FnP K "BadTower.__init__" s_BadTower [.non] f fd) (T : RealE K mg R) : FnOk P w K mg base CX0 1 f fd ["self", "place"] (spI K mVE "ValueError.__new__" "no such tower" "place") := by
  refine F.ok sc_BadTower (fun vs H Q E h => ?_) (fun cdv A outer s H vs Q E hr h => ⟨_, PSs.nox ?_, pure_init (pn := "place") vs H Q E h⟩)
  · obtain ⟨a, C, t0, y, rfl, _⟩ := h
    rfl
  · exact pss_cons (ps_expr (pe_init EV.base_VE rfl T.g T.rd T.ga T.fc (pa_cons (pv 0) (pa_cons pe_str pa_nil)))) (pss_one (ps_put EV.base_VE (pv 0) (pv 1)))
abbrev s_BadTable : Stmt := inClass (top 10) 0
theorem sc_BadTable : FnScope ["self", "place"] ["self", "place"] (defScope s_BadTable) := ⟨rfl, rfl, rfl, by decide +kernel, rfl, by decide +kernel, by decide +kernel⟩
theorem ok_BadTable (F : FnP K "BadTable.__init__" s_BadTable [.non] f fd) (T : RealE K mg R) : FnOk P w K mg base CX0 1 f fd ["self", "place"] (spI K mVE "ValueError.__new__" "no such table" "place") := by
  refine F.ok sc_BadTable (fun vs H Q E h => ?_) (fun cdv A outer s H vs Q E hr h => ⟨_, PSs.nox ?_, pure_init (pn := "place") vs H Q E h⟩)
  · obtain ⟨a, C, t0, y, rfl, _⟩ := h
    rfl
  · exact pss_cons (ps_expr (pe_init EV.base_VE rfl T.g T.rd T.ga T.fc (pa_cons (pv 0) (pa_cons pe_str pa_nil)))) (pss_one (ps_put EV.base_VE (pv 0) (pv 1)))
abbrev s_BadStretches : Stmt := inClass (top 11) 0
theorem sc_BadStretches : FnScope ["self", "place"] ["self", "place"] (defScope s_BadStretches) := ⟨rfl, rfl, rfl, by decide +kernel, rfl, by decide +kernel, by decide +kernel⟩
theorem ok_BadStretches (F : FnP K "BadStretches.__init__" s_BadStretches [.non] f fd) (T : RealE K mg R) : FnOk P w K mg base CX0 1 f fd ["self", "place"] (spI K mVE "ValueError.__new__" "no such stretches" "place") := by
  refine F.ok sc_BadStretches (fun vs H Q E h => ?_) (fun cdv A outer s H vs Q E hr h => ⟨_, PSs.nox ?_, pure_init (pn := "place") vs H Q E h⟩)
  · obtain ⟨a, C, t0, y, rfl, _⟩ := h
    rfl
  · exact pss_cons (ps_expr (pe_init EV.base_VE rfl T.g T.rd T.ga T.fc (pa_cons (pv 0) (pa_cons pe_str pa_nil)))) (pss_one (ps_put EV.base_VE (pv 0) (pv 1)))
abbrev s_BadTest : Stmt := inClass (top 12) 0
theorem sc_BadTest : FnScope ["self", "place"] ["self", "place"] (defScope s_BadTest) := ⟨rfl, rfl, rfl, by decide +kernel, rfl, by decide +kernel, by decide +kernel⟩
theorem ok_BadTest (F : FnP K "BadTest.__init__" s_BadTest [.non] f fd) (T : RealE K mg R) : FnOk P w K mg base CX0 1 f fd ["self", "place"] (spI K mVE "ValueError.__new__" "no such test point" "place") := by
  refine F.ok sc_BadTest (fun vs H Q E h => ?_) (fun cdv A outer s H vs Q E hr h => ⟨_, PSs.nox ?_, pure_init (pn := "place") vs H Q E h⟩)
  · obtain ⟨a, C, t0, y, rfl, _⟩ := h
    rfl
  · exact pss_cons (ps_expr (pe_init EV.base_VE rfl T.g T.rd T.ga T.fc (pa_cons (pv 0) (pa_cons pe_str pa_nil)))) (pss_one (ps_put EV.base_VE (pv 0) (pv 1)))
abbrev s_BadAtoms : Stmt := inClass (top 13) 0
theorem sc_BadAtoms : FnScope ["self", "place"] ["self", "place"] (defScope s_BadAtoms) := ⟨rfl, rfl, rfl, by decide +kernel, rfl, by decide +kernel, by decide +kernel⟩
theorem ok_BadAtoms (F : FnP K "BadAtoms.__init__" s_BadAtoms [.non] f fd) (T : RealE K mg R) : FnOk P w K mg base CX0 1 f fd ["self", "place"] (spI K mVE "ValueError.__new__" "no such atoms" "place") := by
  refine F.ok sc_BadAtoms (fun vs H Q E h => ?_) (fun cdv A outer s H vs Q E hr h => ⟨_, PSs.nox ?_, pure_init (pn := "place") vs H Q E h⟩)
  · obtain ⟨a, C, t0, y, rfl, _⟩ := h
    rfl
  · exact pss_cons (ps_expr (pe_init EV.base_VE rfl T.g T.rd T.ga T.fc (pa_cons (pv 0) (pa_cons pe_str pa_nil)))) (pss_one (ps_put EV.base_VE (pv 0) (pv 1)))
abbrev s_BadWitness : Stmt := inClass (top 14) 0
theorem sc_BadWitness : FnScope ["self", "place"] ["self", "place"] (defScope s_BadWitness) := ⟨rfl, rfl, rfl, by decide +kernel, rfl, by decide +kernel, by decide +kernel⟩
theorem ok_BadWitness (F : FnP K "BadWitness.__init__" s_BadWitness [.non] f fd) (T : RealE K mg R) : FnOk P w K mg base CX0 1 f fd ["self", "place"] (spI K mVE "ValueError.__new__" "no such numbers" "place") := by
  refine F.ok sc_BadWitness (fun vs H Q E h => ?_) (fun cdv A outer s H vs Q E hr h => ⟨_, PSs.nox ?_, pure_init (pn := "place") vs H Q E h⟩)
  · obtain ⟨a, C, t0, y, rfl, _⟩ := h
    rfl
  · exact pss_cons (ps_expr (pe_init EV.base_VE rfl T.g T.rd T.ga T.fc (pa_cons (pv 0) (pa_cons pe_str pa_nil)))) (pss_one (ps_put EV.base_VE (pv 0) (pv 1)))
abbrev s_BadPlan : Stmt := inClass (top 15) 0
theorem sc_BadPlan : FnScope ["self", "place"] ["self", "place"] (defScope s_BadPlan) := ⟨rfl, rfl, rfl, by decide +kernel, rfl, by decide +kernel, by decide +kernel⟩
theorem ok_BadPlan (F : FnP K "BadPlan.__init__" s_BadPlan [.non] f fd) (T : RealE K mg R) : FnOk P w K mg base CX0 1 f fd ["self", "place"] (spI K mVE "ValueError.__new__" "no such plan" "place") := by
  refine F.ok sc_BadPlan (fun vs H Q E h => ?_) (fun cdv A outer s H vs Q E hr h => ⟨_, PSs.nox ?_, pure_init (pn := "place") vs H Q E h⟩)
  · obtain ⟨a, C, t0, y, rfl, _⟩ := h
    rfl
  · exact pss_cons (ps_expr (pe_init EV.base_VE rfl T.g T.rd T.ga T.fc (pa_cons (pv 0) (pa_cons pe_str pa_nil)))) (pss_one (ps_put EV.base_VE (pv 0) (pv 1)))
abbrev s_BadCase : Stmt := inClass (top 16) 0
theorem sc_BadCase : FnScope ["self", "place"] ["self", "place"] (defScope s_BadCase) := ⟨rfl, rfl, rfl, by decide +kernel, rfl, by decide +kernel, by decide +kernel⟩
theorem ok_BadCase (F : FnP K "BadCase.__init__" s_BadCase [.non] f fd) (T : RealE K mg R) : FnOk P w K mg base CX0 1 f fd ["self", "place"] (spI K mVE "ValueError.__new__" "no such case" "place") := by
  refine F.ok sc_BadCase (fun vs H Q E h => ?_) (fun cdv A outer s H vs Q E hr h => ⟨_, PSs.nox ?_, pure_init (pn := "place") vs H Q E h⟩)
  · obtain ⟨a, C, t0, y, rfl, _⟩ := h
    rfl
  · exact pss_cons (ps_expr (pe_init EV.base_VE rfl T.g T.rd T.ga T.fc (pa_cons (pv 0) (pa_cons pe_str pa_nil)))) (pss_one (ps_put EV.base_VE (pv 0) (pv 1)))
abbrev s_BadRows : Stmt := inClass (top 17) 0
theorem sc_BadRows : FnScope ["self", "place"] ["self", "place"] (defScope s_BadRows) := ⟨rfl, rfl, rfl, by decide +kernel, rfl, by decide +kernel, by decide +kernel⟩
theorem ok_BadRows (F : FnP K "BadRows.__init__" s_BadRows [.non] f fd) (T : RealE K mg R) : FnOk P w K mg base CX0 1 f fd ["self", "place"] (spI K mVE "ValueError.__new__" "no such rows" "place") := by
  refine F.ok sc_BadRows (fun vs H Q E h => ?_) (fun cdv A outer s H vs Q E hr h => ⟨_, PSs.nox ?_, pure_init (pn := "place") vs H Q E h⟩)
  · obtain ⟨a, C, t0, y, rfl, _⟩ := h
    rfl
  · exact pss_cons (ps_expr (pe_init EV.base_VE rfl T.g T.rd T.ga T.fc (pa_cons (pv 0) (pa_cons pe_str pa_nil)))) (pss_one (ps_put EV.base_VE (pv 0) (pv 1)))
abbrev s_BadBytes : Stmt := inClass (top 18) 0
theorem sc_BadBytes : FnScope ["self", "place"] ["self", "place"] (defScope s_BadBytes) := ⟨rfl, rfl, rfl, by decide +kernel, rfl, by decide +kernel, by decide +kernel⟩
theorem ok_BadBytes (F : FnP K "BadBytes.__init__" s_BadBytes [.non] f fd) (T : RealE K mg R) : FnOk P w K mg base CX0 1 f fd ["self", "place"] (spI K mVE "ValueError.__new__" "no such bytes" "place") := by
  refine F.ok sc_BadBytes (fun vs H Q E h => ?_) (fun cdv A outer s H vs Q E hr h => ⟨_, PSs.nox ?_, pure_init (pn := "place") vs H Q E h⟩)
  · obtain ⟨a, C, t0, y, rfl, _⟩ := h
    rfl
  · exact pss_cons (ps_expr (pe_init EV.base_VE rfl T.g T.rd T.ga T.fc (pa_cons (pv 0) (pa_cons pe_str pa_nil)))) (pss_one (ps_put EV.base_VE (pv 0) (pv 1)))
abbrev s_BadTask : Stmt := inClass (top 19) 0
theorem sc_BadTask : FnScope ["self", "place"] ["self", "place"] (defScope s_BadTask) := ⟨rfl, rfl, rfl, by decide +kernel, rfl, by decide +kernel, by decide +kernel⟩
theorem ok_BadTask (F : FnP K "BadTask.__init__" s_BadTask [.non] f fd) (T : RealE K mg R) : FnOk P w K mg base CX0 1 f fd ["self", "place"] (spI K mVE "ValueError.__new__" "no such task" "place") := by
  refine F.ok sc_BadTask (fun vs H Q E h => ?_) (fun cdv A outer s H vs Q E hr h => ⟨_, PSs.nox ?_, pure_init (pn := "place") vs H Q E h⟩)
  · obtain ⟨a, C, t0, y, rfl, _⟩ := h
    rfl
  · exact pss_cons (ps_expr (pe_init EV.base_VE rfl T.g T.rd T.ga T.fc (pa_cons (pv 0) (pa_cons pe_str pa_nil)))) (pss_one (ps_put EV.base_VE (pv 0) (pv 1)))
abbrev s_BadFigure : Stmt := inClass (top 20) 0
theorem sc_BadFigure : FnScope ["self", "place"] ["self", "place"] (defScope s_BadFigure) := ⟨rfl, rfl, rfl, by decide +kernel, rfl, by decide +kernel, by decide +kernel⟩
theorem ok_BadFigure (F : FnP K "BadFigure.__init__" s_BadFigure [.non] f fd) (T : RealE K mg R) : FnOk P w K mg base CX0 1 f fd ["self", "place"] (spI K mVE "ValueError.__new__" "no such figure" "place") := by
  refine F.ok sc_BadFigure (fun vs H Q E h => ?_) (fun cdv A outer s H vs Q E hr h => ⟨_, PSs.nox ?_, pure_init (pn := "place") vs H Q E h⟩)
  · obtain ⟨a, C, t0, y, rfl, _⟩ := h
    rfl
  · exact pss_cons (ps_expr (pe_init EV.base_VE rfl T.g T.rd T.ga T.fc (pa_cons (pv 0) (pa_cons pe_str pa_nil)))) (pss_one (ps_put EV.base_VE (pv 0) (pv 1)))
abbrev s_BadText : Stmt := inClass (top 21) 0
theorem sc_BadText : FnScope ["self", "place"] ["self", "place"] (defScope s_BadText) := ⟨rfl, rfl, rfl, by decide +kernel, rfl, by decide +kernel, by decide +kernel⟩
theorem ok_BadText (F : FnP K "BadText.__init__" s_BadText [.non] f fd) (T : RealE K mg R) : FnOk P w K mg base CX0 1 f fd ["self", "place"] (spI K mVE "ValueError.__new__" "no such text" "place") := by
  refine F.ok sc_BadText (fun vs H Q E h => ?_) (fun cdv A outer s H vs Q E hr h => ⟨_, PSs.nox ?_, pure_init (pn := "place") vs H Q E h⟩)
  · obtain ⟨a, C, t0, y, rfl, _⟩ := h
    rfl
  · exact pss_cons (ps_expr (pe_init EV.base_VE rfl T.g T.rd T.ga T.fc (pa_cons (pv 0) (pa_cons pe_str pa_nil)))) (pss_one (ps_put EV.base_VE (pv 0) (pv 1)))
abbrev s_BadPaper : Stmt := inClass (top 22) 0
theorem sc_BadPaper : FnScope ["self", "place"] ["self", "place"] (defScope s_BadPaper) := ⟨rfl, rfl, rfl, by decide +kernel, rfl, by decide +kernel, by decide +kernel⟩
theorem ok_BadPaper (F : FnP K "BadPaper.__init__" s_BadPaper [.non] f fd) (T : RealE K mg R) : FnOk P w K mg base CX0 1 f fd ["self", "place"] (spI K mVE "ValueError.__new__" "no such paper" "place") := by
  refine F.ok sc_BadPaper (fun vs H Q E h => ?_) (fun cdv A outer s H vs Q E hr h => ⟨_, PSs.nox ?_, pure_init (pn := "place") vs H Q E h⟩)
  · obtain ⟨a, C, t0, y, rfl, _⟩ := h
    rfl
  · exact pss_cons (ps_expr (pe_init EV.base_VE rfl T.g T.rd T.ga T.fc (pa_cons (pv 0) (pa_cons pe_str pa_nil)))) (pss_one (ps_put EV.base_VE (pv 0) (pv 1)))
abbrev s_BadDeed : Stmt := inClass (top 23) 0
theorem sc_BadDeed : FnScope ["self", "place"] ["self", "place"] (defScope s_BadDeed) := ⟨rfl, rfl, rfl, by decide +kernel, rfl, by decide +kernel, by decide +kernel⟩
theorem ok_BadDeed (F : FnP K "BadDeed.__init__" s_BadDeed [.non] f fd) (T : RealE K mg R) : FnOk P w K mg base CX0 1 f fd ["self", "place"] (spI K mVE "ValueError.__new__" "no such deed" "place") := by
  refine F.ok sc_BadDeed (fun vs H Q E h => ?_) (fun cdv A outer s H vs Q E hr h => ⟨_, PSs.nox ?_, pure_init (pn := "place") vs H Q E h⟩)
  · obtain ⟨a, C, t0, y, rfl, _⟩ := h
    rfl
  · exact pss_cons (ps_expr (pe_init EV.base_VE rfl T.g T.rd T.ga T.fc (pa_cons (pv 0) (pa_cons pe_str pa_nil)))) (pss_one (ps_put EV.base_VE (pv 0) (pv 1)))
abbrev s_TooMany : Stmt := inClass (top 24) 0
theorem sc_TooMany : FnScope ["self", "most"] ["self", "most"] (defScope s_TooMany) := ⟨rfl, rfl, rfl, by decide +kernel, rfl, by decide +kernel, by decide +kernel⟩
theorem ok_TooMany (F : FnP K "TooMany.__init__" s_TooMany [] f fd) (T : BltE K mg "OverflowError" "OverflowError.__init__") : FnOk P w K mg base CX0 1 f fd ["self", "most"] (spI K mOE "OverflowError.__new__" "too many" "most") := by
  refine F.ok sc_TooMany (fun vs H Q E h => ?_) (fun cdv A outer s H vs Q E hr h => ⟨_, PSs.nox ?_, pure_init (pn := "most") vs H Q E h⟩)
  · obtain ⟨a, C, t0, y, rfl, _⟩ := h
    rfl
  · exact pss_cons (ps_expr (pe_initB EV.base_OE rfl T.g (by decide +kernel) EV.typ_OE (by decide +kernel) T.fc (pa_cons (pv 0) (pa_cons pe_str pa_nil)))) (pss_one (ps_put EV.base_OE (pv 0) (pv 1)))
abbrev s_NoSuch : Stmt := inClass (top 25) 0
theorem sc_NoSuch : FnScope ["self", "value"] ["self", "value"] (defScope s_NoSuch) := ⟨rfl, rfl, rfl, by decide +kernel, rfl, by decide +kernel, by decide +kernel⟩
theorem ok_NoSuch (F : FnP K "NoSuch.__init__" s_NoSuch [.non] f fd) (T : BltE K mg "LookupError" "LookupError.__init__") : FnOk P w K mg base CX0 1 f fd ["self", "value"] (spI K mLE "LookupError.__new__" "nothing so called" "value") := by
  refine F.ok sc_NoSuch (fun vs H Q E h => ?_) (fun cdv A outer s H vs Q E hr h => ⟨_, PSs.nox ?_, pure_init (pn := "value") vs H Q E h⟩)
  · obtain ⟨a, C, t0, y, rfl, _⟩ := h
    rfl
  · exact pss_cons (ps_expr (pe_initB EV.base_LE rfl T.g (by decide +kernel) EV.typ_LE (by decide +kernel) T.fc (pa_cons (pv 0) (pa_cons pe_str pa_nil)))) (pss_one (ps_put EV.base_LE (pv 0) (pv 1)))
end
end K99

set_option Elab.async false
set_option linter.all false
set_option maxRecDepth 100000
set_option maxHeartbeats 1000000
/-! The draws of a law. -/
namespace K99
open PySem PySem.Spec PyProof.Rows L2 XV
abbrev FnG (K : PySem.W.Frag) (x : Str) (st : Stmt) (f : Addr) (fd : FuncData) : Prop := FunD K x x (defArgs st) (defBody st) (defScope st) [] [] f fd
abbrev sMixed : Stmt := top 27
abbrev sDraw : Stmt := top 28
abbrev sDigit : Stmt := top 29
theorem scMixed : FnScope ["cell", "k", "number"] ["cell", "k"] (defScope sMixed) := ⟨rfl, rfl, rfl, by decide +kernel, rfl, by decide +kernel, by decide +kernel⟩
theorem scDraw : FnScope ["cell", "k"] ["cell", "k"] (defScope sDraw) := ⟨rfl, rfl, rfl, by decide +kernel, rfl, by decide +kernel, by decide +kernel⟩
theorem scDigit : FnScope ["state", "below", "j", "found"] ["state", "below"] (defScope sDigit) := ⟨rfl, rfl, rfl, by decide +kernel, rfl, by decide +kernel, by decide +kernel⟩
theorem same_new {H : Hp} {p : Addr} {o : HO} (h : H p = none) : Same H (upd H p o) := fun b x e => by
  rw [upd_ne (ne_of_none e h)]
  exact e
/-- a number is mixed -/
def spMixed : Sp := fun vs H Q _ => ∃ c k : Int, vs = [.int c, .int k] ∧ 0 ≤ k ∧ k ≤ 1000000 ∧ ∀ (r : Int) (H' : Hp), 0 ≤ r → r < 2147483647 → Same H H' → Q (.int r) H'
abbrev primes : List Int := [1000000007, 998244353, 2147483629, 1000000009]
theorem primes_at {k : Int} (h : 0 ≤ k) : ∃ p : Int, atI (primes.map V.int) (k % 4) = some (.int p) ∧ 0 < p ∧ p < 2147483648 := by
  have h1 : 0 ≤ k % 4 := Int.emod_nonneg _ (by decide)
  have h2 : k % 4 < 4 := Int.emod_lt_of_pos _ (by decide)
  have h3 : k % 4 = 0 ∨ k % 4 = 1 ∨ k % 4 = 2 ∨ k % 4 = 3 := by omega
  rcases h3 with e | e | e | e <;> rw [e]
  · exact ⟨1000000007, rfl, by decide, by decide⟩
  · exact ⟨998244353, rfl, by decide, by decide⟩
  · exact ⟨2147483629, rfl, by decide, by decide⟩
  · exact ⟨1000000009, rfl, by decide, by decide⟩
section
variable {P : Program} {w : World} {K : PySem.W.Frag} {mg : Str → Option Value} {base : Heap} {f fM : Addr} {fd fdM : FuncData}
theorem ok_mixed (F : FnG K "_law_mixed" sMixed f fd) : FnOk P w K mg base CX0 1 f fd ["cell", "k"] spMixed := by
  refine F.ok scMixed (fun vs H Q E h => ?_) (fun cdv A outer s H vs Q E hr h => ?_)
  · obtain ⟨c, k, rfl, _⟩ := h
    rfl
  · obtain ⟨c, k, rfl, k0, k1, q⟩ := h
    refine ⟨_, pss_cons (ps_set (i := 2) scMixed.nd rfl (.inl rfl) (pe_op op_add (pe_op op_add (pe_op op_mod (pv 0) (pe_ix ix_list (pe_lst (pa_cons pe_int (pa_cons pe_int (pa_cons pe_int (pa_cons pe_int pa_nil))))) (pe_op op_mod (pv 1) pe_int) (fun _ _ => rfl))) (pe_op op_mul pe_int (pv 1))) pe_int))
      (pss_one (ps_ret (pe_op op_mod (pe_op op_mul (pe_op op_mod (pe_op op_mul (pv 2) (pv 2)) pe_int) pe_int) pe_int))), ?_⟩
    refine ⟨_, rfl, (by show 4 ≤ sizeLine; rw [sizeLine_eq]; decide), fun l nl => ?_⟩
    obtain ⟨p, ep, p0, p1⟩ := primes_at k0
    refine ⟨_, rfl, _, _, rfl, rfl, (by show (0 : Int) < 4; decide), l, primes.map V.int, _, _, rfl, rfl, SqL.of upd_same, ep, c, p, rfl, rfl, p0, ?_⟩
    refine ⟨_, rfl, _, _, rfl, rfl, .inl ⟨by decide, by decide⟩, _, _, rfl, rfl, _, _, rfl, rfl, ?_⟩
    have a1 : 0 ≤ c % p := Int.emod_nonneg _ (by omega)
    have a2 : c % p < p := Int.emod_lt_of_pos _ p0
    refine ⟨_, rfl, _, rfl, _, _, rfl, rfl, .inl ⟨by omega, by omega⟩, _, _, rfl, rfl, (by show (0 : Int) < 2147483647; decide), ?_⟩
    refine ⟨_, _, rfl, rfl, .inr ⟨by decide, by decide⟩, _, _, rfl, rfl, (by show (0 : Int) < 2147483647; decide), ?_⟩
    exact q _ _ (Int.emod_nonneg _ (by decide)) (Int.emod_lt_of_pos _ (by decide)) (same_new nl)
/-! the draws' record: a dict of three -/
abbrev kLeft : Key := Sum.inr ("left" : Str)
abbrev kCell : Key := Sum.inr ("cell" : Str)
abbrev kTurns : Key := Sum.inr ("turns" : Str)
def dig (L c t : Int) : List (Key × V) := [(kLeft, .int L), (kCell, .int c), (kTurns, .int t)]
theorem ne_lc : ¬ kLeft = kCell := by decide +kernel
theorem ne_lt : ¬ kLeft = kTurns := by decide +kernel
theorem ne_ct : ¬ kCell = kTurns := by decide +kernel
theorem dig_left (L c t : Int) : valV (dig L c t) kLeft = some (.int L) := by
  unfold dig
  rw [valV_pos rfl]
theorem dig_cell (L c t : Int) : valV (dig L c t) kCell = some (.int c) := by
  unfold dig
  rw [valV_neg ne_lc, valV_pos rfl]
theorem dig_turns (L c t : Int) : valV (dig L c t) kTurns = some (.int t) := by
  unfold dig
  rw [valV_neg ne_lt, valV_neg ne_ct, valV_pos rfl]
theorem put_left (L c t x : Int) : putK (dig L c t) kLeft (.int x) = dig x c t := by
  have a1 : ¬ kCell = kLeft := fun e => ne_lc e.symm
  have a2 : ¬ kTurns = kLeft := fun e => ne_lt e.symm
  unfold putK dig
  rw [if_pos (by simp)]
  simp only [List.map_cons, List.map_nil, if_pos, if_neg a1, if_neg a2]
theorem put_turns (L c t x : Int) : putK (dig L c t) kTurns (.int x) = dig L c x := by
  unfold putK dig
  rw [if_pos (by simp)]
  simp only [List.map_cons, List.map_nil, if_pos, if_neg ne_lt, if_neg ne_ct]
theorem merge_dig (L c t : Int) : mergeK [] (dig L c t) = dig L c t := by
  have e1 : putK [] kLeft (.int L) = [(kLeft, V.int L)] := putK_new _ rfl
  have e2 : putK [(kLeft, V.int L)] kCell (.int c) = [(kLeft, V.int L), (kCell, .int c)] := putK_new _ (by rw [valV_neg ne_lc, valV_nil])
  have e3 : putK [(kLeft, V.int L), (kCell, V.int c)] kTurns (.int t) = dig L c t := putK_new _ (by rw [valV_neg ne_lt, valV_neg ne_ct, valV_nil])
  show putK (putK (putK [] kLeft (.int L)) kCell (.int c)) kTurns (.int t) = dig L c t
  rw [e1, e2, e3]
def spDraw : Sp := fun vs H Q _ => ∃ c k : Int, vs = [.int c, .int k] ∧ 0 ≤ k ∧ k ≤ 1000 ∧ ∀ (d : Addr) (L : Int) (H' : Hp), 0 ≤ L → Same H H' → H d = none → H' d = some (.dK (dig L c (1000 * k))) → Q (.ref d) H'
theorem ok_draw (F : FnG K "_law_draw" sDraw f fd) : FnOk P w K mg base CX0 1 f fd ["cell", "k"] spDraw := by
  refine F.ok scDraw (fun vs H Q E h => ?_) (fun cdv A outer s H vs Q E hr h => ?_)
  · obtain ⟨c, k, rfl, _⟩ := h
    rfl
  · obtain ⟨c, k, rfl, k0, k1, q⟩ := h
    refine ⟨_, pss_one (ps_ret (pe_disp (pps_cons pe_str (pe_ifExp (pt_cmpR op_ge (pv 0) (pe_op op_pow pe_int pe_int) (nomark _)) (pv 0) pe_int) (pps_cons pe_str (pv 0) (pps_cons pe_str (pe_op op_mul pe_int (pv 1)) pps_nil))) (by rfl) (by rfl) (fun z => by cases z) (by decide))), ?_⟩
    intro d nd
    have fin : ∀ L : Int, 0 ≤ L → Q (.ref d) (upd (upd H d (.dK [])) d (.dK (mergeK [] (dig L c (1000 * k))))) := fun L hL => by
      rw [upd_upd, merge_dig]
      exact q d L _ hL (same_new nd) nd upd_same
    refine ⟨_, rfl, _, _, rfl, rfl, ⟨by decide, by decide, by decide⟩, _, _, rfl, rfl, _, rfl, ?_⟩
    refine ite2 (fun hc => ?_) (fun hc => ?_)
    · refine ⟨_, rfl, _, rfl, _, rfl, _, _, rfl, rfl, .inl ⟨by decide, by decide⟩, upd_same, dig c c (1000 * k), rfl, (by show 3 ≤ 15; decide), fin c ?_⟩
      have h1 := of_decide_eq_true hc
      exact Int.le_trans (by decide) h1
    · exact ⟨_, rfl, _, rfl, _, _, rfl, rfl, .inl ⟨by decide, by decide⟩, upd_same, dig 0 c (1000 * k), rfl, (by show 3 ≤ 15; decide), fin 0 (Int.le_refl _)⟩
section
variable {H : Hp} {d : Addr} {L c t x : Int}
theorem get_left (h : H d = some (.dK (dig L c t))) : DGet H d (.str "left") (some (.int L)) := .inl ⟨dig L c t, kLeft, .inl h, rfl, (dig_left L c t).symm⟩
theorem get_cell (h : H d = some (.dK (dig L c t))) : DGet H d (.str "cell") (some (.int c)) := .inl ⟨dig L c t, kCell, .inl h, rfl, (dig_cell L c t).symm⟩
theorem get_turns (h : H d = some (.dK (dig L c t))) : DGet H d (.str "turns") (some (.int t)) := .inl ⟨dig L c t, kTurns, .inl h, rfl, (dig_turns L c t).symm⟩
theorem dput_left (h : H d = some (.dK (dig L c t))) : DPut H d (.str "left") (.int x) (upd H d (.dK (dig x c t))) := .inl ⟨dig L c t, kLeft, h, rfl, (by show 3 < sizeLine; rw [sizeLine_eq]; decide), by rw [put_left]⟩
theorem dput_turns (h : H d = some (.dK (dig L c t))) : DPut H d (.str "turns") (.int x) (upd H d (.dK (dig L c x))) := .inl ⟨dig L c t, kTurns, h, rfl, (by show 3 < sizeLine; rw [sizeLine_eq]; decide), by rw [put_turns]⟩
end
/-- all but what stands at d is as it was -/
def But (d : Addr) (H H' : Hp) : Prop := ∀ b o, b ≠ d → H b = some o → H' b = some o
theorem But.upd' {d : Addr} {H H' : Hp} {o : HO} (h : But d H H') : But d H (upd H' d o) := fun b u hb e => by
  rw [upd_ne hb]
  exact h b u hb e
theorem But.same {d : Addr} {H H1 H2 : Hp} (h : But d H H1) (s : Same H1 H2) : But d H H2 := fun b o hb e => s b o (h b o hb e)
theorem But.trans {d : Addr} {H H1 H2 : Hp} (h : But d H H1) (s : But d H1 H2) : But d H H2 := fun b o hb e => s b o hb (h b o hb e)
theorem But.refl {d : Addr} {H : Hp} : But d H H := fun _ _ _ e => e
def spDigit : Sp := fun vs H Q _ => ∃ (d : Addr) (L c t b : Int), vs = [.ref d, .int b] ∧ H d = some (.dK (dig L c t)) ∧ 0 ≤ L ∧ 0 ≤ t ∧ t ≤ 900000 ∧ 0 < b ∧ b < 1073741824 ∧
  ∀ (r L' t' : Int) (H' : Hp), 0 ≤ r → r < b → 0 ≤ L' → 0 ≤ t' → t' ≤ t + 4 → But d H H' → H' d = some (.dK (dig L' c t')) → Q (.int r) H'
theorem ok_digit (F : FnG K "_law_digit" sDigit f fd) (FM : FnG K "_law_mixed" sMixed fM fdM) (gM : mg "_law_mixed" = some (.ref fM)) (gR : mg "range" = none) : FnOk P w K mg base CX0 2 f fd ["state", "below"] spDigit := by
  have GM : FnOk P w K mg base CX0 1 fM fdM ["cell", "k"] spMixed := ok_mixed FM
  have bM : Binds K fdM ["cell", "k"] [] := FM.bindsN fun _ _ _ _ _ _ us hl => match us, hl with | [_, _], _ => rfl
  refine F.ok scDigit (fun vs H Q E h => ?_) (fun cdv A outer s H vs Q E hr h => ?_)
  · obtain ⟨d, L, c, t, b, rfl, _⟩ := h
    rfl
  · obtain ⟨d, L, c, t, b, rfl, hd, L0, t0, t1, b0, b1, q⟩ := h
    have hu := hu_of hr
    refine ⟨_, PSs.nox (pss_cons (ps_if (pt_cmpR op_eq (pe_dget hu (pv 0) pe_str (fun _ _ => rfl)) pe_int (nomark _))
        (pss_one (ps_for PassesOwn.never rfl (pi_range1 rfl gR (pa_cons pe_int pa_nil)) (pg_name (i := 2) scDigit.nd rfl (.inl rfl))
          (pss_cons (ps_dput hu (pv 0) pe_str (pe_op op_add (pe_dget hu (pv 0) pe_str (fun _ _ => rfl)) pe_int) rfl)
          (pss_one (ps_dput hu (pv 0) pe_str (pe_op op_add (pe_op op_mul (pe_dget hu (pv 0) pe_str (fun _ _ => rfl)) pe_int)
            (pe_call GM hr rfl gM FM.kp bM .nil pass0 (pa_cons (pe_dget hu (pv 0) pe_str (fun _ _ => rfl)) (pa_cons (pe_dget hu (pv 0) pe_str (fun _ _ => rfl)) pa_nil)))) rfl))))) pss_nil)
      (pss_cons (ps_set (i := 3) scDigit.nd rfl (.inl rfl) (pe_op op_mod (pe_dget hu (pv 0) pe_str (fun _ _ => rfl)) (pv 1)))
      (pss_cons (ps_dput hu (pv 0) pe_str (pe_op op_fdiv (pe_dget hu (pv 0) pe_str (fun _ _ => rfl)) (pv 1)) rfl)
      (pss_one (ps_ret (pv 3)))))), ?_⟩
    refine ⟨_, rfl, d, _, rfl, get_left hd, rfl, _, rfl, ?_⟩
    refine ite2 (fun _ => ?_) (fun _ => ?_)
    · refine ⟨4, rfl, by decide, by decide, for_range (n := 4) (fun i σ H' => ∃ (L1 u1 : Int) (v2 : Option V), σ = [some (.ref d), some (.int b), v2, none] ∧ H' d = some (.dK (dig L1 c u1)) ∧ 0 ≤ L1 ∧ 0 ≤ u1 ∧ u1 ≤ t + i ∧ But d H H')
        ⟨L, t, none, rfl, hd, L0, t0, by omega, But.refl⟩ ?_ ?_⟩
      · rintro i σ H' hi ⟨L1, u1, v2, rfl, hd1, l1, p1, p2, kb⟩
        refine ⟨_, rfl, d, _, rfl, get_turns hd1, _, _, rfl, rfl, _, rfl, d, _, rfl, dput_turns hd1, ?_⟩
        have hd2 : ∀ x, (upd H' d (.dK (dig L1 c x))) d = some (.dK (dig L1 c x)) := fun x => upd_same
        refine ⟨_, rfl, d, _, rfl, get_left upd_same, _, _, rfl, rfl, .inr ⟨by decide, by decide⟩, _, rfl, d, _, rfl, get_cell upd_same, _, rfl, d, _, rfl, get_turns upd_same, ?_⟩
        refine ⟨c, u1 + 1, rfl, by omega, by omega, fun r H2 r0 r1 sm => ?_⟩
        have hd3 : H2 d = some (.dK (dig L1 c (u1 + 1))) := sm _ _ upd_same
        refine ⟨_, _, rfl, rfl, _, rfl, d, _, rfl, dput_left hd3, ?_⟩
        refine ⟨_, _, _, rfl, upd_same, ?_, by omega, by omega, (kb.upd'.same sm).upd'⟩
        have h1 : 0 ≤ L1 * 2147483647 := Int.mul_nonneg l1 (by decide)
        omega
      · rintro σ H' ⟨L1, u1, v2, rfl, hd1, l1, p1, p2, kb⟩
        refine ⟨_, rfl, d, _, rfl, get_left hd1, _, rfl, _, _, rfl, rfl, b0, ?_⟩
        refine ⟨_, rfl, d, _, rfl, get_left hd1, _, rfl, _, _, rfl, rfl, ⟨b0, b1⟩, _, rfl, d, _, rfl, dput_left hd1, _, rfl, ?_⟩
        exact q _ _ _ _ (Int.emod_nonneg _ (by omega)) (Int.emod_lt_of_pos _ b0) (Int.ediv_nonneg l1 (by omega)) p1 (by omega) kb.upd' upd_same
    · refine ⟨_, rfl, d, _, rfl, get_left hd, _, rfl, _, _, rfl, rfl, b0, ?_⟩
      refine ⟨_, rfl, d, _, rfl, get_left hd, _, rfl, _, _, rfl, rfl, ⟨b0, b1⟩, _, rfl, d, _, rfl, dput_left hd, _, rfl, ?_⟩
      exact q _ _ _ _ (Int.emod_nonneg _ (by omega)) (Int.emod_lt_of_pos _ b0) (Int.ediv_nonneg L0 (by omega)) t0 (by omega) But.refl.upd' upd_same
end
end K99

set_option Elab.async false
set_option linter.all false
set_option maxRecDepth 100000
set_option maxHeartbeats 1000000
/-! The errors as a table; making them; their kinds. -/
namespace K99
open PySem PySem.Spec PyProof.Rows L2 XV
/-- an error's class: its name, its base's chain, what makes it, its message, its field, whether it is below RealError -/
structure EC where
  name : Str
  bm : List Value
  newId : String
  msg : Str
  field : Str
  re : Bool
abbrev eBadFraction : EC := ⟨"BadFraction", mVE, "ValueError.__new__", "no such fraction", "value", true⟩
abbrev eBadName : EC := ⟨"BadName", mVE, "ValueError.__new__", "no such name", "value", true⟩
abbrev eBadNumber : EC := ⟨"BadNumber", mVE, "ValueError.__new__", "no such number", "value", true⟩
abbrev eBadPolynomial : EC := ⟨"BadPolynomial", mVE, "ValueError.__new__", "no such polynomial", "place", true⟩
abbrev eBadFormula : EC := ⟨"BadFormula", mVE, "ValueError.__new__", "no such formula", "place", true⟩
abbrev eBadTheory : EC := ⟨"BadTheory", mVE, "ValueError.__new__", "no such theory", "place", true⟩
abbrev eBadPoint : EC := ⟨"BadPoint", mVE, "ValueError.__new__", "no such point", "place", true⟩
abbrev eBadTower : EC := ⟨"BadTower", mVE, "ValueError.__new__", "no such tower", "place", true⟩
abbrev eBadTable : EC := ⟨"BadTable", mVE, "ValueError.__new__", "no such table", "place", true⟩
abbrev eBadStretches : EC := ⟨"BadStretches", mVE, "ValueError.__new__", "no such stretches", "place", true⟩
abbrev eBadTest : EC := ⟨"BadTest", mVE, "ValueError.__new__", "no such test point", "place", true⟩
abbrev eBadAtoms : EC := ⟨"BadAtoms", mVE, "ValueError.__new__", "no such atoms", "place", true⟩
abbrev eBadWitness : EC := ⟨"BadWitness", mVE, "ValueError.__new__", "no such numbers", "place", true⟩
abbrev eBadPlan : EC := ⟨"BadPlan", mVE, "ValueError.__new__", "no such plan", "place", true⟩
abbrev eBadCase : EC := ⟨"BadCase", mVE, "ValueError.__new__", "no such case", "place", true⟩
abbrev eBadRows : EC := ⟨"BadRows", mVE, "ValueError.__new__", "no such rows", "place", true⟩
abbrev eBadBytes : EC := ⟨"BadBytes", mVE, "ValueError.__new__", "no such bytes", "place", true⟩
abbrev eBadTask : EC := ⟨"BadTask", mVE, "ValueError.__new__", "no such task", "place", true⟩
abbrev eBadFigure : EC := ⟨"BadFigure", mVE, "ValueError.__new__", "no such figure", "place", true⟩
abbrev eBadText : EC := ⟨"BadText", mVE, "ValueError.__new__", "no such text", "place", true⟩
abbrev eBadPaper : EC := ⟨"BadPaper", mVE, "ValueError.__new__", "no such paper", "place", true⟩
abbrev eBadDeed : EC := ⟨"BadDeed", mVE, "ValueError.__new__", "no such deed", "place", true⟩
abbrev eTooMany : EC := ⟨"TooMany", mOE, "OverflowError.__new__", "too many", "most", false⟩
abbrev eNoSuch : EC := ⟨"NoSuch", mLE, "LookupError.__new__", "nothing so called", "value", false⟩
def valued : List EC := [eBadFraction, eBadName, eBadNumber]
def placed : List EC := [eBadPolynomial, eBadFormula, eBadTheory, eBadPoint, eBadTower, eBadTable, eBadStretches, eBadTest, eBadAtoms, eBadWitness, eBadPlan, eBadCase, eBadRows, eBadBytes, eBadTask, eBadFigure, eBadText, eBadPaper, eBadDeed]
def errs : List EC := valued ++ placed ++ [eTooMany, eNoSuch]
/-- a class that is asked for -/
inductive Cw where
  | own (x : Str) | ty (n : String)
def Cw.v (K : PySem.W.Frag) : Cw → V
  | .own x => .ref (He.ga K x)
  | .ty n => .ty n
def Cw.u (K : PySem.W.Frag) : Cw → Value
  | .own x => .ref (He.ga K x)
  | .ty n => .type n
theorem Cw.cls (K : PySem.W.Frag) : ∀ c : Cw, ClsV (c.v K) (c.u K)
  | .own x => .own _
  | .ty n => .ty n
def isK (e : EC) : Cw → Bool
  | .own x => decide (x = e.name) || (decide (x = ("RealError" : Str)) && e.re)
  | .ty n => e.bm.contains (.type n)
def words : List (Str × Cw) := [("BadAtoms", .own "BadAtoms"), ("BadBytes", .own "BadBytes"), ("BadCase", .own "BadCase"), ("BadDeed", .own "BadDeed"), ("BadFigure", .own "BadFigure"), ("BadFormula", .own "BadFormula"), ("BadFraction", .own "BadFraction"), ("BadName", .own "BadName"), ("BadNumber", .own "BadNumber"), ("BadPaper", .own "BadPaper"), ("BadPlan", .own "BadPlan"), ("BadPoint", .own "BadPoint"), ("BadPolynomial", .own "BadPolynomial"), ("BadRows", .own "BadRows"), ("BadStretches", .own "BadStretches"), ("BadTable", .own "BadTable"), ("BadTask", .own "BadTask"), ("BadTest", .own "BadTest"), ("BadText", .own "BadText"), ("BadTheory", .own "BadTheory"), ("BadTower", .own "BadTower"), ("BadWitness", .own "BadWitness"), ("NoSuch", .own "NoSuch"), ("TooMany", .own "TooMany"), ("base", .own "RealError"), ("value", .ty "ValueError"), ("lookup", .ty "LookupError"), ("overflow", .ty "OverflowError")]
def kinds (e : EC) : List Str := (words.filter fun q => isK e q.2).map (·.1)
theorem kinds_re : ∀ e ∈ valued ++ placed, kinds e = [e.name, ("base" : Str), ("value" : Str)] := by decide +kernel
theorem kinds_many : kinds eTooMany = [("TooMany" : Str), ("overflow" : Str)] := by decide +kernel
theorem kinds_none : kinds eNoSuch = [("NoSuch" : Str), ("lookup" : Str)] := by decide +kernel
/-- what the top holds of an error's class -/
structure Ec (P : Program) (w : World) (K : PySem.W.Frag) (mg : Str → Option Value) (base : Heap) (e : EC) : Prop where
  g : mg e.name = some (.ref (He.ga K e.name))
  c : XvC K e.bm e.newId (He.ga K e.name)
  no : PySem.W.findIn K (.ref (He.ga K e.name)) e.field = some none
  ini : PySem.W.findIn K (.ref (He.ga K e.name)) "__init__" = some (some (.ref (He.ma K (He.ga K e.name) "__init__")))
  ti : PySem.W.typeIn K (.ref (He.ma K (He.ga K e.name) "__init__")) = some (.type "function")
  bx : ∃ B i, EV.BaseX B e.newId i e.bm
  fn : ∃ fd, FnOk P w K mg base CX0 1 (He.ma K (He.ga K e.name) "__init__") fd ["self", e.field] (spI K e.bm e.newId e.msg e.field) ∧ Binds K fd ["self", e.field] [] ∧ (e.name ≠ ("TooMany" : Str) → Binds K fd ["self", e.field] [.none]) ∧
    ∀ (s : Shared) (u v : Value), K.In s.heap → BindsTo s fd ⟨[u], [(e.field, v)]⟩ ((["self", e.field] : List Str).zip [u, v])
/-- isinstance of errors -/
def Kit (K : PySem.W.Frag) : Prop := ∀ e ∈ errs, ∀ q ∈ words, PySem.W.kitOne K (.ref (He.ga K e.name)) (q.2.u K) = some (isK e q.2)
theorem made_upd {H : Hp} {a C t d : Addr} {msg f : Str} {y : V} {o : HO} : made (upd H a o) a C t d msg f y = made H a C t d msg f y := by
  funext b
  unfold made upd
  by_cases h : b = a
  · simp only [h, if_true]
  · by_cases h2 : b = d
    · simp only [h, h2, if_true, if_false]
    · by_cases h3 : b = t
      · simp only [h, h2, h3, if_true, if_false]
      · simp only [h, h2, h3, if_false]
/-- at a an error stands that was made of y -/
def EAt (K : PySem.W.Frag) (H : Hp) (a : Addr) (e : EC) (y : V) : Prop := ∃ t d, H a = some (xvo a (He.ga K e.name) t (some d)) ∧ H d = some (xvd d [(e.field, y)]) ∧ H t = some (.tup [.str e.msg])
theorem EAt.same {K : PySem.W.Frag} {H H' : Hp} {a : Addr} {e : EC} {y : V} (h : EAt K H a e y) (s : Same H H') : EAt K H' a e y := by
  obtain ⟨t, d, h1, h2, h3⟩ := h
  exact ⟨t, d, s _ _ h1, s _ _ h2, s _ _ h3⟩
/-- C(y): a new error -/
def tMk (K : PySem.W.Frag) (e : EC) (ta : TE) : TE := fun σ H Q => ta σ H fun y H1 => ∀ a H2, H1 a = none → Same H1 H2 → EAt K H2 a e y → Q (.ref a) H2
section
variable {X : Cx} {e : EC} {p pos kpos : Pos} {x : Expr} {te : TE}
theorem mk_fin {H : Hp} {Q : VK} {y : V} (G : Ec X.prog X.w X.K X.mg X.base e) (q : ∀ a H2, H a = none → Same H H2 → EAt X.K H2 a e y → Q (.ref a) H2) (a t0 : Addr) (na : H a = none) (vs : List V) (ev : vs = [y]) :
    spI X.K e.bm e.newId e.msg e.field (.ref a :: vs) (upd H a (xvo a (He.ga X.K e.name) t0 none)) (fun v H2 => v = .non ∧ Q (.ref a) H2) E0 := by
  subst ev
  refine ⟨a, _, t0, y, rfl, G.c, G.no, upd_same, fun t d nt nd ta da dt => ⟨rfl, ?_⟩⟩
  rw [upd_ne ta] at nt
  rw [upd_ne da] at nd
  rw [made_upd]
  have sm : Same H (made H a (He.ga X.K e.name) t d e.msg e.field y) := fun b o hb => by
    unfold made
    rw [upd_ne (ne_of_none hb na), upd_ne (ne_of_none hb nd), upd_ne (ne_of_none hb nt)]
    exact hb
  refine q a _ na sm ⟨t, d, ?_, ?_, ?_⟩
  · unfold made
    rw [upd_same]
  · unfold made
    rw [upd_ne da, upd_same]
  · unfold made
    rw [upd_ne ta, upd_ne dt.symm, upd_same]
/-- what is wanted of a list of just one value -/
def one1 (f : V → Prop) : List V → Prop
  | [y] => f y
  | _ => False
theorem one1_get {f : V → Prop} : ∀ {vs : List V}, one1 f vs → ∃ y, vs = [y] ∧ f y
  | [y], h => ⟨y, rfl, h⟩
theorem pe_mk (G : Ec X.prog X.w X.K X.mg X.base e) (hr : Room 2 X.A) (hg : Gl X e.name) (ha : PE X x te) (hdb : (e.name == ("__debug__" : Str)) = false := by decide)
    (he : starEach [x] X.env = (false, eval x X.env) :: starEach [] X.env := by rfl) (hpl : (backTo pos (starEach [] X.env)).any (·.1) = false := by rfl) : PE X (.Call (.Name e.name p) [x] [] pos) (tMk X.K e te) := by
  obtain ⟨B, i, bx⟩ := G.bx
  obtain ⟨fd, F, b1, b0, bk⟩ := G.fn
  refine ⟨fun pins s σ H Q I h => ?_⟩
  refine wpAny_Call_Name_kw (ld_glob I hg G.g ?_ hdb)
  refine PySem.W.callWith_K (h₀ := X.base) I.ok.mod.kin G.c.kC (thn ((pa_cons ha pa_nil he).run pos pins s σ H (fun vs H1 => one1 (fun y => ∀ a H2, H1 a = none → Same H1 H2 → EAt X.K H2 a e y → Q (.ref a) H2) vs) I h) fun us s1 ⟨vs, H1, I1, r1, q1⟩ => ⟨I1.kIn, ?_⟩) he hpl
  obtain ⟨y, rfl, q⟩ := one1_get q1
  obtain ⟨u, rfl, ru⟩ := vals1 r1
  refine run_new (us := [u]) (ws := [u]) (kw := []) (vs := [y]) bx G.c G.ini G.ti F hr pass0 I1 (by show 1 ≤ sizeLine; rw [sizeLine_eq]; decide) (.cons ru .nil) (fun s x X => b1 s [x, u] X rfl) ?_
  exact fun a t0 na => mk_fin G q a t0 na _ rfl
theorem pe_mkK (G : Ec X.prog X.w X.K X.mg X.base e) (hr : Room 2 X.A) (hg : Gl X e.name) (ha : PE X x te) (hdb : (e.name == ("__debug__" : Str)) = false := by decide)
    (hall : (backToKw pos (keywordEach [⟨some e.field, x, kpos⟩] X.env)).all (·.1.isSome) = true := by rfl) (hks : (backToKw pos (keywordEach [⟨some e.field, x, kpos⟩] X.env)).filterMap (·.1) = [e.field] := by rfl)
    (hpl : ((backTo pos (starEach [] X.env)).any (·.1) || (backToKw pos (keywordEach [⟨some e.field, x, kpos⟩] X.env)).any (·.1.isNone)) = false := by rfl) :
    PE X (.Call (.Name e.name p) [] [⟨some e.field, x, kpos⟩] pos) (tMk X.K e te) := by
  obtain ⟨B, i, bx⟩ := G.bx
  obtain ⟨fd, F, b1, b0, bk⟩ := G.fn
  refine ⟨fun pins s σ H Q I h => ?_⟩
  refine wpAny_Call_Name_kw (ld_glob I hg G.g ?_ hdb)
  refine PySem.W.callWith_KW0 (h₀ := X.base) I.ok.mod.kin G.c.kC hall ?_ hpl
  have hkw : PK X [⟨some e.field, x, kpos⟩] (tCons te tNil) := pk_cons ha pk_nil
  refine thn (hkw.run pos pins s σ H (fun vs H1 => one1 (fun y => ∀ a H2, H1 a = none → Same H1 H2 → EAt X.K H2 a e y → Q (.ref a) H2) vs) I h) fun ws s2 ⟨zs, H2, I2, rz, q2⟩ => ⟨I2.kIn, ?_⟩
  obtain ⟨y, rfl, q⟩ := one1_get q2
  obtain ⟨u, rfl, ru⟩ := vals1 rz
  rw [hks]
  show wpAny _ _ (call (.ref (He.ga X.K e.name)) [] [(e.field, u)]) _ _ _
  refine run_new (us := []) (ws := [u]) (kw := [(e.field, u)]) (vs := [y]) bx G.c G.ini G.ti F hr pass0 I2 (Nat.zero_le _) (.cons ru .nil) (fun s x X => bk s x u X) ?_
  exact fun a t0 na => mk_fin G q a t0 na _ rfl
theorem pe_mk0 (G : Ec X.prog X.w X.K X.mg X.base e) (hn : e.name ≠ ("TooMany" : Str)) (hr : Room 2 X.A) (hg : Gl X e.name) (hdb : (e.name == ("__debug__" : Str)) = false := by decide) : PE X (.Call (.Name e.name p) [] [] pos) (tMk X.K e (tC .non)) := by
  obtain ⟨B, i, bx⟩ := G.bx
  obtain ⟨fd, F, b1, b0, bk⟩ := G.fn
  refine ⟨fun pins s σ H Q I h => ?_⟩
  refine wpAny_Call_Name_kw (ld_glob I hg G.g ?_ hdb)
  refine PySem.W.callWith_K0 I.kIn G.c.kC (run_new (us := []) (ws := [.none]) (kw := []) (vs := [.non]) bx G.c G.ini G.ti F hr pass0 I (Nat.zero_le _) (.cons rfl .nil) (fun s x X => b0 hn s [x] X rfl) ?_)
  exact fun a t0 na => mk_fin G h a t0 na _ rfl
end
end K99

set_option Elab.async false
set_option linter.all false
set_option maxRecDepth 100000
set_option maxHeartbeats 400000
/-! _law_kinds. -/
namespace K99
open PySem PySem.Spec PyProof.Rows L2 XV
abbrev sKinds : Stmt := top 30
theorem scKinds : FnScope ["e", "some", "word", "is_so"] ["e"] (defScope sKinds) := ⟨rfl, rfl, rfl, by decide +kernel, rfl, by decide +kernel, by decide +kernel⟩
def RowAt (H : Hp) (v : V) (q : Str × Bool) : Prop := ∃ p, v = .ref p ∧ H p = some (.tup [.str q.1, .bl q.2])
theorem RowAt.same {H H' : Hp} {v : V} {q : Str × Bool} (h : RowAt H v q) (s : Same H H') : RowAt H' v q := by
  obtain ⟨p, e, h⟩ := h
  exact ⟨p, e, s _ _ h⟩
abbrev Rows (H : Hp) : List V → List (Str × Bool) → Prop := Paired (RowAt H)
theorem Rows.same {H H' : Hp} : ∀ {vs : List V} {qs : List (Str × Bool)}, Rows H vs qs → Same H H' → Rows H' vs qs
  | _, _, .nil, _ => .nil
  | _, _, .cons r t, s => .cons (r.same s) (Rows.same t s)
theorem Rows.app {H : Hp} : ∀ {vs us : List V} {qs rs : List (Str × Bool)}, Rows H vs qs → Rows H us rs → Rows H (vs ++ us) (qs ++ rs)
  | _, _, _, _, .nil, h => h
  | _, _, _, _, .cons r t, h => .cons r (Rows.app t h)
theorem Rows.at {H : Hp} : ∀ {vs : List V} {qs : List (Str × Bool)} {i : Nat} {v : V}, Rows H vs qs → vs[i]? = some v → ∃ q, qs[i]? = some q ∧ RowAt H v q
  | _, _, _, _, .nil, h => by simp at h
  | _, _, 0, _, .cons r _, h => by
    cases h
    exact ⟨_, rfl, r⟩
  | _, _, i + 1, v, .cons _ t, h => Rows.at (i := i) (v := v) t (by simpa using h)
abbrev tPair (K : PySem.W.Frag) (e : EC) (q : Str × Cw) : TE := tTup (tCons (tC (.str q.1)) (tCons (tCB (rIsX K e.bm e.newId) (tCons (tVar 0) (tCons (tC (q.2.v K)) tNil))) tNil))
abbrev tTwo (K : PySem.W.Frag) (e : EC) (q1 q2 : Str × Cw) : TE := tLst (tCons (tPair K e q1) (tCons (tPair K e q2) tNil))
theorem pair_ok {K : PySem.W.Frag} {e : EC} {q : Str × Cw} {a : Addr} {y : V} {σ : L2.St} {H : Hp} {Q : VK} (T : XvC K e.bm e.newId (He.ga K e.name)) (A : EAt K H a e y) (k : PySem.W.kitOne K (.ref (He.ga K e.name)) (q.2.u K) = some (isK e q.2)) (h0 : σ[0]? = some (some (.ref a)))
    (h : ∀ v H', Same H H' → RowAt H' v (q.1, isK e q.2) → Q v H') : tPair K e q σ H Q := by
  obtain ⟨t, d, h1, h2, h3⟩ := A
  refine ⟨_, h0, a, _, t, d, _, _, _, _, rfl, T, h1, h2, q.2.cls K, k, (by show 2 ≤ sizeLine; rw [sizeLine_eq]; decide), fun p np => ?_⟩
  exact h _ _ (same_new np) ⟨p, rfl, upd_same⟩
theorem two_ok {K : PySem.W.Frag} {e : EC} {q1 q2 : Str × Cw} {a : Addr} {y : V} {σ : L2.St} {H : Hp} {Q : VK} (T : XvC K e.bm e.newId (He.ga K e.name)) (A : EAt K H a e y) (k1 : PySem.W.kitOne K (.ref (He.ga K e.name)) (q1.2.u K) = some (isK e q1.2)) (k2 : PySem.W.kitOne K (.ref (He.ga K e.name)) (q2.2.u K) = some (isK e q2.2))
    (h0 : σ[0]? = some (some (.ref a))) (h : ∀ l v1 v2 H', Same H H' → H' l = some (.lst [v1, v2]) → Rows H' [v1, v2] [(q1.1, isK e q1.2), (q2.1, isK e q2.2)] → Q (.ref l) H') : tTwo K e q1 q2 σ H Q := by
  show tPair K e q1 σ H (fun x H1 => tPair K e q2 σ H1 (fun y H2 => ([x, y] : List V).length ≤ sizeLine ∧ ∀ p, H2 p = none → Q (.ref p) (upd H2 p (.lst [x, y]))))
  refine pair_ok T A k1 h0 fun v1 H1 s1 r1 => ?_
  refine pair_ok T (A.same s1) k2 h0 fun v2 H2 s2 r2 => ?_
  refine ⟨(by show 2 ≤ sizeLine; rw [sizeLine_eq]; decide), fun l nl => ?_⟩
  have s3 : Same H2 (upd H2 l (.lst [v1, v2])) := same_new nl
  exact h l v1 v2 _ (s1.trans (s2.trans s3)) upd_same (.cons (r1.same (s2.trans s3)) (.cons (r2.same s3) .nil))
theorem more_ok {K : PySem.W.Frag} {e : EC} {q1 q2 : Str × Cw} {a l : Addr} {y : V} {σ : L2.St} {H : Hp} {Q : VK} {vs : List V} {qs : List (Str × Bool)} (T : XvC K e.bm e.newId (He.ga K e.name)) (A : EAt K H a e y) (k1 : PySem.W.kitOne K (.ref (He.ga K e.name)) (q1.2.u K) = some (isK e q1.2)) (k2 : PySem.W.kitOne K (.ref (He.ga K e.name)) (q2.2.u K) = some (isK e q2.2))
    (hl : H l = some (.lst vs)) (hr : Rows H vs qs) (hz : vs.length ≤ 1000) (h : ∀ l' vs' H', Same H H' → H' l' = some (.lst vs') → Rows H' vs' (qs ++ [(q1.1, isK e q1.2), (q2.1, isK e q2.2)]) → vs'.length = vs.length + 2 → Q (.ref l') H') :
    tOp rCat (tVar 1) (tTwo K e q1 q2) (some (.ref a) :: some (.ref l) :: σ) H Q := by
  refine ⟨_, rfl, two_ok T A k1 k2 rfl fun b v1 v2 H1 s1 hb r1 => ?_⟩
  refine ⟨l, b, vs, [v1, v2], rfl, rfl, s1 _ _ hl, hb, ?_, fun p np => ?_⟩
  · rw [sizeLine_eq]
    show vs.length + 2 ≤ _
    omega
  · have s2 : Same H1 (upd H1 p (.lst (vs ++ [v1, v2]))) := same_new np
    refine h p _ _ (s1.trans s2) upd_same ((hr.same (s1.trans s2)).app (r1.same s2)) ?_
    rw [List.length_append]
    rfl
theorem two_st {K : PySem.W.Frag} {e : EC} {q1 q2 : Str × Cw} {a : Addr} {y : V} {x0 : Option V} {σ : L2.St} {H : Hp} {rest : TS} {D : Ends} (T : XvC K e.bm e.newId (He.ga K e.name)) (A : EAt K H a e y) (k1 : PySem.W.kitOne K (.ref (He.ga K e.name)) (q1.2.u K) = some (isK e q1.2)) (k2 : PySem.W.kitOne K (.ref (He.ga K e.name)) (q2.2.u K) = some (isK e q2.2))
    (h : ∀ l v1 v2 H', Same H H' → H' l = some (.lst [v1, v2]) → Rows H' [v1, v2] [(q1.1, isK e q1.2), (q2.1, isK e q2.2)] → rest D (some (.ref a) :: some (.ref l) :: σ) H') : tSeq (tAsg (tTwo K e q1 q2) (gName 1)) rest D (some (.ref a) :: x0 :: σ) H :=
  two_ok (σ := some (V.ref a) :: x0 :: σ) (Q := fun v H' => rest D (some (V.ref a) :: some v :: σ) H') T A k1 k2 rfl h
theorem more_st {K : PySem.W.Frag} {e : EC} {q1 q2 : Str × Cw} {a l : Addr} {y : V} {σ : L2.St} {H : Hp} {rest : TS} {D : Ends} {vs : List V} {qs : List (Str × Bool)} (T : XvC K e.bm e.newId (He.ga K e.name)) (A : EAt K H a e y) (k1 : PySem.W.kitOne K (.ref (He.ga K e.name)) (q1.2.u K) = some (isK e q1.2)) (k2 : PySem.W.kitOne K (.ref (He.ga K e.name)) (q2.2.u K) = some (isK e q2.2))
    (hl : H l = some (.lst vs)) (hr : Rows H vs qs) (hz : vs.length ≤ 1000) (h : ∀ l' vs' H', Same H H' → H' l' = some (.lst vs') → Rows H' vs' (qs ++ [(q1.1, isK e q1.2), (q2.1, isK e q2.2)]) → vs'.length = vs.length + 2 → rest D (some (.ref a) :: some (.ref l') :: σ) H') :
    tSeq (tAsg (tOp rCat (tVar 1) (tTwo K e q1 q2)) (gName 1)) rest D (some (.ref a) :: some (.ref l) :: σ) H :=
  more_ok (Q := fun v H' => rest D (some (V.ref a) :: some v :: σ) H') T A k1 k2 hl hr hz h
def answers (e : EC) : List (Str × Bool) := words.map fun q => (q.1, isK e q.2)
theorem kept_eq (e : EC) : ((answers e).filter (·.2)).map (·.1) = kinds e := by
  unfold answers kinds
  rw [List.filter_map, List.map_map]
  rfl
def spKinds (K : PySem.W.Frag) : Sp := fun vs H Q _ => ∃ (a : Addr) (e : EC) (y : V), vs = [.ref a] ∧ e ∈ errs ∧ EAt K H a e y ∧ ∀ p H', Same H H' → H' p = some (.lst ((kinds e).map V.str)) → Q (.ref p) H'
/-- what the top holds of all of them -/
structure Txt (P : Program) (w : World) (K : PySem.W.Frag) (mg : Str → Option Value) (base : Heap) : Prop where
  ec : ∀ e ∈ errs, Ec P w K mg base e
  kit : Kit K
  re : mg "RealError" = some (.ref (He.ga K "RealError"))
  isi : mg "isinstance" = none
  ve : mg "ValueError" = none
  le : mg "LookupError" = none
  oe : mg "OverflowError" = none
theorem Txt.at {P : Program} {w : World} {K : PySem.W.Frag} {mg : Str → Option Value} {base : Heap} (T : Txt P w K mg base) (i : Nat) {e : EC} (h : errs[i]? = some e := by rfl) : Ec P w K mg base e := T.ec e (List.mem_of_getElem? h)
theorem wmem (i : Nat) {q : Str × Cw} (h : words[i]? = some q := by rfl) : q ∈ words := List.mem_of_getElem? h
section
variable {P : Program} {w : World} {K : PySem.W.Frag} {mg : Str → Option Value} {base : Heap} {f : Addr} {fd : FuncData}
theorem ok_kinds (F : FnG K "_law_kinds" sKinds f fd) (T : Txt P w K mg base) : FnOk P w K mg base CX0 1 f fd ["e"] (spKinds K) := by
  refine F.ok scKinds (fun vs H Q E h => ?_) (fun cdv A outer s H vs Q E hr h => ?_)
  · obtain ⟨a, e, y, rfl, _⟩ := h
    rfl
  · obtain ⟨a, e, y, rfl, he, hA, q⟩ := h
    have TC := (T.ec e he).c
    have kt : ∀ q ∈ words, PySem.W.kitOne K (.ref (He.ga K e.name)) (q.2.u K) = some (isK e q.2) := T.kit e he
    refine ⟨_, PSs.nox (
      pss_cons (ps_set (i := 1) scKinds.nd rfl (.inl rfl) (pe_lst (pa_cons (pe_tup (pa_cons pe_str (pa_cons (pe_callB (call_isX (bmB := e.bm) (newId := e.newId)) (by rfl) T.isi (by decide +kernel) (pa_cons (pv 0) (pa_cons (pe_glob (v := .ref (He.ga K "BadAtoms")) rfl (T.at 11 (e := eBadAtoms)).g rfl) pa_nil))) pa_nil))) (pa_cons (pe_tup (pa_cons pe_str (pa_cons (pe_callB (call_isX (bmB := e.bm) (newId := e.newId)) (by rfl) T.isi (by decide +kernel) (pa_cons (pv 0) (pa_cons (pe_glob (v := .ref (He.ga K "BadBytes")) rfl (T.at 16 (e := eBadBytes)).g rfl) pa_nil))) pa_nil))) pa_nil)))) (
      pss_cons (ps_set (i := 1) scKinds.nd rfl (.inl rfl) (pe_op op_cat (pv 1) (pe_lst (pa_cons (pe_tup (pa_cons pe_str (pa_cons (pe_callB (call_isX (bmB := e.bm) (newId := e.newId)) (by rfl) T.isi (by decide +kernel) (pa_cons (pv 0) (pa_cons (pe_glob (v := .ref (He.ga K "BadCase")) rfl (T.at 14 (e := eBadCase)).g rfl) pa_nil))) pa_nil))) (pa_cons (pe_tup (pa_cons pe_str (pa_cons (pe_callB (call_isX (bmB := e.bm) (newId := e.newId)) (by rfl) T.isi (by decide +kernel) (pa_cons (pv 0) (pa_cons (pe_glob (v := .ref (He.ga K "BadDeed")) rfl (T.at 21 (e := eBadDeed)).g rfl) pa_nil))) pa_nil))) pa_nil))))) (
      pss_cons (ps_set (i := 1) scKinds.nd rfl (.inl rfl) (pe_op op_cat (pv 1) (pe_lst (pa_cons (pe_tup (pa_cons pe_str (pa_cons (pe_callB (call_isX (bmB := e.bm) (newId := e.newId)) (by rfl) T.isi (by decide +kernel) (pa_cons (pv 0) (pa_cons (pe_glob (v := .ref (He.ga K "BadFigure")) rfl (T.at 18 (e := eBadFigure)).g rfl) pa_nil))) pa_nil))) (pa_cons (pe_tup (pa_cons pe_str (pa_cons (pe_callB (call_isX (bmB := e.bm) (newId := e.newId)) (by rfl) T.isi (by decide +kernel) (pa_cons (pv 0) (pa_cons (pe_glob (v := .ref (He.ga K "BadFormula")) rfl (T.at 4 (e := eBadFormula)).g rfl) pa_nil))) pa_nil))) pa_nil))))) (
      pss_cons (ps_set (i := 1) scKinds.nd rfl (.inl rfl) (pe_op op_cat (pv 1) (pe_lst (pa_cons (pe_tup (pa_cons pe_str (pa_cons (pe_callB (call_isX (bmB := e.bm) (newId := e.newId)) (by rfl) T.isi (by decide +kernel) (pa_cons (pv 0) (pa_cons (pe_glob (v := .ref (He.ga K "BadFraction")) rfl (T.at 0 (e := eBadFraction)).g rfl) pa_nil))) pa_nil))) (pa_cons (pe_tup (pa_cons pe_str (pa_cons (pe_callB (call_isX (bmB := e.bm) (newId := e.newId)) (by rfl) T.isi (by decide +kernel) (pa_cons (pv 0) (pa_cons (pe_glob (v := .ref (He.ga K "BadName")) rfl (T.at 1 (e := eBadName)).g rfl) pa_nil))) pa_nil))) pa_nil))))) (
      pss_cons (ps_set (i := 1) scKinds.nd rfl (.inl rfl) (pe_op op_cat (pv 1) (pe_lst (pa_cons (pe_tup (pa_cons pe_str (pa_cons (pe_callB (call_isX (bmB := e.bm) (newId := e.newId)) (by rfl) T.isi (by decide +kernel) (pa_cons (pv 0) (pa_cons (pe_glob (v := .ref (He.ga K "BadNumber")) rfl (T.at 2 (e := eBadNumber)).g rfl) pa_nil))) pa_nil))) (pa_cons (pe_tup (pa_cons pe_str (pa_cons (pe_callB (call_isX (bmB := e.bm) (newId := e.newId)) (by rfl) T.isi (by decide +kernel) (pa_cons (pv 0) (pa_cons (pe_glob (v := .ref (He.ga K "BadPaper")) rfl (T.at 20 (e := eBadPaper)).g rfl) pa_nil))) pa_nil))) pa_nil))))) (
      pss_cons (ps_set (i := 1) scKinds.nd rfl (.inl rfl) (pe_op op_cat (pv 1) (pe_lst (pa_cons (pe_tup (pa_cons pe_str (pa_cons (pe_callB (call_isX (bmB := e.bm) (newId := e.newId)) (by rfl) T.isi (by decide +kernel) (pa_cons (pv 0) (pa_cons (pe_glob (v := .ref (He.ga K "BadPlan")) rfl (T.at 13 (e := eBadPlan)).g rfl) pa_nil))) pa_nil))) (pa_cons (pe_tup (pa_cons pe_str (pa_cons (pe_callB (call_isX (bmB := e.bm) (newId := e.newId)) (by rfl) T.isi (by decide +kernel) (pa_cons (pv 0) (pa_cons (pe_glob (v := .ref (He.ga K "BadPoint")) rfl (T.at 6 (e := eBadPoint)).g rfl) pa_nil))) pa_nil))) pa_nil))))) (
      pss_cons (ps_set (i := 1) scKinds.nd rfl (.inl rfl) (pe_op op_cat (pv 1) (pe_lst (pa_cons (pe_tup (pa_cons pe_str (pa_cons (pe_callB (call_isX (bmB := e.bm) (newId := e.newId)) (by rfl) T.isi (by decide +kernel) (pa_cons (pv 0) (pa_cons (pe_glob (v := .ref (He.ga K "BadPolynomial")) rfl (T.at 3 (e := eBadPolynomial)).g rfl) pa_nil))) pa_nil))) (pa_cons (pe_tup (pa_cons pe_str (pa_cons (pe_callB (call_isX (bmB := e.bm) (newId := e.newId)) (by rfl) T.isi (by decide +kernel) (pa_cons (pv 0) (pa_cons (pe_glob (v := .ref (He.ga K "BadRows")) rfl (T.at 15 (e := eBadRows)).g rfl) pa_nil))) pa_nil))) pa_nil))))) (
      pss_cons (ps_set (i := 1) scKinds.nd rfl (.inl rfl) (pe_op op_cat (pv 1) (pe_lst (pa_cons (pe_tup (pa_cons pe_str (pa_cons (pe_callB (call_isX (bmB := e.bm) (newId := e.newId)) (by rfl) T.isi (by decide +kernel) (pa_cons (pv 0) (pa_cons (pe_glob (v := .ref (He.ga K "BadStretches")) rfl (T.at 9 (e := eBadStretches)).g rfl) pa_nil))) pa_nil))) (pa_cons (pe_tup (pa_cons pe_str (pa_cons (pe_callB (call_isX (bmB := e.bm) (newId := e.newId)) (by rfl) T.isi (by decide +kernel) (pa_cons (pv 0) (pa_cons (pe_glob (v := .ref (He.ga K "BadTable")) rfl (T.at 8 (e := eBadTable)).g rfl) pa_nil))) pa_nil))) pa_nil))))) (
      pss_cons (ps_set (i := 1) scKinds.nd rfl (.inl rfl) (pe_op op_cat (pv 1) (pe_lst (pa_cons (pe_tup (pa_cons pe_str (pa_cons (pe_callB (call_isX (bmB := e.bm) (newId := e.newId)) (by rfl) T.isi (by decide +kernel) (pa_cons (pv 0) (pa_cons (pe_glob (v := .ref (He.ga K "BadTask")) rfl (T.at 17 (e := eBadTask)).g rfl) pa_nil))) pa_nil))) (pa_cons (pe_tup (pa_cons pe_str (pa_cons (pe_callB (call_isX (bmB := e.bm) (newId := e.newId)) (by rfl) T.isi (by decide +kernel) (pa_cons (pv 0) (pa_cons (pe_glob (v := .ref (He.ga K "BadTest")) rfl (T.at 10 (e := eBadTest)).g rfl) pa_nil))) pa_nil))) pa_nil))))) (
      pss_cons (ps_set (i := 1) scKinds.nd rfl (.inl rfl) (pe_op op_cat (pv 1) (pe_lst (pa_cons (pe_tup (pa_cons pe_str (pa_cons (pe_callB (call_isX (bmB := e.bm) (newId := e.newId)) (by rfl) T.isi (by decide +kernel) (pa_cons (pv 0) (pa_cons (pe_glob (v := .ref (He.ga K "BadText")) rfl (T.at 19 (e := eBadText)).g rfl) pa_nil))) pa_nil))) (pa_cons (pe_tup (pa_cons pe_str (pa_cons (pe_callB (call_isX (bmB := e.bm) (newId := e.newId)) (by rfl) T.isi (by decide +kernel) (pa_cons (pv 0) (pa_cons (pe_glob (v := .ref (He.ga K "BadTheory")) rfl (T.at 5 (e := eBadTheory)).g rfl) pa_nil))) pa_nil))) pa_nil))))) (
      pss_cons (ps_set (i := 1) scKinds.nd rfl (.inl rfl) (pe_op op_cat (pv 1) (pe_lst (pa_cons (pe_tup (pa_cons pe_str (pa_cons (pe_callB (call_isX (bmB := e.bm) (newId := e.newId)) (by rfl) T.isi (by decide +kernel) (pa_cons (pv 0) (pa_cons (pe_glob (v := .ref (He.ga K "BadTower")) rfl (T.at 7 (e := eBadTower)).g rfl) pa_nil))) pa_nil))) (pa_cons (pe_tup (pa_cons pe_str (pa_cons (pe_callB (call_isX (bmB := e.bm) (newId := e.newId)) (by rfl) T.isi (by decide +kernel) (pa_cons (pv 0) (pa_cons (pe_glob (v := .ref (He.ga K "BadWitness")) rfl (T.at 12 (e := eBadWitness)).g rfl) pa_nil))) pa_nil))) pa_nil))))) (
      pss_cons (ps_set (i := 1) scKinds.nd rfl (.inl rfl) (pe_op op_cat (pv 1) (pe_lst (pa_cons (pe_tup (pa_cons pe_str (pa_cons (pe_callB (call_isX (bmB := e.bm) (newId := e.newId)) (by rfl) T.isi (by decide +kernel) (pa_cons (pv 0) (pa_cons (pe_glob (v := .ref (He.ga K "NoSuch")) rfl (T.at 23 (e := eNoSuch)).g rfl) pa_nil))) pa_nil))) (pa_cons (pe_tup (pa_cons pe_str (pa_cons (pe_callB (call_isX (bmB := e.bm) (newId := e.newId)) (by rfl) T.isi (by decide +kernel) (pa_cons (pv 0) (pa_cons (pe_glob (v := .ref (He.ga K "TooMany")) rfl (T.at 22 (e := eTooMany)).g rfl) pa_nil))) pa_nil))) pa_nil))))) (
      pss_cons (ps_set (i := 1) scKinds.nd rfl (.inl rfl) (pe_op op_cat (pv 1) (pe_lst (pa_cons (pe_tup (pa_cons pe_str (pa_cons (pe_callB (call_isX (bmB := e.bm) (newId := e.newId)) (by rfl) T.isi (by decide +kernel) (pa_cons (pv 0) (pa_cons (pe_glob (v := .ref (He.ga K "RealError")) rfl T.re rfl) pa_nil))) pa_nil))) (pa_cons (pe_tup (pa_cons pe_str (pa_cons (pe_callB (call_isX (bmB := e.bm) (newId := e.newId)) (by rfl) T.isi (by decide +kernel) (pa_cons (pv 0) (pa_cons (pe_bltn (v := .ty "ValueError") rfl T.ve (by decide +kernel) rfl) pa_nil))) pa_nil))) pa_nil))))) (
      pss_cons (ps_set (i := 1) scKinds.nd rfl (.inl rfl) (pe_op op_cat (pv 1) (pe_lst (pa_cons (pe_tup (pa_cons pe_str (pa_cons (pe_callB (call_isX (bmB := e.bm) (newId := e.newId)) (by rfl) T.isi (by decide +kernel) (pa_cons (pv 0) (pa_cons (pe_bltn (v := .ty "LookupError") rfl T.le (by decide +kernel) rfl) pa_nil))) pa_nil))) (pa_cons (pe_tup (pa_cons pe_str (pa_cons (pe_callB (call_isX (bmB := e.bm) (newId := e.newId)) (by rfl) T.isi (by decide +kernel) (pa_cons (pv 0) (pa_cons (pe_bltn (v := .ty "OverflowError") rfl T.oe (by decide +kernel) rfl) pa_nil))) pa_nil))) pa_nil))))) (
      pss_one (ps_ret (pe_lc (own := [("word", 2), ("is_so", 3)]) (g := gTup K 2 (gCons (gName 2) (gCons (gName 3) gNil))) (tt := tTest (tVar 3)) rfl scKinds.nd (pi_list (pv 1)) (blkOk_by (own := [("word", 2), ("is_so", 3)]) (N := ["e", "some", "word", "is_so"]) (sc := defScope sKinds) (by decide +kernel))
        (fun _ _ _ _ _ => pg_tup rfl (pgs_cons (pg_name (i := 2) scKinds.nd rfl (Or.inl rfl)) (pgs_cons (pg_name (i := 3) scKinds.nd rfl (Or.inl rfl)) pgs_nil))) (fun _ _ _ _ _ => pts_one (pt_val (pv 3))) (fun _ _ _ _ _ => pv 2)))))))))))))))))), ?_⟩
    show tSeq _ _ _ [some (V.ref a), none, none, none] H
    refine two_st (q1 := ("BadAtoms", .own "BadAtoms")) (q2 := ("BadBytes", .own "BadBytes")) TC hA (kt ("BadAtoms", .own "BadAtoms") (wmem 0)) (kt ("BadBytes", .own "BadBytes") (wmem 1)) fun l0 u0 v0 H0 s0 hl0 r0 => ?_
    have z0 : ([u0, v0] : List V).length = 2 := rfl
    have t0 := s0
    refine more_st (q1 := ("BadCase", .own "BadCase")) (q2 := ("BadDeed", .own "BadDeed")) TC (hA.same t0) (kt ("BadCase", .own "BadCase") (wmem 2)) (kt ("BadDeed", .own "BadDeed") (wmem 3)) hl0 r0 (by omega) fun l1 w1 H1 s1 hl1 r1 z1 => ?_
    have t1 := t0.trans s1
    refine more_st (q1 := ("BadFigure", .own "BadFigure")) (q2 := ("BadFormula", .own "BadFormula")) TC (hA.same t1) (kt ("BadFigure", .own "BadFigure") (wmem 4)) (kt ("BadFormula", .own "BadFormula") (wmem 5)) hl1 r1 (by omega) fun l2 w2 H2 s2 hl2 r2 z2 => ?_
    have t2 := t1.trans s2
    refine more_st (q1 := ("BadFraction", .own "BadFraction")) (q2 := ("BadName", .own "BadName")) TC (hA.same t2) (kt ("BadFraction", .own "BadFraction") (wmem 6)) (kt ("BadName", .own "BadName") (wmem 7)) hl2 r2 (by omega) fun l3 w3 H3 s3 hl3 r3 z3 => ?_
    have t3 := t2.trans s3
    refine more_st (q1 := ("BadNumber", .own "BadNumber")) (q2 := ("BadPaper", .own "BadPaper")) TC (hA.same t3) (kt ("BadNumber", .own "BadNumber") (wmem 8)) (kt ("BadPaper", .own "BadPaper") (wmem 9)) hl3 r3 (by omega) fun l4 w4 H4 s4 hl4 r4 z4 => ?_
    have t4 := t3.trans s4
    refine more_st (q1 := ("BadPlan", .own "BadPlan")) (q2 := ("BadPoint", .own "BadPoint")) TC (hA.same t4) (kt ("BadPlan", .own "BadPlan") (wmem 10)) (kt ("BadPoint", .own "BadPoint") (wmem 11)) hl4 r4 (by omega) fun l5 w5 H5 s5 hl5 r5 z5 => ?_
    have t5 := t4.trans s5
    refine more_st (q1 := ("BadPolynomial", .own "BadPolynomial")) (q2 := ("BadRows", .own "BadRows")) TC (hA.same t5) (kt ("BadPolynomial", .own "BadPolynomial") (wmem 12)) (kt ("BadRows", .own "BadRows") (wmem 13)) hl5 r5 (by omega) fun l6 w6 H6 s6 hl6 r6 z6 => ?_
    have t6 := t5.trans s6
    refine more_st (q1 := ("BadStretches", .own "BadStretches")) (q2 := ("BadTable", .own "BadTable")) TC (hA.same t6) (kt ("BadStretches", .own "BadStretches") (wmem 14)) (kt ("BadTable", .own "BadTable") (wmem 15)) hl6 r6 (by omega) fun l7 w7 H7 s7 hl7 r7 z7 => ?_
    have t7 := t6.trans s7
    refine more_st (q1 := ("BadTask", .own "BadTask")) (q2 := ("BadTest", .own "BadTest")) TC (hA.same t7) (kt ("BadTask", .own "BadTask") (wmem 16)) (kt ("BadTest", .own "BadTest") (wmem 17)) hl7 r7 (by omega) fun l8 w8 H8 s8 hl8 r8 z8 => ?_
    have t8 := t7.trans s8
    refine more_st (q1 := ("BadText", .own "BadText")) (q2 := ("BadTheory", .own "BadTheory")) TC (hA.same t8) (kt ("BadText", .own "BadText") (wmem 18)) (kt ("BadTheory", .own "BadTheory") (wmem 19)) hl8 r8 (by omega) fun l9 w9 H9 s9 hl9 r9 z9 => ?_
    have t9 := t8.trans s9
    refine more_st (q1 := ("BadTower", .own "BadTower")) (q2 := ("BadWitness", .own "BadWitness")) TC (hA.same t9) (kt ("BadTower", .own "BadTower") (wmem 20)) (kt ("BadWitness", .own "BadWitness") (wmem 21)) hl9 r9 (by omega) fun l10 w10 H10 s10 hl10 r10 z10 => ?_
    have t10 := t9.trans s10
    refine more_st (q1 := ("NoSuch", .own "NoSuch")) (q2 := ("TooMany", .own "TooMany")) TC (hA.same t10) (kt ("NoSuch", .own "NoSuch") (wmem 22)) (kt ("TooMany", .own "TooMany") (wmem 23)) hl10 r10 (by omega) fun l11 w11 H11 s11 hl11 r11 z11 => ?_
    have t11 := t10.trans s11
    refine more_st (q1 := ("base", .own "RealError")) (q2 := ("value", .ty "ValueError")) TC (hA.same t11) (kt ("base", .own "RealError") (wmem 24)) (kt ("value", .ty "ValueError") (wmem 25)) hl11 r11 (by omega) fun l12 w12 H12 s12 hl12 r12 z12 => ?_
    have t12 := t11.trans s12
    refine more_st (q1 := ("lookup", .ty "LookupError")) (q2 := ("overflow", .ty "OverflowError")) TC (hA.same t12) (kt ("lookup", .ty "LookupError") (wmem 26)) (kt ("overflow", .ty "OverflowError") (wmem 27)) hl12 r12 (by omega) fun l13 w13 H13 s13 hl13 r13 z13 => ?_
    have t13 := t12.trans s13
    have rA : Rows H13 w13 (answers e) := r13
    have hz : w13.length = (answers e).length := Paired.length rA
    refine ⟨_, rfl, l13, rfl, ⟨_, SqL.of hl13⟩, fun D nD => ?_⟩
    have nDl : l13 ≠ D := ne_of_none hl13 nD
    have sm : ∀ o, Same H13 (upd H13 D o) := fun o => same_new nD
    refine lc_list (K := K) (a := l13) (xs := w13) (fun i H' => H' = upd H13 D (.lst (((((answers e).take i).filter (·.2)).map (·.1)).map V.str)))
      rfl (fun i H' _ h => by rw [h]; exact SqL.of (sm _ _ _ hl13)) ?_ ?_
    · rintro i x H' hi rfl
      obtain ⟨q', hq, p, rfl, hp⟩ := rA.at hi
      refine ⟨p, _, rfl, SqT.of (sm _ _ _ hp), rfl, _, _, rfl, _, _, rfl, rfl, ?_⟩
      refine ⟨rfl, _, rfl, _, rfl, ?_⟩
      have tk : (answers e).take (i + 1) = (answers e).take i ++ [q'] := by rw [List.take_succ, hq]; rfl
      have le : (((((answers e).take i).filter (·.2)).map (·.1)).map V.str).length < sizeLine := by
        have h1 := List.length_filter_le (fun q : Str × Bool => q.2) ((answers e).take i)
        have h2 : ((answers e).take i).length ≤ (answers e).length := List.length_take_le' ..
        have h3 : (answers e).length = 28 := rfl
        rw [List.length_map, List.length_map, sizeLine_eq]
        omega
      cases hb : q'.2 with
      | true =>
        refine iteT ⟨_, rfl, _, upd_same, le, ?_⟩
        rw [upd_upd, tk, List.filter_append, List.map_append, List.map_append]
        simp [hb]
      | false =>
        refine iteF ?_
        rw [tk, List.filter_append, List.map_append, List.map_append]
        simp [hb]
    · rintro H' rfl
      refine q D _ (t13.trans (sm _)) ?_
      rw [upd_same, hz, List.take_length, kept_eq]
end
end K99

set_option Elab.async false
set_option linter.all false
set_option maxRecDepth 100000
set_option maxHeartbeats 400000
/-! _law_valued, _law_placed. -/
namespace K99
open PySem PySem.Spec PyProof.Rows L2 XV
abbrev sValued : Stmt := top 31
abbrev sPlaced : Stmt := top 32
theorem scValued : FnScope ["thing", "found"] ["thing"] (defScope sValued) := ⟨rfl, rfl, rfl, by decide +kernel, rfl, by decide +kernel, by decide +kernel⟩
theorem scPlaced : FnScope ["thing", "found"] ["thing"] (defScope sPlaced) := ⟨rfl, rfl, rfl, by decide +kernel, rfl, by decide +kernel, by decide +kernel⟩
/-- a row of two errors and their name -/
def ERow (K : PySem.W.Frag) (y : V) (H : Hp) (v : V) (e : EC) : Prop := ∃ p a1 a2, v = .ref p ∧ H p = some (.tup [.ref a1, .ref a2, .str e.name]) ∧ EAt K H a1 e y ∧ EAt K H a2 e y
theorem ERow.same {K : PySem.W.Frag} {y v : V} {H H' : Hp} {e : EC} (h : ERow K y H v e) (s : Same H H') : ERow K y H' v e := by
  obtain ⟨p, a1, a2, e1, h1, h2, h3⟩ := h
  exact ⟨p, a1, a2, e1, s _ _ h1, h2.same s, h3.same s⟩
abbrev ERows (K : PySem.W.Frag) (y : V) (H : Hp) : List V → List EC → Prop := Paired (ERow K y H)
theorem ERows.same {K : PySem.W.Frag} {y : V} {H H' : Hp} : ∀ {vs : List V} {es : List EC}, ERows K y H vs es → Same H H' → ERows K y H' vs es
  | _, _, .nil, _ => .nil
  | _, _, .cons r t, s => .cons (r.same s) (ERows.same t s)
theorem ERows.app {K : PySem.W.Frag} {y : V} {H : Hp} : ∀ {vs us : List V} {es fs : List EC}, ERows K y H vs es → ERows K y H us fs → ERows K y H (vs ++ us) (es ++ fs)
  | _, _, _, _, .nil, h => h
  | _, _, _, _, .cons r t, h => .cons r (ERows.app t h)
theorem ERows.at {K : PySem.W.Frag} {y : V} {H : Hp} : ∀ {vs : List V} {es : List EC} {i : Nat} {v : V}, ERows K y H vs es → vs[i]? = some v → ∃ e, es[i]? = some e ∧ ERow K y H v e
  | _, _, _, _, .nil, h => by simp at h
  | _, _, 0, _, .cons r _, h => by
    cases h
    exact ⟨_, rfl, r⟩
  | _, _, i + 1, v, .cons _ t, h => ERows.at (i := i) (v := v) t (by simpa using h)
abbrev tErr (K : PySem.W.Frag) (e : EC) : TE := tLst (tCons (tTup (tCons (tMk K e (tVar 0)) (tCons (tMk K e (tVar 0)) (tCons (tC (.str e.name)) tNil)))) tNil)
theorem err_ok {K : PySem.W.Frag} {e : EC} {y : V} {σ : L2.St} {H : Hp} {Q : VK} (h0 : σ[0]? = some (some y)) (h : ∀ l v H', Same H H' → H' l = some (.lst [v]) → ERow K y H' v e → Q (.ref l) H') : tErr K e σ H Q := by
  refine ⟨_, h0, fun a1 H1 n1 s1 A1 => ⟨_, h0, fun a2 H2 n2 s2 A2 => ⟨(by show 3 ≤ sizeLine; rw [sizeLine_eq]; decide), fun p np => ⟨(by show 1 ≤ sizeLine; rw [sizeLine_eq]; decide), fun l nl => ?_⟩⟩⟩⟩
  have s3 : Same H2 (upd H2 p (.tup [.ref a1, .ref a2, .str e.name])) := same_new np
  have s4 : Same (upd H2 p (.tup [.ref a1, .ref a2, .str e.name])) (upd (upd H2 p (.tup [.ref a1, .ref a2, .str e.name])) l (.lst [.ref p])) := same_new nl
  exact h l (.ref p) _ (s1.trans (s2.trans (s3.trans s4))) upd_same ⟨p, a1, a2, rfl, s4 _ _ upd_same, (A1.same s2).same (s3.trans s4), A2.same (s3.trans s4)⟩
theorem errs_ok {K : PySem.W.Frag} {e : EC} {y : V} {l : Addr} {σ : L2.St} {H : Hp} {Q : VK} {vs : List V} {es : List EC} (hl : H l = some (.lst vs)) (hr : ERows K y H vs es) (hz : vs.length ≤ 1000)
    (h : ∀ l' vs' H', Same H H' → H' l' = some (.lst vs') → ERows K y H' vs' (es ++ [e]) → vs'.length = vs.length + 1 → Q (.ref l') H') : tOp rCat (tVar 1) (tErr K e) (some y :: some (V.ref l) :: σ) H Q := by
  refine ⟨_, rfl, err_ok rfl fun b v H1 s1 hb r1 => ?_⟩
  refine ⟨l, b, vs, [v], rfl, rfl, s1 _ _ hl, hb, ?_, fun p np => ?_⟩
  · rw [sizeLine_eq]
    show vs.length + 1 ≤ _
    omega
  · have s2 : Same H1 (upd H1 p (.lst (vs ++ [v]))) := same_new np
    refine h p _ _ (s1.trans s2) upd_same ((hr.same (s1.trans s2)).app (.cons (r1.same s2) .nil)) ?_
    rw [List.length_append]
    rfl
theorem err_st {K : PySem.W.Frag} {e : EC} {y : V} {x0 : Option V} {σ : L2.St} {H : Hp} {rest : TS} {D : Ends} (h : ∀ l v H', Same H H' → H' l = some (.lst [v]) → ERow K y H' v e → rest D (some y :: some (V.ref l) :: σ) H') :
    tSeq (tAsg (tErr K e) (gName 1)) rest D (some y :: x0 :: σ) H :=
  err_ok (σ := some y :: x0 :: σ) (Q := fun v H' => rest D (some y :: some v :: σ) H') rfl h
theorem errs_st {K : PySem.W.Frag} {e : EC} {y : V} {l : Addr} {σ : L2.St} {H : Hp} {rest : TS} {D : Ends} {vs : List V} {es : List EC} (hl : H l = some (.lst vs)) (hr : ERows K y H vs es) (hz : vs.length ≤ 1000)
    (h : ∀ l' vs' H', Same H H' → H' l' = some (.lst vs') → ERows K y H' vs' (es ++ [e]) → vs'.length = vs.length + 1 → rest D (some y :: some (V.ref l') :: σ) H') : tSeq (tAsg (tOp rCat (tVar 1) (tErr K e)) (gName 1)) rest D (some y :: some (V.ref l) :: σ) H :=
  errs_ok (Q := fun v H' => rest D (some y :: some v :: σ) H') hl hr hz h
theorem errs_rt {K : PySem.W.Frag} {e : EC} {y : V} {l : Addr} {σ : L2.St} {H : Hp} {D : Ends} {vs : List V} {es : List EC} (hl : H l = some (.lst vs)) (hr : ERows K y H vs es) (hz : vs.length ≤ 1000)
    (h : ∀ l' vs' H', Same H H' → H' l' = some (.lst vs') → ERows K y H' vs' (es ++ [e]) → vs'.length = vs.length + 1 → D.rt (.ref l') H') : tRet (tOp rCat (tVar 1) (tErr K e)) D (some y :: some (V.ref l) :: σ) H :=
  errs_ok (Q := fun v H' => D.rt v H') hl hr hz h
def spRows (K : PySem.W.Frag) (es : List EC) : Sp := fun vs H Q _ => ∃ y, vs = [y] ∧ ∀ l ws H', Same H H' → H' l = some (.lst ws) → ERows K y H' ws es → Q (.ref l) H'
section
variable {P : Program} {w : World} {K : PySem.W.Frag} {mg : Str → Option Value} {base : Heap} {f : Addr} {fd : FuncData}
theorem ok_valued (F : FnG K "_law_valued" sValued f fd) (T : Txt P w K mg base) : FnOk P w K mg base CX0 3 f fd ["thing"] (spRows K valued) := by
  refine F.ok scValued (fun vs H Q E h => ?_) (fun cdv A outer s H vs Q E hr h => ?_)
  · obtain ⟨y, rfl, _⟩ := h
    rfl
  · obtain ⟨y, rfl, q⟩ := h
    refine ⟨_, PSs.nox (
      pss_cons (ps_set (i := 1) scValued.nd rfl (.inl rfl) (pe_lst (pa_cons (pe_tup (pa_cons (pe_mk (e := eBadFraction) (T.at 0 (e := eBadFraction)) hr rfl (pv 0)) (pa_cons (pe_mkK (e := eBadFraction) (T.at 0 (e := eBadFraction)) hr rfl (pv 0)) (pa_cons pe_str pa_nil)))) pa_nil))) (
      pss_cons (ps_set (i := 1) scValued.nd rfl (.inl rfl) (pe_op op_cat (pv 1) (pe_lst (pa_cons (pe_tup (pa_cons (pe_mk (e := eBadName) (T.at 1 (e := eBadName)) hr rfl (pv 0)) (pa_cons (pe_mkK (e := eBadName) (T.at 1 (e := eBadName)) hr rfl (pv 0)) (pa_cons pe_str pa_nil)))) pa_nil)))) (
      pss_one (ps_ret (pe_op op_cat (pv 1) (pe_lst (pa_cons (pe_tup (pa_cons (pe_mk (e := eBadNumber) (T.at 2 (e := eBadNumber)) hr rfl (pv 0)) (pa_cons (pe_mkK (e := eBadNumber) (T.at 2 (e := eBadNumber)) hr rfl (pv 0)) (pa_cons pe_str pa_nil)))) pa_nil))))))), ?_⟩
    show tSeq _ _ _ [some y, none] H
    refine err_st (e := eBadFraction) fun l0 v0 H0 t0 hl0 q0 => ?_
    have r0 : ERows K y H0 [v0] [eBadFraction] := .cons q0 .nil
    have z0 : ([v0] : List V).length = 1 := rfl
    refine errs_st (e := eBadName) hl0 r0 (by omega) fun l1 w1 H1 s1 hl1 r1 z1 => ?_
    have t1 := t0.trans s1
    refine errs_rt (e := eBadNumber) hl1 r1 (by omega) fun l2 w2 H2 s2 hl2 r2 z2 => ?_
    exact q l2 w2 H2 (t1.trans s2) hl2 r2
theorem ok_placed (F : FnG K "_law_placed" sPlaced f fd) (T : Txt P w K mg base) : FnOk P w K mg base CX0 3 f fd ["thing"] (spRows K placed) := by
  refine F.ok scPlaced (fun vs H Q E h => ?_) (fun cdv A outer s H vs Q E hr h => ?_)
  · obtain ⟨y, rfl, _⟩ := h
    rfl
  · obtain ⟨y, rfl, q⟩ := h
    refine ⟨_, PSs.nox (
      pss_cons (ps_set (i := 1) scPlaced.nd rfl (.inl rfl) (pe_lst (pa_cons (pe_tup (pa_cons (pe_mk (e := eBadPolynomial) (T.at 3 (e := eBadPolynomial)) hr rfl (pv 0)) (pa_cons (pe_mkK (e := eBadPolynomial) (T.at 3 (e := eBadPolynomial)) hr rfl (pv 0)) (pa_cons pe_str pa_nil)))) pa_nil))) (
      pss_cons (ps_set (i := 1) scPlaced.nd rfl (.inl rfl) (pe_op op_cat (pv 1) (pe_lst (pa_cons (pe_tup (pa_cons (pe_mk (e := eBadFormula) (T.at 4 (e := eBadFormula)) hr rfl (pv 0)) (pa_cons (pe_mkK (e := eBadFormula) (T.at 4 (e := eBadFormula)) hr rfl (pv 0)) (pa_cons pe_str pa_nil)))) pa_nil)))) (
      pss_cons (ps_set (i := 1) scPlaced.nd rfl (.inl rfl) (pe_op op_cat (pv 1) (pe_lst (pa_cons (pe_tup (pa_cons (pe_mk (e := eBadTheory) (T.at 5 (e := eBadTheory)) hr rfl (pv 0)) (pa_cons (pe_mkK (e := eBadTheory) (T.at 5 (e := eBadTheory)) hr rfl (pv 0)) (pa_cons pe_str pa_nil)))) pa_nil)))) (
      pss_cons (ps_set (i := 1) scPlaced.nd rfl (.inl rfl) (pe_op op_cat (pv 1) (pe_lst (pa_cons (pe_tup (pa_cons (pe_mk (e := eBadPoint) (T.at 6 (e := eBadPoint)) hr rfl (pv 0)) (pa_cons (pe_mkK (e := eBadPoint) (T.at 6 (e := eBadPoint)) hr rfl (pv 0)) (pa_cons pe_str pa_nil)))) pa_nil)))) (
      pss_cons (ps_set (i := 1) scPlaced.nd rfl (.inl rfl) (pe_op op_cat (pv 1) (pe_lst (pa_cons (pe_tup (pa_cons (pe_mk (e := eBadTower) (T.at 7 (e := eBadTower)) hr rfl (pv 0)) (pa_cons (pe_mkK (e := eBadTower) (T.at 7 (e := eBadTower)) hr rfl (pv 0)) (pa_cons pe_str pa_nil)))) pa_nil)))) (
      pss_cons (ps_set (i := 1) scPlaced.nd rfl (.inl rfl) (pe_op op_cat (pv 1) (pe_lst (pa_cons (pe_tup (pa_cons (pe_mk (e := eBadTable) (T.at 8 (e := eBadTable)) hr rfl (pv 0)) (pa_cons (pe_mkK (e := eBadTable) (T.at 8 (e := eBadTable)) hr rfl (pv 0)) (pa_cons pe_str pa_nil)))) pa_nil)))) (
      pss_cons (ps_set (i := 1) scPlaced.nd rfl (.inl rfl) (pe_op op_cat (pv 1) (pe_lst (pa_cons (pe_tup (pa_cons (pe_mk (e := eBadStretches) (T.at 9 (e := eBadStretches)) hr rfl (pv 0)) (pa_cons (pe_mkK (e := eBadStretches) (T.at 9 (e := eBadStretches)) hr rfl (pv 0)) (pa_cons pe_str pa_nil)))) pa_nil)))) (
      pss_cons (ps_set (i := 1) scPlaced.nd rfl (.inl rfl) (pe_op op_cat (pv 1) (pe_lst (pa_cons (pe_tup (pa_cons (pe_mk (e := eBadTest) (T.at 10 (e := eBadTest)) hr rfl (pv 0)) (pa_cons (pe_mkK (e := eBadTest) (T.at 10 (e := eBadTest)) hr rfl (pv 0)) (pa_cons pe_str pa_nil)))) pa_nil)))) (
      pss_cons (ps_set (i := 1) scPlaced.nd rfl (.inl rfl) (pe_op op_cat (pv 1) (pe_lst (pa_cons (pe_tup (pa_cons (pe_mk (e := eBadAtoms) (T.at 11 (e := eBadAtoms)) hr rfl (pv 0)) (pa_cons (pe_mkK (e := eBadAtoms) (T.at 11 (e := eBadAtoms)) hr rfl (pv 0)) (pa_cons pe_str pa_nil)))) pa_nil)))) (
      pss_cons (ps_set (i := 1) scPlaced.nd rfl (.inl rfl) (pe_op op_cat (pv 1) (pe_lst (pa_cons (pe_tup (pa_cons (pe_mk (e := eBadWitness) (T.at 12 (e := eBadWitness)) hr rfl (pv 0)) (pa_cons (pe_mkK (e := eBadWitness) (T.at 12 (e := eBadWitness)) hr rfl (pv 0)) (pa_cons pe_str pa_nil)))) pa_nil)))) (
      pss_cons (ps_set (i := 1) scPlaced.nd rfl (.inl rfl) (pe_op op_cat (pv 1) (pe_lst (pa_cons (pe_tup (pa_cons (pe_mk (e := eBadPlan) (T.at 13 (e := eBadPlan)) hr rfl (pv 0)) (pa_cons (pe_mkK (e := eBadPlan) (T.at 13 (e := eBadPlan)) hr rfl (pv 0)) (pa_cons pe_str pa_nil)))) pa_nil)))) (
      pss_cons (ps_set (i := 1) scPlaced.nd rfl (.inl rfl) (pe_op op_cat (pv 1) (pe_lst (pa_cons (pe_tup (pa_cons (pe_mk (e := eBadCase) (T.at 14 (e := eBadCase)) hr rfl (pv 0)) (pa_cons (pe_mkK (e := eBadCase) (T.at 14 (e := eBadCase)) hr rfl (pv 0)) (pa_cons pe_str pa_nil)))) pa_nil)))) (
      pss_cons (ps_set (i := 1) scPlaced.nd rfl (.inl rfl) (pe_op op_cat (pv 1) (pe_lst (pa_cons (pe_tup (pa_cons (pe_mk (e := eBadRows) (T.at 15 (e := eBadRows)) hr rfl (pv 0)) (pa_cons (pe_mkK (e := eBadRows) (T.at 15 (e := eBadRows)) hr rfl (pv 0)) (pa_cons pe_str pa_nil)))) pa_nil)))) (
      pss_cons (ps_set (i := 1) scPlaced.nd rfl (.inl rfl) (pe_op op_cat (pv 1) (pe_lst (pa_cons (pe_tup (pa_cons (pe_mk (e := eBadBytes) (T.at 16 (e := eBadBytes)) hr rfl (pv 0)) (pa_cons (pe_mkK (e := eBadBytes) (T.at 16 (e := eBadBytes)) hr rfl (pv 0)) (pa_cons pe_str pa_nil)))) pa_nil)))) (
      pss_cons (ps_set (i := 1) scPlaced.nd rfl (.inl rfl) (pe_op op_cat (pv 1) (pe_lst (pa_cons (pe_tup (pa_cons (pe_mk (e := eBadTask) (T.at 17 (e := eBadTask)) hr rfl (pv 0)) (pa_cons (pe_mkK (e := eBadTask) (T.at 17 (e := eBadTask)) hr rfl (pv 0)) (pa_cons pe_str pa_nil)))) pa_nil)))) (
      pss_cons (ps_set (i := 1) scPlaced.nd rfl (.inl rfl) (pe_op op_cat (pv 1) (pe_lst (pa_cons (pe_tup (pa_cons (pe_mk (e := eBadFigure) (T.at 18 (e := eBadFigure)) hr rfl (pv 0)) (pa_cons (pe_mkK (e := eBadFigure) (T.at 18 (e := eBadFigure)) hr rfl (pv 0)) (pa_cons pe_str pa_nil)))) pa_nil)))) (
      pss_cons (ps_set (i := 1) scPlaced.nd rfl (.inl rfl) (pe_op op_cat (pv 1) (pe_lst (pa_cons (pe_tup (pa_cons (pe_mk (e := eBadText) (T.at 19 (e := eBadText)) hr rfl (pv 0)) (pa_cons (pe_mkK (e := eBadText) (T.at 19 (e := eBadText)) hr rfl (pv 0)) (pa_cons pe_str pa_nil)))) pa_nil)))) (
      pss_cons (ps_set (i := 1) scPlaced.nd rfl (.inl rfl) (pe_op op_cat (pv 1) (pe_lst (pa_cons (pe_tup (pa_cons (pe_mk (e := eBadPaper) (T.at 20 (e := eBadPaper)) hr rfl (pv 0)) (pa_cons (pe_mkK (e := eBadPaper) (T.at 20 (e := eBadPaper)) hr rfl (pv 0)) (pa_cons pe_str pa_nil)))) pa_nil)))) (
      pss_one (ps_ret (pe_op op_cat (pv 1) (pe_lst (pa_cons (pe_tup (pa_cons (pe_mk (e := eBadDeed) (T.at 21 (e := eBadDeed)) hr rfl (pv 0)) (pa_cons (pe_mkK (e := eBadDeed) (T.at 21 (e := eBadDeed)) hr rfl (pv 0)) (pa_cons pe_str pa_nil)))) pa_nil))))))))))))))))))))))), ?_⟩
    show tSeq _ _ _ [some y, none] H
    refine err_st (e := eBadPolynomial) fun l0 v0 H0 t0 hl0 q0 => ?_
    have r0 : ERows K y H0 [v0] [eBadPolynomial] := .cons q0 .nil
    have z0 : ([v0] : List V).length = 1 := rfl
    refine errs_st (e := eBadFormula) hl0 r0 (by omega) fun l1 w1 H1 s1 hl1 r1 z1 => ?_
    have t1 := t0.trans s1
    refine errs_st (e := eBadTheory) hl1 r1 (by omega) fun l2 w2 H2 s2 hl2 r2 z2 => ?_
    have t2 := t1.trans s2
    refine errs_st (e := eBadPoint) hl2 r2 (by omega) fun l3 w3 H3 s3 hl3 r3 z3 => ?_
    have t3 := t2.trans s3
    refine errs_st (e := eBadTower) hl3 r3 (by omega) fun l4 w4 H4 s4 hl4 r4 z4 => ?_
    have t4 := t3.trans s4
    refine errs_st (e := eBadTable) hl4 r4 (by omega) fun l5 w5 H5 s5 hl5 r5 z5 => ?_
    have t5 := t4.trans s5
    refine errs_st (e := eBadStretches) hl5 r5 (by omega) fun l6 w6 H6 s6 hl6 r6 z6 => ?_
    have t6 := t5.trans s6
    refine errs_st (e := eBadTest) hl6 r6 (by omega) fun l7 w7 H7 s7 hl7 r7 z7 => ?_
    have t7 := t6.trans s7
    refine errs_st (e := eBadAtoms) hl7 r7 (by omega) fun l8 w8 H8 s8 hl8 r8 z8 => ?_
    have t8 := t7.trans s8
    refine errs_st (e := eBadWitness) hl8 r8 (by omega) fun l9 w9 H9 s9 hl9 r9 z9 => ?_
    have t9 := t8.trans s9
    refine errs_st (e := eBadPlan) hl9 r9 (by omega) fun l10 w10 H10 s10 hl10 r10 z10 => ?_
    have t10 := t9.trans s10
    refine errs_st (e := eBadCase) hl10 r10 (by omega) fun l11 w11 H11 s11 hl11 r11 z11 => ?_
    have t11 := t10.trans s11
    refine errs_st (e := eBadRows) hl11 r11 (by omega) fun l12 w12 H12 s12 hl12 r12 z12 => ?_
    have t12 := t11.trans s12
    refine errs_st (e := eBadBytes) hl12 r12 (by omega) fun l13 w13 H13 s13 hl13 r13 z13 => ?_
    have t13 := t12.trans s13
    refine errs_st (e := eBadTask) hl13 r13 (by omega) fun l14 w14 H14 s14 hl14 r14 z14 => ?_
    have t14 := t13.trans s14
    refine errs_st (e := eBadFigure) hl14 r14 (by omega) fun l15 w15 H15 s15 hl15 r15 z15 => ?_
    have t15 := t14.trans s15
    refine errs_st (e := eBadText) hl15 r15 (by omega) fun l16 w16 H16 s16 hl16 r16 z16 => ?_
    have t16 := t15.trans s16
    refine errs_st (e := eBadPaper) hl16 r16 (by omega) fun l17 w17 H17 s17 hl17 r17 z17 => ?_
    have t17 := t16.trans s17
    refine errs_rt (e := eBadDeed) hl17 r17 (by omega) fun l18 w18 H18 s18 hl18 r18 z18 => ?_
    exact q l18 w18 H18 (t17.trans s18) hl18 r18
end
end K99

set_option Elab.async false
set_option linter.all false
set_option maxRecDepth 100000
set_option maxHeartbeats 400000
/-! _law_right. -/
namespace K99
open PySem PySem.Spec PyProof.Rows L2 XV
abbrev sRight : Stmt := top 33
theorem scRight : FnScope ["thing", "one", "other", "name"] ["thing"] (defScope sRight) := ⟨rfl, rfl, rfl, by decide +kernel, rfl, by decide +kernel, by decide +kernel⟩
theorem valued_are : ∀ e ∈ valued, e.field = ("value" : Str) ∧ e.bm = mVE ∧ e.newId = "ValueError.__new__" := by decide +kernel
theorem placed_are : ∀ e ∈ placed, e.field = ("place" : Str) ∧ e.bm = mVE ∧ e.newId = "ValueError.__new__" := by decide +kernel
mutual
theorem dp_same {K : PySem.W.Frag} {H H' : Hp} (s : Same H H') : ∀ {v : V} {d : PyData}, Dp K H v d → Dp K H' v d
  | _, _, .non => .non
  | _, _, .bl b => .bl b
  | _, _, .int i => .int i
  | _, _, .str x => .str x
  | _, _, .lst h r => .lst (s.seq h) (dpAll_same s r)
  | _, _, .tup h r => .tup (by
      rcases h with (h | ⟨o, h⟩) | h
      · exact .inl (.inl (s _ _ h))
      · exact .inl (.inr ⟨o, s _ _ h⟩)
      · exact .inr h) (dpAll_same s r)
theorem dpAll_same {K : PySem.W.Frag} {H H' : Hp} (s : Same H H') : ∀ {vs : List V} {ds : List PyData}, DpAll K H vs ds → DpAll K H' vs ds
  | _, _, .nil => .nil
  | _, _, .cons r t => .cons (dp_same s r) (dpAll_same s t)
end
theorem dp_strs (K : PySem.W.Frag) (H : Hp) : ∀ xs : List Str, DpAll K H (xs.map V.str) (xs.map PyData.str)
  | [] => .nil
  | x :: xs => .cons (.str x) (dp_strs K H xs)
/-- two equal values are not told unlike -/
theorem ne_ok {K : PySem.W.Frag} {x y : V} {H : Hp} {Q : Bool → Hp → Prop} {d : PyData} (hx : Dp K H x d) (hy : Dp K H y d) (sd : SeqAt.shaped d = true) (eq : PyData.eqv d d = true) (h : Q false H) : rNeD K x y H fun z H' => ∃ k, z = .bl k ∧ Q k H' := by
  refine ⟨d, d, hx, hy, sd, sd, _, rfl, ?_⟩
  rw [eq]
  exact h
theorem data_re : ∀ e ∈ valued ++ placed, SeqAt.shaped (.list ([e.name, ("base" : Str), ("value" : Str)].map PyData.str)) = true ∧ PyData.eqv (.list ([e.name, ("base" : Str), ("value" : Str)].map PyData.str)) (.list ([e.name, ("base" : Str), ("value" : Str)].map PyData.str)) = true := by decide +kernel
theorem data_many : SeqAt.shaped (.list ([("TooMany" : Str), ("overflow" : Str)].map PyData.str)) = true ∧ PyData.eqv (.list ([("TooMany" : Str), ("overflow" : Str)].map PyData.str)) (.list ([("TooMany" : Str), ("overflow" : Str)].map PyData.str)) = true := by decide +kernel
theorem data_none : SeqAt.shaped (.list ([("NoSuch" : Str), ("lookup" : Str)].map PyData.str)) = true ∧ PyData.eqv (.list ([("NoSuch" : Str), ("lookup" : Str)].map PyData.str)) (.list ([("NoSuch" : Str), ("lookup" : Str)].map PyData.str)) = true := by decide +kernel
/-- a thing that an error is made of -/
structure Thing (K : PySem.W.Frag) (H : Hp) (y : V) : Prop where
  dp : ∃ d, Dp K H y d ∧ SeqAt.shaped d = true ∧ PyData.eqv d d = true
theorem Thing.same {K : PySem.W.Frag} {H H' : Hp} {y : V} (h : Thing K H y) (s : Same H H') : Thing K H' y := by
  obtain ⟨d, h1, h2⟩ := h.dp
  exact ⟨d, dp_same s h1, h2⟩
/-- _law_kinds(one) != [..] is false -/
theorem kinds_ok {K : PySem.W.Frag} {a : Addr} {e : EC} {y : V} {i : Nat} {t : TA} {σ : L2.St} {H : Hp} {Q : Bool → Hp → Prop} {xs : List Str} (he : e ∈ errs) (A : EAt K H a e y) (hi : σ[i]? = some (some (.ref a))) (hk : kinds e = xs) (sd : SeqAt.shaped (.list (xs.map PyData.str)) = true ∧ PyData.eqv (.list (xs.map PyData.str)) (.list (xs.map PyData.str)) = true)
    (hz : xs.length ≤ 1000) (ht : ∀ (H' : Hp) (R : List V → Hp → Prop), R (xs.map V.str) H' → t σ H' R) (h : ∀ H', Same H H' → Q false H') :
    tTest (tOp (rNeD K) (tCall (spKinds K) [] E0 (tCons (tVar i) tNil)) (tLst t)) σ H Q := by
  refine ⟨_, hi, a, e, y, rfl, he, A, fun p H1 s1 h1 => ?_⟩
  refine ht H1 _ ⟨?_, fun l nl => ?_⟩
  · rw [List.length_map, sizeLine_eq]
    omega
  · have s2 : Same H1 (upd H1 l (.lst (xs.map V.str))) := same_new nl
    rw [hk] at h1
    exact ne_ok (.lst (SqL.of (s2 _ _ h1)) (dp_strs K _ xs)) (.lst (SqL.of upd_same) (dp_strs K _ xs)) sd.1 sd.2 (h _ (s1.trans s2))
/-- one.f != thing is false -/
theorem field_ok {K : PySem.W.Frag} {bm : List Value} {newId : String} {f : Str} {a : Addr} {e : EC} {y : V} {i : Nat} {σ : L2.St} {H : Hp} {Q : Bool → Hp → Prop} (c : XvC K bm newId (He.ga K e.name)) (no : PySem.W.findIn K (.ref (He.ga K e.name)) f = some none) (hf : e.field = f) (A : EAt K H a e y) (T : Thing K H y)
    (hi : σ[i]? = some (some (.ref a))) (h0 : σ[0]? = some (some y)) (h : Q false H) : tTest (tOp (rNeD K) (tGet K bm newId f (tVar i)) (tVar 0)) σ H Q := by
  obtain ⟨t, d, h1, h2, h3⟩ := A
  obtain ⟨dd, p1, p2, p3⟩ := T.dp
  refine ⟨_, hi, a, _, t, d, _, y, rfl, c, no, h1, h2, ?_, _, h0, ne_ok p1 p1 p2 p3 h⟩
  rw [hf]
  simp [List.lookup]
/-- one turn of the loops over rows -/
abbrev tTurn (K : PySem.W.Frag) (f : Str) : TS := tSeq (tIfS (tOr (tTest (tOp (rNeD K) (tCall (spKinds K) [] E0 (tCons (tVar 1) tNil)) (tLst (tCons (tVar 3) (tCons (tC (.str "base")) (tCons (tC (.str "value")) tNil))))))
    (tTest (tOp (rNeD K) (tCall (spKinds K) [] E0 (tCons (tVar 2) tNil)) (tLst (tCons (tVar 3) (tCons (tC (.str "base")) (tCons (tC (.str "value")) tNil))))))) (tRet (tC (.bl false))) tNext)
  (tIfS (tOr (tTest (tOp (rNeD K) (tGet K mVE "ValueError.__new__" f (tVar 1)) (tVar 0))) (tTest (tOp (rNeD K) (tGet K mVE "ValueError.__new__" f (tVar 2)) (tVar 0)))) (tRet (tC (.bl false))) tNext)
theorem turn_ok {P : Program} {w : World} {K : PySem.W.Frag} {mg : Str → Option Value} {base : Heap} {f : Str} {a1 a2 : Addr} {e : EC} {y : V} {H : Hp} {D : Ends} (T : Txt P w K mg base) (he : e ∈ valued ++ placed) (hf : e.field = f ∧ e.bm = mVE ∧ e.newId = "ValueError.__new__") (A1 : EAt K H a1 e y) (A2 : EAt K H a2 e y) (Y : Thing K H y)
    (h : ∀ H', Same H H' → D.nx [some y, some (.ref a1), some (.ref a2), some (.str e.name)] H') : tTurn K f D [some y, some (.ref a1), some (.ref a2), some (.str e.name)] H := by
  have he2 : e ∈ errs := List.mem_append_left _ he
  have G := T.ec e he2
  obtain ⟨f1, f2, f3⟩ := hf
  have c := G.c
  have no := G.no
  rw [f2, f3] at c
  rw [f1] at no
  refine kinds_ok he2 A1 rfl (kinds_re e he) (data_re e he) (by show 3 ≤ 1000; decide) (fun H' R r => ⟨_, rfl, r⟩) fun H1 s1 => ?_
  refine iteF (kinds_ok he2 (A2.same s1) rfl (kinds_re e he) (data_re e he) (by show 3 ≤ 1000; decide) (fun H' R r => ⟨_, rfl, r⟩) fun H2 s2 => iteF ?_)
  have s12 := s1.trans s2
  refine field_ok c no f1 (A1.same s12) (Y.same s12) rfl rfl (iteF ?_)
  refine field_ok c no f1 (A2.same s12) (Y.same s12) rfl rfl (iteF ?_)
  exact h _ s12
def spRight (K : PySem.W.Frag) : Sp := fun vs H Q _ => ∃ y, vs = [y] ∧ Thing K H y ∧ ∀ H', Same H H' → Q (.bl true) H'
section
variable {P : Program} {w : World} {K : PySem.W.Frag} {mg : Str → Option Value} {base : Heap} {f fK fV fP : Addr} {fd fdK fdV fdP : FuncData}
theorem ok_right (F : FnG K "_law_right" sRight f fd) (FK : FnG K "_law_kinds" sKinds fK fdK) (FV : FnG K "_law_valued" sValued fV fdV) (FP : FnG K "_law_placed" sPlaced fP fdP) (T : Txt P w K mg base)
    (gK : mg "_law_kinds" = some (.ref fK)) (gV : mg "_law_valued" = some (.ref fV)) (gP : mg "_law_placed" = some (.ref fP)) : FnOk P w K mg base CX0 4 f fd ["thing"] (spRight K) := by
  have GK : FnOk P w K mg base CX0 1 fK fdK ["e"] (spKinds K) := ok_kinds FK T
  have GV : FnOk P w K mg base CX0 3 fV fdV ["thing"] (spRows K valued) := ok_valued FV T
  have GP : FnOk P w K mg base CX0 3 fP fdP ["thing"] (spRows K placed) := ok_placed FP T
  have bK : Binds K fdK ["e"] [] := FK.bindsN fun _ _ _ _ _ _ us hl => match us, hl with | [_], _ => rfl
  have bV : Binds K fdV ["thing"] [] := FV.bindsN fun _ _ _ _ _ _ us hl => match us, hl with | [_], _ => rfl
  have bP : Binds K fdP ["thing"] [] := FP.bindsN fun _ _ _ _ _ _ us hl => match us, hl with | [_], _ => rfl
  refine F.ok scRight (fun vs H Q E h => ?_) (fun cdv A outer s H vs Q E hr h => ?_)
  · obtain ⟨y, rfl, _⟩ := h
    rfl
  · obtain ⟨y, rfl, Y, q⟩ := h
    have hr1 : Room 1 _ := hr.mono (by decide)
    have hr2 : Room 2 _ := hr.mono (by decide)
    have G1 := T.at 23 (e := eNoSuch)
    have G2 := T.at 22 (e := eTooMany)
    refine ⟨_, PSs.nox (
      pss_cons (ps_for PassesOwn.never rfl (pi_list (pe_call GV hr rfl gV FV.kp bV .nil pass0 (pa_cons (pv 0) pa_nil))) (pg_tup rfl (pgs_cons (pg_name (i := 1) scRight.nd rfl (Or.inl rfl)) (pgs_cons (pg_name (i := 2) scRight.nd rfl (Or.inl rfl)) (pgs_cons (pg_name (i := 3) scRight.nd rfl (Or.inl rfl)) pgs_nil))))
        (pss_cons (ps_if (PW.pt (pw_or (pt_cmpR (op_neD hr.units) (pe_call GK hr1 rfl gK FK.kp bK .nil pass0 (pa_cons (pv 1) pa_nil)) (pe_lst (pa_cons (pv 3) (pa_cons pe_str (pa_cons pe_str pa_nil)))) (nomark _))
            (pw_or1 (pt_cmpR (op_neD hr.units) (pe_call GK hr1 rfl gK FK.kp bK .nil pass0 (pa_cons (pv 2) pa_nil)) (pe_lst (pa_cons (pv 3) (pa_cons pe_str (pa_cons pe_str pa_nil)))) (nomark _))))) (pss_one (ps_ret pe_bl)) pss_nil)
          (pss_one (ps_if (PW.pt (pw_or (pt_cmpR (op_neD hr.units) (pe_get (bmB := mVE) (newId := "ValueError.__new__") (pv 1)) (pv 0) (nomark _))
            (pw_or1 (pt_cmpR (op_neD hr.units) (pe_get (bmB := mVE) (newId := "ValueError.__new__") (pv 2)) (pv 0) (nomark _))))) (pss_one (ps_ret pe_bl)) pss_nil))))
      (pss_cons (ps_for PassesOwn.never rfl (pi_list (pe_call GP hr rfl gP FP.kp bP .nil pass0 (pa_cons (pv 0) pa_nil))) (pg_tup rfl (pgs_cons (pg_name (i := 1) scRight.nd rfl (Or.inl rfl)) (pgs_cons (pg_name (i := 2) scRight.nd rfl (Or.inl rfl)) (pgs_cons (pg_name (i := 3) scRight.nd rfl (Or.inl rfl)) pgs_nil))))
        (pss_cons (ps_if (PW.pt (pw_or (pt_cmpR (op_neD hr.units) (pe_call GK hr1 rfl gK FK.kp bK .nil pass0 (pa_cons (pv 1) pa_nil)) (pe_lst (pa_cons (pv 3) (pa_cons pe_str (pa_cons pe_str pa_nil)))) (nomark _))
            (pw_or1 (pt_cmpR (op_neD hr.units) (pe_call GK hr1 rfl gK FK.kp bK .nil pass0 (pa_cons (pv 2) pa_nil)) (pe_lst (pa_cons (pv 3) (pa_cons pe_str (pa_cons pe_str pa_nil)))) (nomark _))))) (pss_one (ps_ret pe_bl)) pss_nil)
          (pss_one (ps_if (PW.pt (pw_or (pt_cmpR (op_neD hr.units) (pe_get (bmB := mVE) (newId := "ValueError.__new__") (pv 1)) (pv 0) (nomark _))
            (pw_or1 (pt_cmpR (op_neD hr.units) (pe_get (bmB := mVE) (newId := "ValueError.__new__") (pv 2)) (pv 0) (nomark _))))) (pss_one (ps_ret pe_bl)) pss_nil))))
      (pss_cons (ps_for PassesOwn.never rfl (pi_tup (pe_tup (pa_cons (pe_mk (e := eNoSuch) G1 hr2 rfl (pv 0)) (pa_cons (pe_mkK (e := eNoSuch) G1 hr2 rfl (pv 0)) pa_nil)))) (pg_name (i := 1) scRight.nd rfl (Or.inl rfl))
        (pss_one (ps_if (PW.pt (pw_or (pt_cmpR (op_neD hr.units) (pe_call GK hr1 rfl gK FK.kp bK .nil pass0 (pa_cons (pv 1) pa_nil)) (pe_lst (pa_cons pe_str (pa_cons pe_str pa_nil))) (nomark _))
            (pw_or1 (pt_cmpR (op_neD hr.units) (pe_get (bmB := mLE) (newId := "LookupError.__new__") (pv 1)) (pv 0) (nomark _))))) (pss_one (ps_ret pe_bl)) pss_nil)))
      (pss_cons (ps_for PassesOwn.never rfl (pi_tup (pe_tup (pa_cons (pe_mk (e := eTooMany) G2 hr2 rfl (pv 0)) (pa_cons (pe_mkK (e := eTooMany) G2 hr2 rfl (pv 0)) pa_nil)))) (pg_name (i := 1) scRight.nd rfl (Or.inl rfl))
        (pss_one (ps_if (PW.pt (pw_or (pt_cmpR (op_neD hr.units) (pe_call GK hr1 rfl gK FK.kp bK .nil pass0 (pa_cons (pv 1) pa_nil)) (pe_lst (pa_cons pe_str (pa_cons pe_str pa_nil))) (nomark _))
            (pw_or1 (pt_cmpR (op_neD hr.units) (pe_get (bmB := mOE) (newId := "OverflowError.__new__") (pv 1)) (pv 0) (nomark _))))) (pss_one (ps_ret pe_bl)) pss_nil)))
      (pss_one (ps_ret pe_bl)))))), ?_⟩
    -- the rows of the first three
    refine ⟨_, rfl, y, rfl, fun l ws H1 s1 hl r1 => ⟨l, rfl, ⟨ws, SqL.of hl⟩, ?_⟩⟩
    refine for_list (K := K) (a := l) (xs := ws) (fun i σ H' => ∃ v1 v2 v3 : Option V, σ = [some y, v1, v2, v3] ∧ Same H1 H') ⟨none, none, none, rfl, Same.refl _⟩ (fun i σ H' _ h => by
      obtain ⟨_, _, _, _, s⟩ := h
      exact SqL.of (s _ _ hl)) ?_ ?_
    · rintro i x σ H' hi ⟨v1, v2, v3, rfl, s⟩
      obtain ⟨e, he, p, a1, a2, rfl, hp, A1, A2⟩ := (r1.same s).at hi
      refine ⟨p, _, rfl, SqT.of hp, rfl, _, _, rfl, _, _, rfl, _, _, rfl, rfl, ?_⟩
      have he' := List.mem_of_getElem? he
      exact turn_ok (D := _) T (List.mem_append_left _ he') (valued_are e he') A1 A2 (Y.same (s1.trans s)) fun H2 s2 => ⟨_, _, _, rfl, s.trans s2⟩
    rintro σ H2 ⟨v1, v2, v3, rfl, s2⟩
    have t2 := s1.trans s2
    -- the rows of the others
    refine ⟨_, rfl, y, rfl, fun l3 ws3 H3 s3 hl3 r3 => ⟨l3, rfl, ⟨ws3, SqL.of hl3⟩, ?_⟩⟩
    have t3 := t2.trans s3
    refine for_list (K := K) (a := l3) (xs := ws3) (fun i σ H' => ∃ v1 v2 v3 : Option V, σ = [some y, v1, v2, v3] ∧ Same H3 H') ⟨_, _, _, rfl, Same.refl _⟩ (fun i σ H' _ h => by
      obtain ⟨_, _, _, _, s⟩ := h
      exact SqL.of (s _ _ hl3)) ?_ ?_
    · rintro i x σ H' hi ⟨v1, v2, v3, rfl, s⟩
      obtain ⟨e, he, p, a1, a2, rfl, hp, A1, A2⟩ := (r3.same s).at hi
      refine ⟨p, _, rfl, SqT.of hp, rfl, _, _, rfl, _, _, rfl, _, _, rfl, rfl, ?_⟩
      have he' := List.mem_of_getElem? he
      exact turn_ok (D := _) T (List.mem_append_right _ he') (placed_are e he') A1 A2 (Y.same (t3.trans s)) fun H2 s2 => ⟨_, _, _, rfl, s.trans s2⟩
    rintro σ H4 ⟨w1, w2, w3, rfl, s4⟩
    have t4 := t3.trans s4
    -- NoSuch
    refine ⟨_, rfl, fun a1 H5 n1 s5 A1 => ⟨_, rfl, fun a2 H6 n2 s6 A2 => ⟨(by show 2 ≤ sizeLine; rw [sizeLine_eq]; decide), fun p np => ⟨p, rfl, ⟨_, SqT.of upd_same⟩, ?_⟩⟩⟩⟩
    have s7 : Same H6 (upd H6 p (.tup [.ref a1, .ref a2])) := same_new np
    have t7 := t4.trans (s5.trans (s6.trans s7))
    have B1 := (A1.same s6).same s7
    have B2 := A2.same s7
    refine for_tup (K := K) (a := p) (xs := [.ref a1, .ref a2]) (fun i σ H' => ∃ v1 : Option V, σ = [some y, v1, w2, w3] ∧ Same (upd H6 p (.tup [.ref a1, .ref a2])) H') ⟨_, rfl, Same.refl _⟩ (fun i σ H' _ h => by
      obtain ⟨_, _, s⟩ := h
      exact SqT.of (s _ _ upd_same)) ?_ ?_
    · rintro i x σ H' hi ⟨v1, rfl, s⟩
      have hx : ∃ a, x = .ref a ∧ EAt K (upd H6 p (.tup [.ref a1, .ref a2])) a eNoSuch y := by
        rcases i with _ | _ | i
        · cases hi
          exact ⟨a1, rfl, B1⟩
        · cases hi
          exact ⟨a2, rfl, B2⟩
        · simp at hi
      obtain ⟨a, rfl, B⟩ := hx
      refine kinds_ok (e := eNoSuch) (List.mem_of_getElem? (i := 23) rfl) (B.same s) rfl kinds_none data_none (by decide) (fun H' R r => r) fun H8 s8 => ?_
      refine iteF (field_ok G1.c G1.no rfl ((B.same s).same s8) (Y.same (t7.trans (s.trans s8))) rfl rfl (iteF ?_))
      exact ⟨_, rfl, s.trans s8⟩
    rintro σ H8 ⟨u1, rfl, s8⟩
    have t8 := t7.trans s8
    -- TooMany
    refine ⟨_, rfl, fun b1 H9 n3 s9 A3 => ⟨_, rfl, fun b2 H10 n4 s10 A4 => ⟨(by show 2 ≤ sizeLine; rw [sizeLine_eq]; decide), fun p2 np2 => ⟨p2, rfl, ⟨_, SqT.of upd_same⟩, ?_⟩⟩⟩⟩
    have s11 : Same H10 (upd H10 p2 (.tup [.ref b1, .ref b2])) := same_new np2
    have t11 := t8.trans (s9.trans (s10.trans s11))
    have B3 := (A3.same s10).same s11
    have B4 := A4.same s11
    refine for_tup (K := K) (a := p2) (xs := [.ref b1, .ref b2]) (fun i σ H' => ∃ v1 : Option V, σ = [some y, v1, w2, w3] ∧ Same (upd H10 p2 (.tup [.ref b1, .ref b2])) H') ⟨_, rfl, Same.refl _⟩ (fun i σ H' _ h => by
      obtain ⟨_, _, s⟩ := h
      exact SqT.of (s _ _ upd_same)) ?_ ?_
    · rintro i x σ H' hi ⟨v1, rfl, s⟩
      have hx : ∃ a, x = .ref a ∧ EAt K (upd H10 p2 (.tup [.ref b1, .ref b2])) a eTooMany y := by
        rcases i with _ | _ | i
        · cases hi
          exact ⟨b1, rfl, B3⟩
        · cases hi
          exact ⟨b2, rfl, B4⟩
        · simp at hi
      obtain ⟨a, rfl, B⟩ := hx
      refine kinds_ok (e := eTooMany) (List.mem_of_getElem? (i := 22) rfl) (B.same s) rfl kinds_many data_many (by decide) (fun H' R r => r) fun H12 s12 => ?_
      refine iteF (field_ok G2.c G2.no rfl ((B.same s).same s12) (Y.same (t11.trans (s.trans s12))) rfl rfl (iteF ?_))
      exact ⟨_, rfl, s.trans s12⟩
    rintro σ H12 ⟨u2, rfl, s12⟩
    exact q H12 (t11.trans s12)
end
end K99

set_option Elab.async false
set_option linter.all false
set_option maxRecDepth 100000
set_option maxHeartbeats 400000
/-! Rules and facts for the law itself. -/
namespace K99
open PySem PySem.Spec PyProof.Rows L2 XV
section
variable {X : Cx} {e : Expr} {te : TE} {pos : Pos}
/-- e.f, e an error of any of these classes -/
def tGetA (K : PySem.W.Frag) (f : Str) (te : TE) : TE := fun σ H Q => te σ H fun x H1 => ∃ (bm : List Value) (nid : String) (a C t dx : Addr) (fs : List (Str × V)) (v : V), x = .ref a ∧ XvC K bm nid C ∧ PySem.W.findIn K (.ref C) f = some none ∧ H1 a = some (xvo a C t (some dx)) ∧ H1 dx = some (xvd dx fs) ∧ fs.lookup f = some v ∧ Q v H1
theorem pe_getA {f : Str} (he : PE X e te) (hb : attributeBase e f X.env (eval e X.env) = eval e X.env := by rfl) : PE X (.Attribute e f pos) (tGetA X.K f te) := by
  refine ⟨fun pins s σ H Q I h => ?_⟩
  refine attr_of hb (thn (he.run pins s σ H _ I h) fun u s1 ⟨x, H1, I1, rx, bm, nid, a, C, t, dx, fs, v, ex, T, hno, ea, ed, l, q⟩ => ?_)
  subst ex
  obtain rfl : u = Value.ref a := rx
  have ha := xvo_at I1.hok ea
  obtain ⟨mA, hns, hr⟩ := xvd_at I1.hok ed
  obtain ⟨od, ho, hl⟩ := lookIn_ns hns
  obtain ⟨u, hu, ru⟩ := RelO.some_of (v := v) (o := mA f) (by rw [← l]; exact hr f)
  have J : PySem.W.InstAt s1.heap a { cls := .ref C, dict := some dx, data := .fields #[.ref t, .none, .none, .none, .bool false, .none] } C (some od) := ⟨ha, rfl, rfl, ho⟩
  exact HandSPX.exc_get I1.kIn J T.ga T.gg T.exC (PySem.W.findObj_own T.hdC hno rfl (by rw [hl, hu])) (handed_of ru) ⟨v, H1, I1.tok _, ru, q⟩
def rStrA (K : PySem.W.Frag) : List V → Hp → VK → Prop := fun xs H Q => ∃ (bm : List Value) (nid : String), rStrX K bm nid xs H Q
theorem call_strA (hu : X.A.units + 2 < cLine) : CallR X (.type "str") (rStrA X.K) := by
  intro pins s σ H xs us Q I r h
  obtain ⟨bm, nid, h⟩ := h
  exact call_strX (bmB := bm) (newId := nid) hu pins s σ H xs us Q I r h
/-- a text times an int -/
theorem op_mul_str : OpR X (binaryOp .Mult) (fun x y H Q => ∃ z n, x = .str z ∧ y = .int n ∧ MulOk z n ∧ Q (.str (Txt.mul z n)) H) := by
  intro pins s σ H x y v u Q I rx ry h
  obtain ⟨z, n, rfl, rfl, ok, q⟩ := h
  obtain ⟨t, rfl⟩ := rx
  obtain ⟨t', rfl⟩ := ry
  exact SB.mul ok fun t2 k => ⟨.str _, H, I.tok k, ⟨t2, rfl⟩, q⟩
/-- a power of a great int -/
theorem op_powW : OpR X (binaryOp .Pow) (rI (fun i j => 0 ≤ j ∧ (Builtin.Int.intBits i : Int) * j ≤ 2 ^ 27) fun i j => .int (i ^ j.toNat)) := opI fun _ _ _ _ _ _ _ hc q => pow_int hc.1 hc.2 q
end
theorem mul_ab : ∀ n : Fin 50, MulOk ("ab" : Str) (n.val : Int) ∧ SeqAt.shaped (.str (Txt.mul ("ab" : Str) (n.val : Int))) = true := by
  unfold MulOk
  decide +kernel
/-- all but dicts is as it was -/
def NoD (H H' : Hp) : Prop := ∀ b o, H b = some o → (∀ kvs, o ≠ .dK kvs) → H' b = some o
theorem NoD.refl (H : Hp) : NoD H H := fun _ _ h _ => h
theorem NoD.trans {H H1 H2 : Hp} (a : NoD H H1) (b : NoD H1 H2) : NoD H H2 := fun c o h n => b c o (a c o h n) n
theorem NoD.of {H H' : Hp} (s : Same H H') : NoD H H' := fun b o h _ => s b o h
theorem NoD.but {H H' : Hp} {d : Addr} {kvs : List (Key × V)} (h : H d = some (.dK kvs)) (s : But d H H') : NoD H H' := fun b o e n => s b o (fun z => by
  rw [z, h] at e
  exact n kvs (Option.some.inj e).symm) e
theorem NoD.seq {K : PySem.W.Frag} {H H' : Hp} {a : Addr} {xs : List V} (s : NoD H H') (h : SqL K H a xs) : SqL K H' a xs := by
  rcases h with (h | ⟨o, h⟩) | h
  · exact .inl (.inl (s _ _ h fun _ z => nomatch z))
  · exact .inl (.inr ⟨o, s _ _ h fun _ z => nomatch z⟩)
  · exact .inr h
theorem NoD.seqT {K : PySem.W.Frag} {H H' : Hp} {a : Addr} {xs : List V} (s : NoD H H') (h : SqT K H a xs) : SqT K H' a xs := by
  rcases h with (h | ⟨o, h⟩) | h
  · exact .inl (.inl (s _ _ h fun _ z => nomatch z))
  · exact .inl (.inr ⟨o, s _ _ h fun _ z => nomatch z⟩)
  · exact .inr h
mutual
theorem dp_nod {K : PySem.W.Frag} {H H' : Hp} (s : NoD H H') : ∀ {v : V} {d : PyData}, Dp K H v d → Dp K H' v d
  | _, _, .non => .non
  | _, _, .bl b => .bl b
  | _, _, .int i => .int i
  | _, _, .str x => .str x
  | _, _, .lst h r => .lst (s.seq h) (dpAll_nod s r)
  | _, _, .tup h r => .tup (s.seqT h) (dpAll_nod s r)
theorem dpAll_nod {K : PySem.W.Frag} {H H' : Hp} (s : NoD H H') : ∀ {vs : List V} {ds : List PyData}, DpAll K H vs ds → DpAll K H' vs ds
  | _, _, .nil => .nil
  | _, _, .cons r t => .cons (dp_nod s r) (dpAll_nod s t)
end
theorem Thing.nod {K : PySem.W.Frag} {H H' : Hp} {y : V} (h : Thing K H y) (s : NoD H H') : Thing K H' y := by
  obtain ⟨d, h1, h2⟩ := h.dp
  exact ⟨d, dp_nod s h1, h2⟩
theorem thing_int (K : PySem.W.Frag) (H : Hp) (i : Int) : Thing K H (.int i) := ⟨.int i, .int i, by simp [SeqAt.shaped, PyData.canLay0, PyData.depth], by simp [PyData.eqv]⟩
theorem thing_non (K : PySem.W.Frag) (H : Hp) : Thing K H .non := ⟨.none, .non, by simp [SeqAt.shaped, PyData.canLay0, PyData.depth], by simp [PyData.eqv]⟩
theorem thing_str {K : PySem.W.Frag} {H : Hp} {x : Str} (h : SeqAt.shaped (.str x) = true) : Thing K H (.str x) := ⟨.str x, .str x, h, by simp [PyData.eqv]⟩
theorem len_cut (xs : List V) (lo hi : Option Int) : (cutV xs lo hi).length ≤ xs.length := by
  unfold cutV
  simp only [List.length_take, List.length_drop]
  omega
theorem mem_cut {xs : List V} {lo hi : Option Int} {v : V} (h : v ∈ cutV xs lo hi) : v ∈ xs := by
  unfold cutV at h
  exact List.mem_of_mem_drop (List.mem_of_mem_take h)
end K99

set_option Elab.async false
set_option linter.all false
set_option maxRecDepth 100000
set_option maxHeartbeats 1000000
/-! Lists of errors: made, their fields, their messages. -/
namespace K99
open PySem PySem.Spec PyProof.Rows L2 XV
abbrev Errs (K : PySem.W.Frag) (y : V) (H : Hp) : List V → List EC → Prop := Paired (fun v e => ∃ a, v = .ref a ∧ EAt K H a e y)
theorem Errs.same {K : PySem.W.Frag} {y : V} {H H' : Hp} : ∀ {vs : List V} {es : List EC}, Errs K y H vs es → Same H H' → Errs K y H' vs es
  | _, _, .nil, _ => .nil
  | _, _, .cons ⟨a, e, r⟩ t, s => .cons ⟨a, e, r.same s⟩ (Errs.same t s)
theorem Errs.app {K : PySem.W.Frag} {y : V} {H : Hp} : ∀ {vs us : List V} {es fs : List EC}, Errs K y H vs es → Errs K y H us fs → Errs K y H (vs ++ us) (es ++ fs)
  | _, _, _, _, .nil, h => h
  | _, _, _, _, .cons r t, h => .cons r (Errs.app t h)
theorem Errs.at {K : PySem.W.Frag} {y : V} {H : Hp} : ∀ {vs : List V} {es : List EC} {i : Nat} {v : V}, Errs K y H vs es → vs[i]? = some v → ∃ e a, es[i]? = some e ∧ v = .ref a ∧ EAt K H a e y
  | _, _, _, _, .nil, h => by simp at h
  | _, _, 0, _, .cons ⟨a, e, r⟩ _, h => by
    cases h
    exact ⟨_, a, rfl, e, r⟩
  | _, _, i + 1, v, .cons _ t, h => Errs.at (i := i) (v := v) t (by simpa using h)
def tMks (K : PySem.W.Frag) : List EC → TA
  | [] => tNil
  | e :: es => tCons (tMk K e (tC .non)) (tMks K es)
theorem mks_ok {K : PySem.W.Frag} {σ : L2.St} : ∀ {es : List EC} {H : Hp} {R : List V → Hp → Prop}, (∀ vs H', Same H H' → Errs K .non H' vs es → R vs H') → tMks K es σ H R
  | [], H, R, h => h [] H (Same.refl _) .nil
  | e :: es, H, R, h => fun a H1 n s A => mks_ok (es := es) fun vs H2 s2 r => h (.ref a :: vs) H2 (s.trans s2) (.cons ⟨a, rfl, A.same s2⟩ r)
theorem mks_st {K : PySem.W.Frag} {σ : L2.St} {es : List EC} {i : Nat} {H : Hp} {rest : TS} {D : Ends} (hz : es.length ≤ 100) (h : ∀ l vs H', Same H H' → H' l = some (.lst vs) → Errs K .non H' vs es → rest D (σ.set i (some (.ref l))) H') :
    tSeq (tAsg (tLst (tMks K es)) (gName i)) rest D σ H := by
  refine mks_ok (R := fun xs H1 => xs.length ≤ sizeLine ∧ ∀ p, H1 p = none → rest D (σ.set i (some (.ref p))) (upd H1 p (.lst xs))) fun vs H1 s1 r1 => ?_
  have z : vs.length = es.length := Paired.length r1
  refine ⟨by rw [sizeLine_eq]; omega, fun p np => ?_⟩
  have s2 : Same H1 (upd H1 p (.lst vs)) := same_new np
  exact h p vs _ (s1.trans s2) upd_same (r1.same s2)
theorem mks_cat {K : PySem.W.Frag} {σ : L2.St} {es fs : List EC} {i : Nat} {H : Hp} {rest : TS} {D : Ends} {l : Addr} {us : List V} (hi : σ[i]? = some (some (.ref l))) (hl : H l = some (.lst us)) (hr : Errs K .non H us es) (hz : es.length ≤ 100) (hz2 : fs.length ≤ 100)
    (h : ∀ l vs H', Same H H' → H' l = some (.lst vs) → Errs K .non H' vs (es ++ fs) → rest D (σ.set i (some (.ref l))) H') :
    tSeq (tAsg (tOp rCat (tVar i) (tLst (tMks K fs))) (gName i)) rest D σ H := by
  refine ⟨_, hi, ?_⟩
  refine mks_ok (R := fun xs H1 => xs.length ≤ sizeLine ∧ ∀ p, H1 p = none → rCat (.ref l) (.ref p) (upd H1 p (.lst xs)) fun v H2 => rest D (σ.set i (some v)) H2) fun vs H1 s1 r1 => ?_
  have z : vs.length = fs.length := Paired.length r1
  have z1 : us.length = es.length := Paired.length hr
  refine ⟨by rw [sizeLine_eq]; omega, fun p np => ?_⟩
  have s2 : Same H1 (upd H1 p (.lst vs)) := same_new np
  refine ⟨l, p, us, vs, rfl, rfl, s2 _ _ (s1 _ _ hl), upd_same, (by rw [sizeLine_eq]; omega), fun q nq => ?_⟩
  have s3 : Same (upd H1 p (.lst vs)) (upd (upd H1 p (.lst vs)) q (.lst (us ++ vs))) := same_new nq
  exact h q _ _ (s1.trans (s2.trans s3)) upd_same ((hr.same (s1.trans (s2.trans s3))).app (r1.same (s2.trans s3)))
theorem take_snoc {α : Type} {l : List α} {i : Nat} {x : α} (h : l[i]? = some x) : l.take (i + 1) = l.take i ++ [x] := by
  rw [List.take_succ, h]
  rfl
section
variable {P : Program} {w : World} {K : PySem.W.Frag} {mg : Str → Option Value} {base : Heap} {x0 x1 x2 x3 x4 x5 x6 x7 x8 x9 : Option V}
/-- [e.f for e in xs], all made of nothing -/
theorem values_ok {f : Str} {j : Nat} {l : Addr} {vs : List V} {es : List EC} {H : Hp} {Q : VK} (T : Txt P w K mg base) (hm : ∀ e ∈ es, e ∈ errs ∧ e.field = f) (hr : Errs K .non H vs es) (hl : H l = some (.lst vs))
    (hj : ([x0, x1, x2, x3, x4, x5, x6, x7, x8, x9, none, none, none, none] : L2.St)[j]? = some (some (.ref l))) (hz : es.length ≤ 100) (h : ∀ D H', Same H H' → H' D = some (.lst (List.replicate es.length .non)) → Q (.ref D) H') :
    tLc (iList K (tVar j)) (gName 10) tYes (tGetA K f (tVar 10)) [10] [x0, x1, x2, x3, x4, x5, x6, x7, x8, x9, none, none, none, none] H Q := by
  refine ⟨_, hj, l, rfl, ⟨_, SqL.of hl⟩, fun D nD => ?_⟩
  have z : vs.length = es.length := Paired.length hr
  have sm : ∀ o, Same H (upd H D o) := fun o => same_new nD
  refine lc_list (K := K) (a := l) (xs := vs) (fun i H' => H' = upd H D (.lst (List.replicate i .non))) rfl (fun i H' _ e => by rw [e]; exact SqL.of (sm _ _ _ hl)) ?_ ?_
  · rintro i x H' hi rfl
    have hil : i < vs.length := (List.getElem?_eq_some_iff.mp hi).1
    obtain ⟨e, a, he, rfl, t, d, h1, h2, h3⟩ := hr.at hi
    obtain ⟨m1, m2⟩ := hm e (List.mem_of_getElem? he)
    have G := T.ec e m1
    have no := G.no
    rw [m2] at no
    refine ⟨rfl, ?_⟩
    show (if true = true then _ else True)
    rw [if_pos rfl]
    refine ⟨_, rfl, e.bm, e.newId, a, _, t, d, _, .non, rfl, G.c, no, sm _ _ _ h1, sm _ _ _ h2, (by rw [m2]; simp [List.lookup]), _, upd_same, ?_, ?_⟩
    · rw [List.length_replicate, sizeLine_eq]
      omega
    · rw [upd_upd, List.replicate_succ']
  · rintro H' rfl
    refine h D _ (sm _) ?_
    rw [upd_same, z]
/-- [str(e) for e in xs] -/
theorem strs_ok {j : Nat} {l : Addr} {y : V} {vs : List V} {es : List EC} {H : Hp} {Q : VK} (T : Txt P w K mg base) (hm : ∀ e ∈ es, e ∈ errs) (hr : Errs K y H vs es) (hl : H l = some (.lst vs))
    (hj : ([x0, x1, x2, x3, x4, x5, x6, x7, x8, x9, none, none, none, none] : L2.St)[j]? = some (some (.ref l))) (hz : es.length ≤ 100) (h : ∀ D H', H D = none → Same H H' → H' D = some (.lst (es.map fun e => V.str e.msg)) → Q (.ref D) H') :
    tLc (iList K (tVar j)) (gName 10) tYes (tCB (rStrA K) (tCons (tVar 10) tNil)) [10] [x0, x1, x2, x3, x4, x5, x6, x7, x8, x9, none, none, none, none] H Q := by
  refine ⟨_, hj, l, rfl, ⟨_, SqL.of hl⟩, fun D nD => ?_⟩
  have z : vs.length = es.length := Paired.length hr
  have sm : ∀ o, Same H (upd H D o) := fun o => same_new nD
  refine lc_list (K := K) (a := l) (xs := vs) (fun i H' => H' = upd H D (.lst ((es.take i).map fun e => V.str e.msg))) rfl (fun i H' _ e => by rw [e]; exact SqL.of (sm _ _ _ hl)) ?_ ?_
  · rintro i x H' hi rfl
    obtain ⟨e, a, he, rfl, t, d, h1, h2, h3⟩ := hr.at hi
    have G := T.ec e (hm e (List.mem_of_getElem? he))
    refine ⟨rfl, ?_⟩
    show (if true = true then _ else True)
    rw [if_pos rfl]
    refine ⟨_, rfl, e.bm, e.newId, a, _, t, some d, e.msg, rfl, G.c, sm _ _ _ h1, sm _ _ _ h3, _, upd_same, ?_, ?_⟩
    · rw [List.length_map, List.length_take, sizeLine_eq]
      omega
    · rw [upd_upd, take_snoc he, List.map_append]
      rfl
  · rintro H' rfl
    refine h D _ nD (sm _) ?_
    rw [upd_same, z, List.take_length]
end
/-- the first errors of rows -/
theorem firsts {K : PySem.W.Frag} {y : V} {H : Hp} : ∀ {ws : List V} {es : List EC}, ERows K y H ws es → ∃ us : List V, Errs K y H us es ∧ ∀ (i : Nat) (v : V), ws[i]? = some v → ∃ (p : Addr) (u u2 u3 : V), us[i]? = some u ∧ v = V.ref p ∧ H p = some (.tup [u, u2, u3])
  | _, _, .nil => ⟨[], .nil, fun i v h => by simp at h⟩
  | _, _, .cons ⟨p, a1, a2, e, h1, h2, h3⟩ t => by
    obtain ⟨us, r, k⟩ := firsts t
    refine ⟨.ref a1 :: us, .cons ⟨a1, rfl, h2⟩ r, fun i v h => ?_⟩
    cases i with
    | zero =>
      cases h
      exact ⟨p, _, _, _, rfl, e, h1⟩
    | succ i => exact k i v (by simpa using h)
end K99

set_option Elab.async false
set_option linter.all false
set_option maxRecDepth 100000
set_option maxHeartbeats 1000000
/-! The law. -/
namespace K99
open PySem PySem.Spec PyProof.Rows L2 XV
abbrev sLaw : Stmt := top 34
abbrev nLaw : List Str := ["script", "k", "cell", "state", "number", "some", "others", "rows", "thing", "made", "e", "one", "other", "name"]
theorem scLaw : FnScope nLaw ["script"] (defScope sLaw) := ⟨rfl, rfl, rfl, by decide +kernel, rfl, by decide +kernel, by decide +kernel⟩
theorem seq_if {c : TT} {t u rest : TS} {D : Ends} {σ : L2.St} {H : Hp} (h : c σ H fun b H1 => if b = true then t { D with nx := rest D } σ H1 else u { D with nx := rest D } σ H1) : tSeq (tIfS c t u) rest D σ H := h
theorem or_left {t u : TT} {σ : L2.St} {H : Hp} {Q : Bool → Hp → Prop} (h : t σ H fun c H1 => if c = true then Q true H1 else u σ H1 Q) : tOr t u σ H Q := h
theorem test_op {r : R2} {ta tb : TE} {σ : L2.St} {H : Hp} {Q : Bool → Hp → Prop} (h : ta σ H fun x H1 => tb σ H1 fun y H2 => r x y H2 fun z H' => ∃ k, z = .bl k ∧ Q k H') : tTest (tOp r ta tb) σ H Q := h
theorem seq_asg {te : TE} {i : Nat} {rest : TS} {D : Ends} {σ : L2.St} {H : Hp} (h : te σ H fun v H1 => rest D (σ.set i (some v)) H1) : tSeq (tAsg te (gName i)) rest D σ H := h
theorem op_two {r : R2} {ta tb : TE} {σ : L2.St} {H : Hp} {Q : VK} (h : ta σ H fun x H1 => tb σ H1 fun y H2 => r x y H2 Q) : tOp r ta tb σ H Q := h
def msgs : List V := (valued ++ placed ++ [eNoSuch, eTooMany]).map fun e => V.str e.msg
def msgD : PyData := .list ((valued ++ placed ++ [eNoSuch, eTooMany]).map fun e => PyData.str e.msg)
theorem msg_dp {K : PySem.W.Frag} {H : Hp} {r : Addr} (h : H r = some (.lst msgs)) : Dp K H (.ref r) msgD := by
  have e : msgs = ((valued ++ placed ++ [eNoSuch, eTooMany]).map fun e => e.msg).map V.str := by
    unfold msgs
    rw [List.map_map]
    rfl
  have e2 : msgD = .list (((valued ++ placed ++ [eNoSuch, eTooMany]).map fun e => e.msg).map PyData.str) := by
    unfold msgD
    rw [List.map_map]
    rfl
  rw [e2]
  rw [e] at h
  exact .lst (SqL.of h) (dp_strs K H _)
theorem dp_all {K : PySem.W.Frag} {H : Hp} {d : PyData} : ∀ {vs : List V}, (∀ v ∈ vs, Dp K H v d) → DpAll K H vs (List.replicate vs.length d)
  | [], _ => .nil
  | v :: vs, h => .cons (h v (List.mem_cons_self ..)) (dp_all fun u hu => h u (List.mem_cons_of_mem _ hu))
theorem five_data : SeqAt.shaped (.list (List.replicate 5 msgD)) = true ∧ PyData.eqv (.list (List.replicate 5 msgD)) (.list (List.replicate 5 msgD)) = true := by decide +kernel
theorem nones_data : ∀ n : Fin 20, SeqAt.shaped (.list (List.replicate n.val PyData.none)) = true ∧ PyData.eqv (.list (List.replicate n.val PyData.none)) (.list (List.replicate n.val PyData.none)) = true := by decide +kernel
theorem some_are : ∀ e ∈ [eBadFraction, eBadName, eBadNumber, eNoSuch], e.field = ("value" : Str) := by decide +kernel
theorem others_are : ∀ e ∈ placed, e.field = ("place" : Str) := fun e h => (placed_are e h).1
theorem some_in : ∀ e ∈ [eBadFraction, eBadName, eBadNumber, eNoSuch], e ∈ errs := fun e h => by
  rcases List.mem_cons.mp h with rfl | h
  · exact List.mem_of_getElem? (i := 0) rfl
  rcases List.mem_cons.mp h with rfl | h
  · exact List.mem_of_getElem? (i := 1) rfl
  rcases List.mem_cons.mp h with rfl | h
  · exact List.mem_of_getElem? (i := 2) rfl
  rw [List.mem_singleton.mp h]
  exact List.mem_of_getElem? (i := 23) rfl
theorem all_in : ∀ e ∈ valued ++ placed ++ [eNoSuch, eTooMany], e ∈ errs := fun e h => by
  rcases List.mem_append.mp h with h | h
  · exact List.mem_append_left _ h
  rcases List.mem_cons.mp h with rfl | h
  · exact List.mem_of_getElem? (i := 23) rfl
  rw [List.mem_singleton.mp h]
  exact List.mem_of_getElem? (i := 22) rfl
def spLaw (K : PySem.W.Frag) : Sp := fun vs H Q _ => ∃ (a : Addr) (ns : List Int), vs = [.ref a] ∧ SqL K H a (ns.map V.int) ∧ ns.length ≤ 63 ∧ ∀ H', Q (.bl true) H'
structure Blt (mg : Str → Option Value) : Prop where
  enumerate : mg "enumerate" = none
  sum : mg "sum" = none
  range : mg "range" = none
  str : mg "str" = none
theorem shaped_atom (r : Int) : SeqAt.shaped (.tuple [.str "atom", .tuple [.int 0, .int r]]) = true := by
  have h : PyData.canLay0 (.str "atom") = true := by decide +kernel
  have h2 : PyData.canLay0 (.tuple [.int 0, .int r]) = true := rfl
  have h3 : PyData.canLay0 (.tuple [.str "atom", .tuple [.int 0, .int r]]) = true := by
    show (PyData.canLay0 (.str "atom") && (PyData.canLay0 (.tuple [.int 0, .int r]) && true)) = true
    rw [h, h2]
    rfl
  show (PyData.canLay0 (.tuple [.str "atom", .tuple [.int 0, .int r]]) && decide _) = true
  rw [h3]
  rfl
theorem room_blk {k : Nat} {A : Around} (r : Room k A) : A.units + 2 < cLine := by
  have h := r.units
  omega
section
variable {P : Program} {w : World} {K : PySem.W.Frag} {mg : Str → Option Value} {base : Heap} {f fM fW fD fK fV fP fR : Addr} {fd fdM fdW fdD fdK fdV fdP fdR : FuncData}
theorem ok_law (F : FnG K "law" sLaw f fd) (FM : FnG K "_law_mixed" sMixed fM fdM) (FW : FnG K "_law_draw" sDraw fW fdW) (FD : FnG K "_law_digit" sDigit fD fdD) (FK : FnG K "_law_kinds" sKinds fK fdK) (FV : FnG K "_law_valued" sValued fV fdV) (FP : FnG K "_law_placed" sPlaced fP fdP) (FR : FnG K "_law_right" sRight fR fdR)
    (T : Txt P w K mg base) (B : Blt mg) (gM : mg "_law_mixed" = some (.ref fM)) (gW : mg "_law_draw" = some (.ref fW)) (gD : mg "_law_digit" = some (.ref fD)) (gK : mg "_law_kinds" = some (.ref fK)) (gV : mg "_law_valued" = some (.ref fV)) (gP : mg "_law_placed" = some (.ref fP)) (gR : mg "_law_right" = some (.ref fR)) :
    FnOk P w K mg base CX0 5 f fd ["script"] (spLaw K) := by
  have GW : FnOk P w K mg base CX0 1 fW fdW ["cell", "k"] spDraw := ok_draw FW
  have GD : FnOk P w K mg base CX0 2 fD fdD ["state", "below"] spDigit := ok_digit FD FM gM B.range
  have GV : FnOk P w K mg base CX0 3 fV fdV ["thing"] (spRows K valued) := ok_valued FV T
  have GP : FnOk P w K mg base CX0 3 fP fdP ["thing"] (spRows K placed) := ok_placed FP T
  have GR : FnOk P w K mg base CX0 4 fR fdR ["thing"] (spRight K) := ok_right FR FK FV FP T gK gV gP
  have bW : Binds K fdW ["cell", "k"] [] := FW.bindsN fun _ _ _ _ _ _ us hl => match us, hl with | [_, _], _ => rfl
  have bD : Binds K fdD ["state", "below"] [] := FD.bindsN fun _ _ _ _ _ _ us hl => match us, hl with | [_, _], _ => rfl
  have bV : Binds K fdV ["thing"] [] := FV.bindsN fun _ _ _ _ _ _ us hl => match us, hl with | [_], _ => rfl
  have bP : Binds K fdP ["thing"] [] := FP.bindsN fun _ _ _ _ _ _ us hl => match us, hl with | [_], _ => rfl
  have bR : Binds K fdR ["thing"] [] := FR.bindsN fun _ _ _ _ _ _ us hl => match us, hl with | [_], _ => rfl
  refine F.ok scLaw (fun vs H Q E h => ?_) (fun cdv A outer s H vs Q E hr h => ?_)
  · obtain ⟨a, ns, rfl, _⟩ := h
    rfl
  · obtain ⟨a, ns, rfl, hS, hlen, q⟩ := h
    have hr1 : Room 1 _ := hr.mono (by decide)
    have hr2 : Room 2 _ := hr.mono (by decide)
    have hr3 : Room 3 _ := hr.mono (by decide)
    have hu2 := hr.units
    refine ⟨_, PSs.nox (
      (pss_cons (ps_for PassesOwn.never rfl (pi_enum (by rfl) B.enumerate (pa_cons (pe_op op_cat (pe_slice sl_list (pv 0) po_none (po_some pe_int)) (pe_lst (pa_cons (pe_callB (cr_sum rfl) (by rfl) B.sum (by decide +kernel) (pa_cons (pv 0) pa_nil)) pa_nil))) pa_nil)) (pg_tup rfl (pgs_cons (pg_name (i := 1) scLaw.nd rfl (Or.inl rfl)) (pgs_cons (pg_name (i := 2) scLaw.nd rfl (Or.inl rfl)) pgs_nil))) (pss_cons (ps_set (i := 3) scLaw.nd rfl (.inl rfl) (pe_call GW hr1 rfl gW FW.kp bW .nil pass0 (pa_cons (pv 2) (pa_cons (pv 1) pa_nil))))
        (pss_cons (ps_set (i := 4) scLaw.nd rfl (.inl rfl) (pe_call GD hr2 rfl gD FD.kp bD .nil pass0 (pa_cons (pv 3) (pa_cons pe_int pa_nil))))
        (pss_cons (ps_set (i := 5) scLaw.nd rfl (.inl rfl) (pe_lst (pa_cons (pv 4) (pa_cons (pe_op op_sub pe_int (pv 4)) (pa_cons (pe_op op_mul_str pe_str (pe_op op_mod (pv 4) pe_int)) (pa_cons (pe_tup (pa_cons pe_str (pa_cons (pe_tup (pa_cons pe_int (pa_cons (pv 4) pa_nil))) pa_nil))) (pa_cons pe_non (pa_cons (pe_tup (pa_cons (pe_op op_pow pe_int pe_int) (pa_cons (pe_tup pa_nil) pa_nil))) (pa_cons (pe_op op_repT (pe_tup (pa_cons (pv 4) pa_nil)) pe_int) pa_nil)))))))))
        (pss_one (ps_if (PW.pt (pw_or (pt_not (pt_val (pe_call GR hr rfl gR FR.kp bR .nil pass0 (pa_cons (pe_ix ix_list (pv 5) (pe_call GD hr2 rfl gD FD.kp bD .nil pass0 (pa_cons (pv 3) (pa_cons pe_int pa_nil))) (fun _ _ => rfl)) pa_nil)))) (pw_or1 (pt_not (pt_val (pe_call GR hr rfl gR FR.kp bR .nil pass0 (pa_cons (pe_op op_powW (pe_op op_powW (pe_op op_powW pe_int pe_int) pe_int) pe_int) pa_nil))))))) (pss_one (ps_ret pe_bl)) pss_nil))))))
        (pss_cons (ps_set (i := 5) scLaw.nd rfl (.inl rfl) (pe_lst (pa_cons (pe_mk0 (e := eBadFraction) (T.at 0 (e := eBadFraction)) (by decide +kernel) hr2 rfl) (pa_cons (pe_mk0 (e := eBadName) (T.at 1 (e := eBadName)) (by decide +kernel) hr2 rfl) (pa_cons (pe_mk0 (e := eBadNumber) (T.at 2 (e := eBadNumber)) (by decide +kernel) hr2 rfl) (pa_cons (pe_mk0 (e := eNoSuch) (T.at 23 (e := eNoSuch)) (by decide +kernel) hr2 rfl) pa_nil))))))
        (pss_cons (ps_set (i := 6) scLaw.nd rfl (.inl rfl) (pe_lst (pa_cons (pe_mk0 (e := eBadPolynomial) (T.at 3 (e := eBadPolynomial)) (by decide +kernel) hr2 rfl) (pa_cons (pe_mk0 (e := eBadFormula) (T.at 4 (e := eBadFormula)) (by decide +kernel) hr2 rfl) (pa_cons (pe_mk0 (e := eBadTheory) (T.at 5 (e := eBadTheory)) (by decide +kernel) hr2 rfl) (pa_cons (pe_mk0 (e := eBadPoint) (T.at 6 (e := eBadPoint)) (by decide +kernel) hr2 rfl) (pa_cons (pe_mk0 (e := eBadTower) (T.at 7 (e := eBadTower)) (by decide +kernel) hr2 rfl) (pa_cons (pe_mk0 (e := eBadTable) (T.at 8 (e := eBadTable)) (by decide +kernel) hr2 rfl) (pa_cons (pe_mk0 (e := eBadStretches) (T.at 9 (e := eBadStretches)) (by decide +kernel) hr2 rfl) pa_nil)))))))))
        (pss_cons (ps_set (i := 6) scLaw.nd rfl (.inl rfl) (pe_op op_cat (pv 6) (pe_lst (pa_cons (pe_mk0 (e := eBadTest) (T.at 10 (e := eBadTest)) (by decide +kernel) hr2 rfl) (pa_cons (pe_mk0 (e := eBadAtoms) (T.at 11 (e := eBadAtoms)) (by decide +kernel) hr2 rfl) (pa_cons (pe_mk0 (e := eBadWitness) (T.at 12 (e := eBadWitness)) (by decide +kernel) hr2 rfl) (pa_cons (pe_mk0 (e := eBadPlan) (T.at 13 (e := eBadPlan)) (by decide +kernel) hr2 rfl) (pa_cons (pe_mk0 (e := eBadCase) (T.at 14 (e := eBadCase)) (by decide +kernel) hr2 rfl) (pa_cons (pe_mk0 (e := eBadRows) (T.at 15 (e := eBadRows)) (by decide +kernel) hr2 rfl) (pa_cons (pe_mk0 (e := eBadBytes) (T.at 16 (e := eBadBytes)) (by decide +kernel) hr2 rfl) (pa_cons (pe_mk0 (e := eBadTask) (T.at 17 (e := eBadTask)) (by decide +kernel) hr2 rfl) (pa_cons (pe_mk0 (e := eBadFigure) (T.at 18 (e := eBadFigure)) (by decide +kernel) hr2 rfl) (pa_cons (pe_mk0 (e := eBadText) (T.at 19 (e := eBadText)) (by decide +kernel) hr2 rfl) (pa_cons (pe_mk0 (e := eBadPaper) (T.at 20 (e := eBadPaper)) (by decide +kernel) hr2 rfl) (pa_cons (pe_mk0 (e := eBadDeed) (T.at 21 (e := eBadDeed)) (by decide +kernel) hr2 rfl) pa_nil)))))))))))))))
        (pss_cons (ps_if (PW.pt (pw_or (pt_cmpR (op_neD hr.units) (pe_lc (own := [("e", 10)]) (g := gName 10) (tt := tYes) (te := tGetA K "value" (tVar 10)) rfl scLaw.nd (pi_list (pv 5)) (blkOk_by (own := [("e", 10)]) (N := nLaw) (sc := defScope sLaw) (by decide +kernel)) (fun _ _ _ _ _ => (pg_name (i := 10) scLaw.nd rfl (Or.inl rfl))) (fun _ _ _ _ _ => pts_nil) (fun _ _ _ _ _ => (pe_getA (pv 10)))) (pe_op op_rep (pe_lst (pa_cons pe_non pa_nil)) pe_int) (nomark _)) (pw_or1 (pt_cmpR (op_neD hr.units) (pe_lc (own := [("e", 10)]) (g := gName 10) (tt := tYes) (te := tGetA K "place" (tVar 10)) rfl scLaw.nd (pi_list (pv 6)) (blkOk_by (own := [("e", 10)]) (N := nLaw) (sc := defScope sLaw) (by decide +kernel)) (fun _ _ _ _ _ => (pg_name (i := 10) scLaw.nd rfl (Or.inl rfl))) (fun _ _ _ _ _ => pts_nil) (fun _ _ _ _ _ => (pe_getA (pv 10)))) (pe_op op_rep (pe_lst (pa_cons pe_non pa_nil)) pe_int) (nomark _))))) (pss_one (ps_ret pe_bl)) pss_nil)
        (pss_cons (ps_set (i := 7) scLaw.nd rfl (.inl rfl) (pe_lst pa_nil))
        (pss_cons (ps_for PassesOwn.never rfl (pi_tup (pe_tup (pa_cons pe_str (pa_cons (pe_op op_pow pe_int pe_int) (pa_cons pe_int (pa_cons pe_str (pa_cons pe_str pa_nil))))))) (pg_name (i := 8) scLaw.nd rfl (Or.inl rfl)) (pss_cons (ps_set (i := 9) scLaw.nd rfl (.inl rfl) (pe_op op_cat (pe_lc (own := [("one", 11), ("other", 12), ("name", 13)]) (g := gTup K 3 (gCons (gName 11) (gCons (gName 12) (gCons (gName 13) gNil)))) (tt := tYes) (te := tVar 11) rfl scLaw.nd (pi_list (pe_op op_cat (pe_call GV hr3 rfl gV FV.kp bV .nil pass0 (pa_cons (pv 8) pa_nil)) (pe_call GP hr3 rfl gP FP.kp bP .nil pass0 (pa_cons (pv 8) pa_nil)))) (blkOk_by (own := [("one", 11), ("other", 12), ("name", 13)]) (N := nLaw) (sc := defScope sLaw) (by decide +kernel)) (fun _ _ _ _ _ => pg_tup rfl (pgs_cons (pg_name (i := 11) scLaw.nd rfl (Or.inl rfl)) (pgs_cons (pg_name (i := 12) scLaw.nd rfl (Or.inl rfl)) (pgs_cons (pg_name (i := 13) scLaw.nd rfl (Or.inl rfl)) pgs_nil)))) (fun _ _ _ _ _ => pts_nil) (fun _ _ _ _ _ => pv 11)) (pe_lst (pa_cons (pe_mk (e := eNoSuch) (T.at 23 (e := eNoSuch)) hr2 rfl (pv 8)) (pa_cons (pe_mk (e := eTooMany) (T.at 22 (e := eTooMany)) hr2 rfl (pv 8)) pa_nil)))))
        (pss_one (ps_expr (pe_bm PySem.F.plainAttrs_list PySem.F.slot_list_append PySem.F.type_list_append mt_append (pv 7) (pa_cons (pe_lc (own := [("e", 10)]) (g := gName 10) (tt := tYes) (te := tCB (rStrA K) (tCons (tVar 10) tNil)) rfl scLaw.nd (pi_list (pv 9)) (blkOk_by (own := [("e", 10)]) (N := nLaw) (sc := defScope sLaw) (by decide +kernel)) (fun _ _ _ _ _ => (pg_name (i := 10) scLaw.nd rfl (Or.inl rfl))) (fun _ _ _ _ _ => pts_nil) (fun _ _ _ _ _ => pe_callTy (call_strA (room_blk hr)) (by rfl) B.str (by decide +kernel) (pa_cons (pv 10) pa_nil))) pa_nil))))))
        (pss_one (ps_ret (pe_cmpR (op_eqD hr.units) (pv 7) (pe_op op_rep (pe_lst (pa_cons (pe_ix ix_list (pv 7) pe_int (fun _ _ => rfl)) pa_nil)) pe_int) (nomark _)))))))))))), ?_⟩
    -- enumerate(script[:4] + [sum(script)])
    refine ⟨.ref a, rfl, 4, rfl, a, ns.map V.int, rfl, hS, fun c nc => ?_⟩
    have s1 : Same H (upd H c (.lst (cutV (ns.map V.int) none (some 4)))) := same_new nc
    refine ⟨_, rfl, a, ns, rfl, s1.seq hS, (by show 1 ≤ sizeLine; rw [sizeLine_eq]; decide), fun l nl => ?_⟩
    have s2 : Same (upd H c (.lst (cutV (ns.map V.int) none (some 4)))) (upd (upd H c (.lst (cutV (ns.map V.int) none (some 4)))) l (.lst [.int ns.sum])) := same_new nl
    have lz : (cutV (ns.map V.int) none (some 4)).length ≤ 63 := Nat.le_trans (len_cut _ _ _) (by rw [List.length_map]; exact hlen)
    refine ⟨c, l, cutV (ns.map V.int) none (some 4), [.int ns.sum], rfl, rfl, s2 _ _ upd_same, upd_same, (by rw [sizeLine_eq]; show _ + 1 ≤ _; omega), fun p np => ?_⟩
    refine ⟨p, cutV (ns.map V.int) none (some 4) ++ [.int ns.sum], rfl, SqL.of upd_same, ?_⟩
    have allI : ∀ v ∈ cutV (ns.map V.int) none (some 4) ++ [V.int ns.sum], ∃ z, v = V.int z := fun v hv => by
      rcases List.mem_append.mp hv with h | h
      · obtain ⟨z, _, e⟩ := List.mem_map.mp (mem_cut h)
        exact ⟨z, e.symm⟩
      · exact ⟨ns.sum, List.mem_singleton.mp h⟩
    have il : (cutV (ns.map V.int) none (some 4) ++ [V.int ns.sum]).length ≤ 64 := by
      rw [List.length_append]
      show _ + 1 ≤ 64
      omega
    generalize cutV (ns.map V.int) none (some 4) ++ [V.int ns.sum] = items at allI il ⊢
    generalize upd (upd H c (.lst (cutV (ns.map V.int) none (some 4)))) l (.lst [.int ns.sum]) = Hb at np ⊢
    refine for_it (walk_enum (K := K) (a := p) (xs := items)) (fun i σ H' => ∃ v1 v2 v3 v4 v5 : Option V, σ = [some (.ref a), v1, v2, v3, v4, v5, none, none, none, none, none, none, none, none] ∧ NoD (upd Hb p (.lst items)) H')
      ⟨none, none, none, none, none, rfl, NoD.refl _⟩ (fun i σ H' _ h => by
        obtain ⟨_, _, _, _, _, _, n⟩ := h
        exact n.seq (SqL.of upd_same)) ?_ ?_
    · rintro i x σ H0 H' hi ⟨v1, v2, v3, v4, v5, rfl, n0⟩ ⟨T', x1, x2, rfl, nT, rfl, e1, e2⟩
      cases e1
      obtain ⟨z, rfl⟩ := allI x2 (List.mem_of_getElem? e2)
      have n1 : NoD H0 (upd H0 T' (.tup [.int (i : Nat), .int z])) := NoD.of (same_new nT)
      refine ⟨T', _, rfl, SqT.of upd_same, rfl, _, _, rfl, _, _, rfl, rfl, ?_⟩
      refine ⟨_, rfl, _, rfl, z, (i : Nat), rfl, by omega, by omega, fun d L H2 L0 sm2 nd hd => ?_⟩
      refine ⟨_, rfl, d, L, z, 1000 * (i : Nat), 100000, rfl, hd, L0, by omega, by omega, by decide, by decide, fun r L' t' H3 r0 r1 l0 u0 u1 kb3 hd3 => ?_⟩
      have n3 := (n0.trans n1).trans ((NoD.of sm2).trans (NoD.but hd kb3))
      have m50 : r % 50 = ((⟨(r % 50).toNat, by omega⟩ : Fin 50).val : Int) := by
        show r % 50 = ((r % 50).toNat : Int)
        omega
      have ab := mul_ab ⟨(r % 50).toNat, by omega⟩
      rw [← m50] at ab
      refine ⟨_, rfl, _, rfl, _, _, rfl, rfl, _, rfl, _, _, rfl, rfl, (by show (0 : Int) < 50; decide), _, _, rfl, rfl, ab.1, _, rfl, (by show 2 ≤ sizeLine; rw [sizeLine_eq]; decide), fun p1 q1 => ⟨(by show 2 ≤ sizeLine; rw [sizeLine_eq]; decide), fun p2 q2 => ?_⟩⟩
      refine ⟨_, _, rfl, rfl, ⟨by decide, by decide, by decide⟩, (by show 0 ≤ sizeLine; exact Nat.zero_le _), fun p3 q3 => ⟨(by show 2 ≤ sizeLine; rw [sizeLine_eq]; decide), fun p4 q4 => ⟨_, rfl, (by show 1 ≤ sizeLine; rw [sizeLine_eq]; decide), fun p5 q5 => ?_⟩⟩⟩
      refine ⟨p5, 9, [.int r], rfl, rfl, SqT.of upd_same, (fun z => nomatch z), by decide, by decide, (by show 1 ≤ 1000; decide), fun p6 q6 => ⟨(by show 7 ≤ sizeLine; rw [sizeLine_eq]; decide), fun l7 q7 => ?_⟩⟩
      obtain ⟨K1, e1⟩ : ∃ G, G = upd H3 p1 (.tup [.int 0, .int r]) := ⟨_, rfl⟩
      obtain ⟨K2, e2⟩ : ∃ G, G = upd K1 p2 (.tup [.str "atom", .ref p1]) := ⟨_, rfl⟩
      obtain ⟨K3, e3⟩ : ∃ G, G = upd K2 p3 (.tup []) := ⟨_, rfl⟩
      obtain ⟨K4, e4⟩ : ∃ G, G = upd K3 p4 (.tup [.int (10 ^ (30 : Int).toNat), .ref p3]) := ⟨_, rfl⟩
      obtain ⟨K5, e5⟩ : ∃ G, G = upd K4 p5 (.tup [.int r]) := ⟨_, rfl⟩
      obtain ⟨K6, e6⟩ : ∃ G, G = upd K5 p6 (.tup (List.replicate (9 : Int).toNat [V.int r]).flatten) := ⟨_, rfl⟩
      rw [← e1] at q2
      rw [← e1, ← e2] at q3
      rw [← e1, ← e2, ← e3] at q4
      rw [← e1, ← e2, ← e3, ← e4] at q5
      rw [← e1, ← e2, ← e3, ← e4, ← e5] at q6
      rw [← e1, ← e2, ← e3, ← e4, ← e5, ← e6] at q7 ⊢
      have a1 : Same H3 K1 := e1 ▸ same_new q1
      have a2 : Same K1 K2 := e2 ▸ same_new q2
      have a3 : Same K2 K3 := e3 ▸ same_new q3
      have a4 : Same K3 K4 := e4 ▸ same_new q4
      have a5 : Same K4 K5 := e5 ▸ same_new q5
      have a6 : Same K5 K6 := e6 ▸ same_new q6
      have b1 : K1 p1 = some (.tup [.int 0, .int r]) := e1 ▸ upd_same
      have b2 : K2 p2 = some (.tup [.str "atom", .ref p1]) := e2 ▸ upd_same
      have b3 : K3 p3 = some (.tup []) := e3 ▸ upd_same
      have b4 : K4 p4 = some (.tup [.int (10 ^ (30 : Int).toNat), .ref p3]) := e4 ▸ upd_same
      have b6 : K6 p6 = some (.tup (List.replicate (9 : Int).toNat [V.int r]).flatten) := e6 ▸ upd_same
      have c16 : Same K1 K6 := a2.trans (a3.trans (a4.trans (a5.trans a6)))
      have c36 : Same K3 K6 := a4.trans (a5.trans a6)
      have c06 : Same H3 K6 := a1.trans c16
      generalize hI : ([V.int r, .int (0 - r), .str (Txt.mul "ab" (r % 50)), .ref p2, .non, .ref p4, .ref p6] : List V) = seven at q7 ⊢
      have a7 : Same K6 (upd K6 l7 (.lst seven)) := same_new q7
      have d2 : Thing K K6 (.ref p2) := ⟨.tuple [.str "atom", .tuple [.int 0, .int r]], .tup (SqT.of ((a3.trans c36) _ _ b2)) (.cons (.str _) (.cons (.tup (SqT.of (c16 _ _ b1)) (.cons (.int _) (.cons (.int _) .nil))) .nil)), shaped_atom r, by simp [PyData.eqv, PyData.eqvAll]⟩
      have d4 : Thing K K6 (.ref p4) := ⟨.tuple [.int (10 ^ (30 : Int).toNat), .tuple []], .tup (SqT.of ((a5.trans a6) _ _ b4)) (.cons (.int _) (.cons (.tup (SqT.of (c36 _ _ b3)) .nil) .nil)), by rfl, by simp [PyData.eqv, PyData.eqvAll]⟩
      have d6 : Thing K K6 (.ref p6) := ⟨.tuple [.int r, .int r, .int r, .int r, .int r, .int r, .int r, .int r, .int r], .tup (SqT.of b6) (.cons (.int _) (.cons (.int _) (.cons (.int _) (.cons (.int _) (.cons (.int _) (.cons (.int _) (.cons (.int _) (.cons (.int _) (.cons (.int _) .nil))))))))), by rfl, by simp [PyData.eqv, PyData.eqvAll]⟩
      have d7 : ∀ j : Int, 0 ≤ j → j < 7 → ∃ v, atI seven j = some v ∧ Thing K K6 v := fun j j0 j1 => by
        have hj : j = 0 ∨ j = 1 ∨ j = 2 ∨ j = 3 ∨ j = 4 ∨ j = 5 ∨ j = 6 := by omega
        subst hI
        rcases hj with e | e | e | e | e | e | e <;> subst e
        · exact ⟨_, rfl, thing_int K K6 _⟩
        · exact ⟨_, rfl, thing_int K K6 _⟩
        · exact ⟨_, rfl, thing_str ab.2⟩
        · exact ⟨_, rfl, d2⟩
        · exact ⟨_, rfl, thing_non K K6⟩
        · exact ⟨_, rfl, d4⟩
        · exact ⟨_, rfl, d6⟩
      refine ⟨_, rfl, _, rfl, d, L', z, t', 7, rfl, a7 _ _ (c06 _ _ hd3), l0, u0, by omega, by decide, by decide, fun r2 L2 t2 H7 g0 g1 _ _ _ kb7 hd7 => ?_⟩
      have n7 : NoD (upd K6 l7 (.lst seven)) H7 := NoD.but (a7 _ _ (c06 _ _ hd3)) kb7
      obtain ⟨v, hv, Tv⟩ := d7 r2 g0 g1
      refine ⟨l7, seven, r2, v, rfl, rfl, SqL.of (n7 _ _ upd_same fun _ z => nomatch z), hv, ?_⟩
      refine ⟨v, rfl, (Tv.same a7).nod n7, fun H8 s8 => ⟨_, rfl, iteF ?_⟩⟩
      refine ⟨_, _, rfl, rfl, ⟨by decide, by decide +kernel⟩, _, _, rfl, rfl, ⟨by decide, by decide +kernel⟩, _, _, rfl, rfl, ⟨by decide, by decide +kernel⟩, _, rfl, thing_int K H8 _, fun H9 s9 => ⟨_, rfl, iteF ?_⟩⟩
      exact ⟨_, _, _, _, _, rfl, n3.trans ((NoD.of (c06.trans a7)).trans (n7.trans (NoD.of (s8.trans s9))))⟩
    rintro σ J0 ⟨v1, v2, v3, v4, v5, rfl, n0⟩
    -- some, others
    refine mks_st (es := [eBadFraction, eBadName, eBadNumber, eNoSuch]) (by decide) fun l5 w5 J1 s1 hl5 r5 => ?_
    refine mks_st (es := [eBadPolynomial, eBadFormula, eBadTheory, eBadPoint, eBadTower, eBadTable, eBadStretches]) (by decide) fun l6 w6 J2 s2 hl6 r6 => ?_
    refine mks_cat (es := [eBadPolynomial, eBadFormula, eBadTheory, eBadPoint, eBadTower, eBadTable, eBadStretches]) (fs := [eBadTest, eBadAtoms, eBadWitness, eBadPlan, eBadCase, eBadRows, eBadBytes, eBadTask, eBadFigure, eBadText, eBadPaper, eBadDeed]) rfl hl6 r6 (by decide) (by decide) fun l8 w8 J3 s3 hl8 r8 => ?_
    have r8' : Errs K .non J3 w8 placed := r8
    have hl5' := s3 _ _ (s2 _ _ hl5)
    have r5' := (r5.same s2).same s3
    -- their fields
    show tSeq _ _ _ [some (V.ref a), v1, v2, v3, v4, some (V.ref l5), some (V.ref l8), none, none, none, none, none, none, none] J3
    refine seq_if (or_left (test_op ?_))
    refine values_ok (j := 5) (f := "value") T (fun e he => ⟨some_in e he, some_are e he⟩) r5' hl5' rfl (by decide) fun D1 J4 s4 hD1 => ?_
    refine ⟨(by show 1 ≤ sizeLine; rw [sizeLine_eq]; decide), fun p1 q1 => ⟨p1, 4, [.non], rfl, rfl, upd_same, by decide, by decide, (by rw [sizeLine_eq]; decide), fun p2 q2 => ?_⟩⟩
    have s5 : Same J4 (upd J4 p1 (.lst [.non])) := same_new q1
    have s6 : Same (upd J4 p1 (.lst [.non])) (upd (upd J4 p1 (.lst [.non])) p2 (.lst (List.replicate (4 : Int).toNat [V.non]).flatten)) := same_new q2
    have nn : ∀ {H : Hp} {a : Addr} {n : Nat}, H a = some (.lst (List.replicate n V.non)) → Dp K H (.ref a) (.list (List.replicate n PyData.none)) := fun {H a n} h => by
      have z := dp_all (K := K) (H := H) (d := .none) (vs := List.replicate n V.non) fun v hv => by
        rw [(List.mem_replicate.mp hv).2]
        exact .non
      rw [List.length_replicate] at z
      exact .lst (SqL.of h) z
    refine ne_ok (nn (n := 4) (s6 _ _ (s5 _ _ hD1))) (nn (n := 4) upd_same) (nones_data 4).1 (nones_data 4).2 ?_
    refine iteF ?_
    have t6 := s4.trans (s5.trans s6)
    refine test_op ?_
    refine values_ok (j := 6) (f := "place") T (fun e he => ⟨List.mem_append_left _ (List.mem_append_right _ he), others_are e he⟩) (r8'.same t6) (t6 _ _ hl8) rfl (by decide) fun D2 J5 s7 hD2 => ?_
    refine ⟨(by show 1 ≤ sizeLine; rw [sizeLine_eq]; decide), fun p3 q3 => ⟨p3, 19, [.non], rfl, rfl, upd_same, by decide, by decide, (by rw [sizeLine_eq]; decide), fun p4 q4 => ?_⟩⟩
    have s8 : Same J5 (upd J5 p3 (.lst [.non])) := same_new q3
    have s9 : Same (upd J5 p3 (.lst [.non])) (upd (upd J5 p3 (.lst [.non])) p4 (.lst (List.replicate (19 : Int).toNat [V.non]).flatten)) := same_new q4
    refine ne_ok (nn (n := 19) (s9 _ _ (s8 _ _ hD2))) (nn (n := 19) upd_same) (nones_data 19).1 (nones_data 19).2 ?_
    -- rows = []
    refine iteF ?_
    refine ⟨Nat.zero_le _, fun R nR => ?_⟩
    generalize upd (upd J5 p3 (.lst [.non])) p4 (.lst (List.replicate (19 : Int).toNat [V.non]).flatten) = J6 at nR ⊢
    show tSeq _ _ _ [some (V.ref a), v1, v2, v3, v4, some (V.ref l5), some (V.ref l8), some (V.ref R), none, none, none, none, none, none] (upd J6 R (.lst []))
    -- for thing in (..)
    refine ⟨_, _, rfl, rfl, ⟨by decide, by decide, by decide⟩, (by show 5 ≤ sizeLine; rw [sizeLine_eq]; decide), fun tp nt => ⟨tp, rfl, ⟨_, SqT.of upd_same⟩, ?_⟩⟩
    have nRt : tp ≠ R := fun z => by
      rw [z, upd_same] at nt
      cases nt
    generalize hT : ([V.str "zqzq", .int (10 ^ (30 : Int).toNat), .int 70707, .str "", .str "deed"] : List V) = things
    have hz : things.length = 5 := by
      rw [← hT]
      rfl
    refine for_tup (K := K) (a := tp) (xs := things) (fun i σ H' => ∃ (v8 v9 : Option V) (vs : List V), σ = [some (V.ref a), v1, v2, v3, v4, some (V.ref l5), some (V.ref l8), some (V.ref R), v8, v9, none, none, none, none] ∧ H' R = some (.lst vs) ∧ vs.length = i ∧
        H' tp = some (.tup things) ∧ ∀ v ∈ vs, ∃ r, v = .ref r ∧ r ≠ R ∧ H' r = some (.lst msgs))
      ⟨none, none, [], rfl, by rw [upd_ne nRt.symm, upd_same], rfl, by rw [upd_same], fun v hv => nomatch hv⟩ (fun i σ H' _ h => by
        obtain ⟨_, _, _, _, _, _, h, _⟩ := h
        exact SqT.of h) ?_ ?_
    · rintro i y σ H1 hi ⟨v8, v9, vs, rfl, hR, hl, ht, hv⟩
      show tSeq _ _ _ [some (V.ref a), v1, v2, v3, v4, some (V.ref l5), some (V.ref l8), some (V.ref R), some y, v9, none, none, none, none] H1
      refine seq_asg (op_two ?_)
      -- [one for one, other, name in _law_valued(thing) + _law_placed(thing)]
      refine ⟨_, rfl, y, rfl, fun m1 u1 H2 s2 hm1 k1 => ⟨_, rfl, y, rfl, fun m2 u2 H3 s3 hm2 k2 => ?_⟩⟩
      have z1 : u1.length = 3 := Paired.length k1
      have z2 : u2.length = 19 := Paired.length k2
      refine ⟨m1, m2, u1, u2, rfl, rfl, s3 _ _ hm1, hm2, (by rw [z1, z2, sizeLine_eq]; decide), fun m3 n3 => ⟨m3, rfl, ⟨_, SqL.of upd_same⟩, fun D nD => ?_⟩⟩
      have s4 : Same H3 (upd H3 m3 (.lst (u1 ++ u2))) := same_new n3
      have k3 := ((k1.same s3).same s4).app (k2.same s4)
      obtain ⟨fs, kf, at3⟩ := firsts k3
      have zf : fs.length = 22 := Paired.length kf
      have z3 : (u1 ++ u2).length = 22 := by rw [List.length_append, z1, z2]
      have sD : ∀ o, Same (upd H3 m3 (.lst (u1 ++ u2))) (upd (upd H3 m3 (.lst (u1 ++ u2))) D o) := fun o => same_new nD
      have t4 := s2.trans (s3.trans s4)
      have hm3 : (upd H3 m3 (.lst (u1 ++ u2))) m3 = some (.lst (u1 ++ u2)) := upd_same
      generalize upd H3 m3 (.lst (u1 ++ u2)) = H4 at nD s4 k3 kf at3 sD t4 hm3 ⊢
      refine lc_list (K := K) (a := m3) (xs := u1 ++ u2) (fun i H' => H' = upd H4 D (.lst (fs.take i))) rfl (fun i H' _ e => by rw [e]; exact SqL.of (sD _ _ _ hm3)) ?_ ?_
      · rintro i x H' hi rfl
        obtain ⟨p, w1, w2, w3, hu, rfl, hp⟩ := at3 i x hi
        refine ⟨p, _, rfl, SqT.of (sD _ _ _ hp), rfl, _, _, rfl, _, _, rfl, _, _, rfl, rfl, rfl, ?_⟩
        show (if true = true then _ else True)
        rw [if_pos rfl]
        refine ⟨_, rfl, _, upd_same, ?_, ?_⟩
        · rw [List.length_take, sizeLine_eq]
          omega
        · rw [upd_upd, take_snoc hu]
      rintro H5 rfl
      rw [z3, ← zf, List.take_length]
      have kf5 := kf.same (sD (.lst fs))
      have t5 := t4.trans (sD (.lst fs))
      have hD5 : (upd H4 D (.lst fs)) D = some (.lst fs) := upd_same
      generalize upd H4 D (.lst fs) = H5 at kf5 t5 hD5 ⊢
      -- + [NoSuch(thing), TooMany(thing)]
      refine ⟨_, rfl, fun c1 H6 nc1 s6 A1 => ⟨_, rfl, fun c2 H7 nc2 s7 A2 => ⟨(by show 2 ≤ sizeLine; rw [sizeLine_eq]; decide), fun l2 nl2 => ?_⟩⟩⟩
      have s8 : Same H7 (upd H7 l2 (.lst [.ref c1, .ref c2])) := same_new nl2
      refine ⟨D, l2, fs, [.ref c1, .ref c2], rfl, rfl, s8 _ _ (s7 _ _ (s6 _ _ hD5)), upd_same, (by rw [zf, sizeLine_eq]; show 22 + 2 ≤ 16777216; decide), fun mm nmm => ?_⟩
      have s9 : Same (upd H7 l2 (.lst [.ref c1, .ref c2])) (upd (upd H7 l2 (.lst [.ref c1, .ref c2])) mm (.lst (fs ++ [.ref c1, .ref c2]))) := same_new nmm
      have t89 := s8.trans s9
      have t9 := t5.trans (s6.trans (s7.trans t89))
      have km : Errs K y (upd (upd H7 l2 (.lst [.ref c1, .ref c2])) mm (.lst (fs ++ [.ref c1, .ref c2]))) (fs ++ [.ref c1, .ref c2]) (valued ++ placed ++ [eNoSuch, eTooMany]) :=
        (kf5.same (s6.trans (s7.trans t89))).app (.cons ⟨c1, rfl, A1.same (s7.trans t89)⟩ (.cons ⟨c2, rfl, A2.same t89⟩ .nil))
      have hmm : (upd (upd H7 l2 (.lst [.ref c1, .ref c2])) mm (.lst (fs ++ [.ref c1, .ref c2]))) mm = some (.lst (fs ++ [.ref c1, .ref c2])) := upd_same
      generalize upd (upd H7 l2 (.lst [.ref c1, .ref c2])) mm (.lst (fs ++ [.ref c1, .ref c2])) = H9 at t9 km hmm ⊢
      -- rows.append([str(e) for e in made])
      refine ⟨_, rfl, .inl ⟨rfl, _, SqL.of (t9 _ _ hR)⟩, ?_⟩
      refine strs_ok (j := 9) T all_in km hmm rfl (by decide) fun D2 H10 nD2 s10 hD2 => ?_
      have hR10 := s10 _ _ (t9 _ _ hR)
      have t10 := t9.trans s10
      refine ⟨R, vs, _, rfl, rfl, hR10, (by rw [sizeLine_eq, hl]; have := (List.getElem?_eq_some_iff.mp hi).1; omega), ?_⟩
      have DR : D2 ≠ R := fun z => by
        rw [z, t9 _ _ hR] at nD2
        cases nD2
      refine ⟨_, _, vs ++ [.ref D2], rfl, upd_same, (by rw [List.length_append, hl]; rfl), (by rw [upd_ne nRt]; exact t10 _ _ ht), fun v hv' => ?_⟩
      rcases List.mem_append.mp hv' with h | h
      · obtain ⟨r, e1, e2, e3⟩ := hv v h
        exact ⟨r, e1, e2, by rw [upd_ne e2]; exact t10 _ _ e3⟩
      · exact ⟨D2, List.mem_singleton.mp h, DR, by rw [upd_ne DR]; exact hD2⟩
    · rintro σ H1 ⟨v8, v9, vs, rfl, hR, hl, ht, hv⟩
      have h5 : vs.length = 5 := hl.trans hz
      obtain ⟨u, us, rfl⟩ : ∃ u us, vs = u :: us := by
        cases vs with
        | nil => cases h5
        | cons u us => exact ⟨u, us, rfl⟩
      obtain ⟨r, rfl, rR, hr'⟩ := hv u (List.mem_cons_self ..)
      refine ⟨_, rfl, _, rfl, R, .ref r :: us, 0, .ref r, rfl, rfl, SqL.of hR, atI_nat (j := 0) rfl, (by show 1 ≤ sizeLine; rw [sizeLine_eq]; decide), fun p5 q5 => ⟨p5, 5, [.ref r], rfl, rfl, upd_same, by decide, by decide, (by rw [sizeLine_eq]; show 1 * 5 ≤ 16777216; decide), fun p6 q6 => ?_⟩⟩
      have s1 : Same H1 (upd H1 p5 (.lst [.ref r])) := same_new q5
      have s2 : Same (upd H1 p5 (.lst [.ref r])) (upd (upd H1 p5 (.lst [.ref r])) p6 (.lst (List.replicate (5 : Int).toNat [V.ref r]).flatten)) := same_new q6
      have d1 := dp_all (K := K) (H := upd (upd H1 p5 (.lst [.ref r])) p6 (.lst (List.replicate (5 : Int).toNat [V.ref r]).flatten)) (d := msgD) (vs := V.ref r :: us) fun v h => by
        obtain ⟨r', rfl, _, h'⟩ := hv v h
        exact msg_dp (s2 _ _ (s1 _ _ h'))
      rw [h5] at d1
      have d2 := dp_all (K := K) (H := upd (upd H1 p5 (.lst [.ref r])) p6 (.lst (List.replicate (5 : Int).toNat [V.ref r]).flatten)) (d := msgD) (vs := [V.ref r, .ref r, .ref r, .ref r, .ref r]) fun v h => by
        have e : v = .ref r := by simpa using h
        rw [e]
        exact msg_dp (s2 _ _ (s1 _ _ hr'))
      refine ⟨.list (List.replicate 5 msgD), .list (List.replicate 5 msgD), .lst (SqL.of (s2 _ _ (s1 _ _ hR))) d1, .lst (SqL.of upd_same) d2, five_data.1, five_data.1, ?_⟩
      rw [five_data.2]
      exact q _
end
end K99

set_option Elab.async false
set_option linter.all false
set_option maxRecDepth 100000
set_option maxHeartbeats 1000000
/-! What the top has left, as facts. -/
namespace K99
open PySem PySem.Spec PyProof.Rows L2 XV He
/-! a Hook: facts, defs and one Bool more, over what the names reach and the interpreter's statics -/
def asM (g : Addr → Option Obj) (n : Nat) : List Addr := asD g n ++ [cStatics]
abbrev AlM : Type := AlD × Bool
def obsM (n : Nat) (fa : List Fa) (fn : List DefD) (ex : PySem.W.Frag → Bool) (g : Addr → Option Obj) : AlM := (obsD fa fn (frG g (asM g n)), ex (frG g (asM g n)))
def valM (fn : List DefD) : AlM := (valD fn, true)
structure SaysM (fa : List Fa) (fn : List DefD) (ex : PySem.W.Frag → Bool) (K : PySem.W.Frag) : Prop where
  d : SaysD fa fn K
  more : ex K = true
def hookM (n : Nat) (fa : List Fa) (fn : List DefD) (ex : PySem.W.Frag → Bool) : PySem.W.Hook where
  α := AlM
  obs := fun s => obsM n fa fn ex s.heap.get?
  val := fun _ => valM fn
  says := fun _ h => ∃ K : PySem.W.Frag, K.In h ∧ SaysM fa fn ex K
  of := fun _ _ e => ⟨_, frG_in, congrArg (fun z : AlM => z.1) e, congrArg (fun z : AlM => z.2) e⟩
  keeps := fun _ _ _ ⟨K, hK, c⟩ k => ⟨K, PySem.W.Frag.In.keeps hK k, c⟩
theorem obsM_eq {n : Nat} {fa : List Fa} {fn : List DefD} {ex : PySem.W.Frag → Bool} {g : Addr → Option Obj} {s : Shared} (h : ∀ a, g a = s.heap.get? a) : obsM n fa fn ex g = (hookM n fa fn ex).obs s := by
  have e : g = s.heap.get? := funext h
  rw [e] <;> rfl
/-- the class's object -/
def clsB (K : PySem.W.Frag) (bmB : List Value) (newId : String) (C : Addr) : Bool := match K.lookup C with
  | some ⟨.type t, _, .cls cd, sl⟩ => (match cd.mro, sl.toList with
    | .ref C' :: bm, [_, _, _, _, some (.builtin n), _] => decide (t = "type") && (decide (C' = C) && (decide (n = newId) && (!cd.hasDel && (cd.hasDict && EV.tailB bmB bm))))
    | _, _ => false)
  | _ => false
theorem clsB_ok {K : PySem.W.Frag} {bmB : List Value} {newId : String} {C : Addr} (h : clsB K bmB newId C = true) :
    ∃ nm q N bs bm sn sub ab col dd k0 k1 k2 k3 k5, K.lookup C = some (excClassObj nm q C N bs bm true sn sub ab col dd k0 k1 k2 k3 k5 newId) ∧ EV.tailB bmB bm = true := by
  unfold clsB at h
  split at h
  · rename_i t dd cd sl ho
    split at h
    · rename_i C' bm k0 k1 k2 k3 n k5 hm hs
      obtain ⟨h1, h⟩ := ba h
      obtain ⟨h2, h⟩ := ba h
      obtain ⟨h3, h⟩ := ba h
      obtain ⟨h4, h⟩ := ba h
      obtain ⟨h5, h6⟩ := ba h
      have e1 := of_decide_eq_true h1
      have e2 := of_decide_eq_true h2
      have e3 := of_decide_eq_true h3
      have e4 : cd.hasDel = false := by
        cases z : cd.hasDel with
        | false => rfl
        | true =>
          rw [z] at h4
          cases h4
      subst e1 e2 e3
      obtain ⟨nm, bs, mro, ns, qn, hd, sn, sub, ab, col, del⟩ := cd
      dsimp only at hm e4 h5
      subst hm e4 h5
      have hsl : sl = #[k0, k1, k2, k3, some (.builtin n), k5] := by
        obtain ⟨l⟩ := sl
        simp only at hs
        rw [hs]
      subst hsl
      exact ⟨nm, qn, ns, bs, bm, sn, sub, ab, col, dd, k0, k1, k2, k3, k5, ho, h6⟩
    · cases h
  · cases h
def xvB (K : PySem.W.Frag) (bmB : List Value) (newId : String) (C : Addr) : Bool :=
  clsB K bmB newId C && (eqO (PySem.W.findIn K (.ref C) "__setattr__") (some (some (.builtin "object.__setattr__"))) && (eqO (PySem.W.findIn K (.ref C) "__getattribute__") (some (some (.builtin "BaseException.__getattribute__"))) && (eqO (PySem.W.findIn K (.ref C) "__getattr__") (some none) &&
  (eqO (PySem.W.findIn K (.ref C) "__str__") (some (some (.builtin "BaseException.__str__"))) && (eqO (PySem.W.findIn K (.ref C) "__class__") (some (some (.builtin "object.__class__"))) && (decide (PySem.W.subIn K (.ref C) (.type "BaseException") = some true) && (decide (PySem.W.typeIn K (.ref C) = some (.type "type")) &&
  (decide (PySem.W.mroIn K C (.type "object") = some true) && (PySem.W.hasDictIn K C && (PySem.W.keepIn K (.ref C) && (eqO (PySem.W.specialIn K (.builtin "object.__class__") "__get__") (some (some (.builtin "getset_descriptor.__get__"))) && decide (PySem.W.takesIn K (.builtin "object.__class__") = some true))))))))))))
theorem xvB_ok {K : PySem.W.Frag} {bmB : List Value} {newId : String} {C : Addr} (h : xvB K bmB newId C = true) : XvC K bmB newId C := by
  obtain ⟨h1, h⟩ := ba h
  obtain ⟨h2, h⟩ := ba h
  obtain ⟨h3, h⟩ := ba h
  obtain ⟨h4, h⟩ := ba h
  obtain ⟨h5, h⟩ := ba h
  obtain ⟨h6, h⟩ := ba h
  obtain ⟨h7, h⟩ := ba h
  obtain ⟨h8, h⟩ := ba h
  obtain ⟨h9, h⟩ := ba h
  obtain ⟨h10, h⟩ := ba h
  obtain ⟨h11, h⟩ := ba h
  obtain ⟨h12, h13⟩ := ba h
  exact ⟨clsB_ok h1, eqO_ok h2, eqO_ok h3, eqO_ok h4, eqO_ok h5, eqO_ok h6, of_decide_eq_true h7, of_decide_eq_true h8, of_decide_eq_true h9, h10, h11, eqO_ok h12, of_decide_eq_true h13⟩
def ecB (K : PySem.W.Frag) (e : EC) : Bool := xvB K e.bm e.newId (ga K e.name) && (eqO (PySem.W.findIn K (.ref (ga K e.name)) e.field) (some none) && (eqO (PySem.W.findIn K (.ref (ga K e.name)) "__init__") (some (some (.ref (ma K (ga K e.name) "__init__")))) &&
  decide (PySem.W.typeIn K (.ref (ma K (ga K e.name) "__init__")) = some (.type "function"))))
def kitB (K : PySem.W.Frag) : Bool := errs.all fun e => words.all fun q => decide (PySem.W.kitOne K (.ref (ga K e.name)) (q.2.u K) = some (isK e q.2))
theorem kitB_ok {K : PySem.W.Frag} (h : kitB K = true) : Kit K := fun e he q hq => of_decide_eq_true (List.all_eq_true.mp (List.all_eq_true.mp h e he) q hq)
def valB (r : Option PySem.W.CFound) (id : String) : Bool := match r with
  | some (.val (.builtin n)) => decide (n = id)
  | _ => false
theorem valB_ok {r : Option PySem.W.CFound} {id : String} (h : valB r id = true) : r = some (.val (.builtin id)) := by
  unfold valB at h
  split at h
  · rw [of_decide_eq_true h]
  · cases h
def moreB (K : PySem.W.Frag) : Bool := (errs.all fun e => ecB K e) && (kitB K && (PySem.W.readsIn K (ga K "RealError") (.type "type") && (eqO (PySem.W.specialIn K (.ref (ga K "RealError")) "__getattribute__") (some (some (.builtin "type.__getattribute__"))) &&
  (valB (PySem.W.findCls K (.ref (ga K "RealError")) (.type "type") "__init__") "ValueError.__init__" && (valB (PySem.W.findCls K (.type "LookupError") (.type "type") "__init__") "LookupError.__init__" && valB (PySem.W.findCls K (.type "OverflowError") (.type "type") "__init__") "OverflowError.__init__")))))
/-! how __init__ binds -/
section
variable {K : PySem.W.Frag} {qual : Str} {st : Stmt} {f : Addr} {fd : FuncData} {ps : List Str}
theorem KBn.one {fd : FuncData} {ps : List Str} {fn : Str} {g : List Value → List Value → List Value} {gV : List V → List V → List V} (h : KBn K fd ps 1 [fn] g gV) (hg : ∀ u v, g [u] [v] = [u, v]) (s : Shared) (u v : Value) (X : K.In s.heap) : BindsTo s fd ⟨[u], [(fn, v)]⟩ (ps.zip [u, v]) := by
  have z := h.to s [u] [v] X rfl rfl
  rw [hg] at z
  exact z
end
def fa : List Fa := [.glo "BadFraction", .glo "BadName", .glo "BadNumber", .glo "BadPolynomial", .glo "BadFormula", .glo "BadTheory", .glo "BadPoint", .glo "BadTower", .glo "BadTable", .glo "BadStretches", .glo "BadTest", .glo "BadAtoms", .glo "BadWitness", .glo "BadPlan", .glo "BadCase", .glo "BadRows", .glo "BadBytes", .glo "BadTask", .glo "BadFigure", .glo "BadText", .glo "BadPaper", .glo "BadDeed", .glo "TooMany", .glo "NoSuch", .glo "RealError", .free "isinstance", .free "ValueError", .free "LookupError", .free "OverflowError", .free "enumerate", .free "sum", .free "range", .free "str", .glo "_law_mixed", .glo "_law_draw", .glo "_law_digit", .glo "_law_kinds", .glo "_law_valued", .glo "_law_placed", .glo "_law_right", .glo "law"]
abbrev dBadFraction : DefD := ⟨("BadFraction", some "__init__"), "__init__", "BadFraction.__init__", defArgs s_BadFraction, defBody s_BadFraction, defScope s_BadFraction, [.non], []⟩
abbrev dBadName : DefD := ⟨("BadName", some "__init__"), "__init__", "BadName.__init__", defArgs s_BadName, defBody s_BadName, defScope s_BadName, [.non], []⟩
abbrev dBadNumber : DefD := ⟨("BadNumber", some "__init__"), "__init__", "BadNumber.__init__", defArgs s_BadNumber, defBody s_BadNumber, defScope s_BadNumber, [.non], []⟩
abbrev dBadPolynomial : DefD := ⟨("BadPolynomial", some "__init__"), "__init__", "BadPolynomial.__init__", defArgs s_BadPolynomial, defBody s_BadPolynomial, defScope s_BadPolynomial, [.non], []⟩
abbrev dBadFormula : DefD := ⟨("BadFormula", some "__init__"), "__init__", "BadFormula.__init__", defArgs s_BadFormula, defBody s_BadFormula, defScope s_BadFormula, [.non], []⟩
abbrev dBadTheory : DefD := ⟨("BadTheory", some "__init__"), "__init__", "BadTheory.__init__", defArgs s_BadTheory, defBody s_BadTheory, defScope s_BadTheory, [.non], []⟩
abbrev dBadPoint : DefD := ⟨("BadPoint", some "__init__"), "__init__", "BadPoint.__init__", defArgs s_BadPoint, defBody s_BadPoint, defScope s_BadPoint, [.non], []⟩
abbrev dBadTower : DefD := ⟨("BadTower", some "__init__"), "__init__", "BadTower.__init__", defArgs s_BadTower, defBody s_BadTower, defScope s_BadTower, [.non], []⟩
abbrev dBadTable : DefD := ⟨("BadTable", some "__init__"), "__init__", "BadTable.__init__", defArgs s_BadTable, defBody s_BadTable, defScope s_BadTable, [.non], []⟩
abbrev dBadStretches : DefD := ⟨("BadStretches", some "__init__"), "__init__", "BadStretches.__init__", defArgs s_BadStretches, defBody s_BadStretches, defScope s_BadStretches, [.non], []⟩
abbrev dBadTest : DefD := ⟨("BadTest", some "__init__"), "__init__", "BadTest.__init__", defArgs s_BadTest, defBody s_BadTest, defScope s_BadTest, [.non], []⟩
abbrev dBadAtoms : DefD := ⟨("BadAtoms", some "__init__"), "__init__", "BadAtoms.__init__", defArgs s_BadAtoms, defBody s_BadAtoms, defScope s_BadAtoms, [.non], []⟩
abbrev dBadWitness : DefD := ⟨("BadWitness", some "__init__"), "__init__", "BadWitness.__init__", defArgs s_BadWitness, defBody s_BadWitness, defScope s_BadWitness, [.non], []⟩
abbrev dBadPlan : DefD := ⟨("BadPlan", some "__init__"), "__init__", "BadPlan.__init__", defArgs s_BadPlan, defBody s_BadPlan, defScope s_BadPlan, [.non], []⟩
abbrev dBadCase : DefD := ⟨("BadCase", some "__init__"), "__init__", "BadCase.__init__", defArgs s_BadCase, defBody s_BadCase, defScope s_BadCase, [.non], []⟩
abbrev dBadRows : DefD := ⟨("BadRows", some "__init__"), "__init__", "BadRows.__init__", defArgs s_BadRows, defBody s_BadRows, defScope s_BadRows, [.non], []⟩
abbrev dBadBytes : DefD := ⟨("BadBytes", some "__init__"), "__init__", "BadBytes.__init__", defArgs s_BadBytes, defBody s_BadBytes, defScope s_BadBytes, [.non], []⟩
abbrev dBadTask : DefD := ⟨("BadTask", some "__init__"), "__init__", "BadTask.__init__", defArgs s_BadTask, defBody s_BadTask, defScope s_BadTask, [.non], []⟩
abbrev dBadFigure : DefD := ⟨("BadFigure", some "__init__"), "__init__", "BadFigure.__init__", defArgs s_BadFigure, defBody s_BadFigure, defScope s_BadFigure, [.non], []⟩
abbrev dBadText : DefD := ⟨("BadText", some "__init__"), "__init__", "BadText.__init__", defArgs s_BadText, defBody s_BadText, defScope s_BadText, [.non], []⟩
abbrev dBadPaper : DefD := ⟨("BadPaper", some "__init__"), "__init__", "BadPaper.__init__", defArgs s_BadPaper, defBody s_BadPaper, defScope s_BadPaper, [.non], []⟩
abbrev dBadDeed : DefD := ⟨("BadDeed", some "__init__"), "__init__", "BadDeed.__init__", defArgs s_BadDeed, defBody s_BadDeed, defScope s_BadDeed, [.non], []⟩
abbrev dTooMany : DefD := ⟨("TooMany", some "__init__"), "__init__", "TooMany.__init__", defArgs s_TooMany, defBody s_TooMany, defScope s_TooMany, [], []⟩
abbrev dNoSuch : DefD := ⟨("NoSuch", some "__init__"), "__init__", "NoSuch.__init__", defArgs s_NoSuch, defBody s_NoSuch, defScope s_NoSuch, [.non], []⟩
abbrev dsMixed : DefD := ⟨("_law_mixed", none), "_law_mixed", "_law_mixed", defArgs sMixed, defBody sMixed, defScope sMixed, [], []⟩
abbrev dsDraw : DefD := ⟨("_law_draw", none), "_law_draw", "_law_draw", defArgs sDraw, defBody sDraw, defScope sDraw, [], []⟩
abbrev dsDigit : DefD := ⟨("_law_digit", none), "_law_digit", "_law_digit", defArgs sDigit, defBody sDigit, defScope sDigit, [], []⟩
abbrev dsKinds : DefD := ⟨("_law_kinds", none), "_law_kinds", "_law_kinds", defArgs sKinds, defBody sKinds, defScope sKinds, [], []⟩
abbrev dsValued : DefD := ⟨("_law_valued", none), "_law_valued", "_law_valued", defArgs sValued, defBody sValued, defScope sValued, [], []⟩
abbrev dsPlaced : DefD := ⟨("_law_placed", none), "_law_placed", "_law_placed", defArgs sPlaced, defBody sPlaced, defScope sPlaced, [], []⟩
abbrev dsRight : DefD := ⟨("_law_right", none), "_law_right", "_law_right", defArgs sRight, defBody sRight, defScope sRight, [], []⟩
abbrev dsLaw : DefD := ⟨("law", none), "law", "law", defArgs sLaw, defBody sLaw, defScope sLaw, [], []⟩
def fn : List DefD := [dBadFraction, dBadName, dBadNumber, dBadPolynomial, dBadFormula, dBadTheory, dBadPoint, dBadTower, dBadTable, dBadStretches, dBadTest, dBadAtoms, dBadWitness, dBadPlan, dBadCase, dBadRows, dBadBytes, dBadTask, dBadFigure, dBadText, dBadPaper, dBadDeed, dTooMany, dNoSuch, dsMixed, dsDraw, dsDigit, dsKinds, dsValued, dsPlaced, dsRight, dsLaw]
abbrev R : PySem.W.OpenRow := PySem.W.OpenLaw.row PySem.Challenge.rw_everyreal_k99_errors_by_hand
abbrev hk : PySem.W.Hook := hookM 5 fa fn moreB
section
variable {P : Program} {w : World} {K : PySem.W.Frag} {mg : Str → Option Value} {base h : Heap}

theorem ec_BadFraction (T : RealE K mg (ga K "RealError")) (g : mg "BadFraction" = some (.ref (ga K "BadFraction"))) (b : ecB K eBadFraction = true) (D : ∃ fd, FunD K "__init__" "BadFraction.__init__" (defArgs s_BadFraction) (defBody s_BadFraction) (defScope s_BadFraction) [.non] [] (ma K (ga K "BadFraction") "__init__") fd) : Ec P w K mg base eBadFraction := by
  obtain ⟨h1, b⟩ := ba b
  obtain ⟨h2, b⟩ := ba b
  obtain ⟨h3, h4⟩ := ba b
  obtain ⟨fd, F⟩ := D
  refine ⟨g, xvB_ok h1, eqO_ok h2, eqO_ok h3, of_decide_eq_true h4, ⟨_, _, EV.base_VE⟩, fd, ok_BadFraction F T, ?_, ?_, ?_⟩
  · obtain ⟨ds, r, hb⟩ := F.binds1 (ps := ["self", "value"]) 2 1 (fun z => nomatch z) rfl fun T kV doc pm an cdv ct us its hl h2 => match us, hl, its, h2 with | [_, _], _, [_], _ => ⟨_, rfl, rfl⟩
    cases r
    exact hb
  · obtain ⟨ds, r, hb⟩ := F.binds1 (ps := ["self", "value"]) 1 0 (fun z => nomatch z) rfl fun T kV doc pm an cdv ct us its hl h2 => match us, hl, its, h2 with | [_], _, [_], _ => ⟨_, rfl, rfl⟩
    obtain ⟨u, rfl, ru⟩ := vals1 r
    cases (show u = Value.none from ru)
    exact fun _ => hb
  · obtain ⟨its, hb⟩ := F.kbindsD (ps := ["self", "value"]) 1 ["value"] (fun us _ ws => us ++ ws) (fun z => nomatch z) (fun r1 _ r3 => r1.append r3) fun T kV doc pm an cdv ct us its ws hl h2 h3 => match us, hl, its, h2, ws, h3 with | [_], _, [_], _, [_], _ => ⟨_, rfl, rfl⟩
    exact fun s u v X => KBn.one hb (fun _ _ => rfl) s u v X
theorem ec_BadName (T : RealE K mg (ga K "RealError")) (g : mg "BadName" = some (.ref (ga K "BadName"))) (b : ecB K eBadName = true) (D : ∃ fd, FunD K "__init__" "BadName.__init__" (defArgs s_BadName) (defBody s_BadName) (defScope s_BadName) [.non] [] (ma K (ga K "BadName") "__init__") fd) : Ec P w K mg base eBadName := by
  obtain ⟨h1, b⟩ := ba b
  obtain ⟨h2, b⟩ := ba b
  obtain ⟨h3, h4⟩ := ba b
  obtain ⟨fd, F⟩ := D
  refine ⟨g, xvB_ok h1, eqO_ok h2, eqO_ok h3, of_decide_eq_true h4, ⟨_, _, EV.base_VE⟩, fd, ok_BadName F T, ?_, ?_, ?_⟩
  · obtain ⟨ds, r, hb⟩ := F.binds1 (ps := ["self", "value"]) 2 1 (fun z => nomatch z) rfl fun T kV doc pm an cdv ct us its hl h2 => match us, hl, its, h2 with | [_, _], _, [_], _ => ⟨_, rfl, rfl⟩
    cases r
    exact hb
  · obtain ⟨ds, r, hb⟩ := F.binds1 (ps := ["self", "value"]) 1 0 (fun z => nomatch z) rfl fun T kV doc pm an cdv ct us its hl h2 => match us, hl, its, h2 with | [_], _, [_], _ => ⟨_, rfl, rfl⟩
    obtain ⟨u, rfl, ru⟩ := vals1 r
    cases (show u = Value.none from ru)
    exact fun _ => hb
  · obtain ⟨its, hb⟩ := F.kbindsD (ps := ["self", "value"]) 1 ["value"] (fun us _ ws => us ++ ws) (fun z => nomatch z) (fun r1 _ r3 => r1.append r3) fun T kV doc pm an cdv ct us its ws hl h2 h3 => match us, hl, its, h2, ws, h3 with | [_], _, [_], _, [_], _ => ⟨_, rfl, rfl⟩
    exact fun s u v X => KBn.one hb (fun _ _ => rfl) s u v X
theorem ec_BadNumber (T : RealE K mg (ga K "RealError")) (g : mg "BadNumber" = some (.ref (ga K "BadNumber"))) (b : ecB K eBadNumber = true) (D : ∃ fd, FunD K "__init__" "BadNumber.__init__" (defArgs s_BadNumber) (defBody s_BadNumber) (defScope s_BadNumber) [.non] [] (ma K (ga K "BadNumber") "__init__") fd) : Ec P w K mg base eBadNumber := by
  obtain ⟨h1, b⟩ := ba b
  obtain ⟨h2, b⟩ := ba b
  obtain ⟨h3, h4⟩ := ba b
  obtain ⟨fd, F⟩ := D
  refine ⟨g, xvB_ok h1, eqO_ok h2, eqO_ok h3, of_decide_eq_true h4, ⟨_, _, EV.base_VE⟩, fd, ok_BadNumber F T, ?_, ?_, ?_⟩
  · obtain ⟨ds, r, hb⟩ := F.binds1 (ps := ["self", "value"]) 2 1 (fun z => nomatch z) rfl fun T kV doc pm an cdv ct us its hl h2 => match us, hl, its, h2 with | [_, _], _, [_], _ => ⟨_, rfl, rfl⟩
    cases r
    exact hb
  · obtain ⟨ds, r, hb⟩ := F.binds1 (ps := ["self", "value"]) 1 0 (fun z => nomatch z) rfl fun T kV doc pm an cdv ct us its hl h2 => match us, hl, its, h2 with | [_], _, [_], _ => ⟨_, rfl, rfl⟩
    obtain ⟨u, rfl, ru⟩ := vals1 r
    cases (show u = Value.none from ru)
    exact fun _ => hb
  · obtain ⟨its, hb⟩ := F.kbindsD (ps := ["self", "value"]) 1 ["value"] (fun us _ ws => us ++ ws) (fun z => nomatch z) (fun r1 _ r3 => r1.append r3) fun T kV doc pm an cdv ct us its ws hl h2 h3 => match us, hl, its, h2, ws, h3 with | [_], _, [_], _, [_], _ => ⟨_, rfl, rfl⟩
    exact fun s u v X => KBn.one hb (fun _ _ => rfl) s u v X
theorem ec_BadPolynomial (T : RealE K mg (ga K "RealError")) (g : mg "BadPolynomial" = some (.ref (ga K "BadPolynomial"))) (b : ecB K eBadPolynomial = true) (D : ∃ fd, FunD K "__init__" "BadPolynomial.__init__" (defArgs s_BadPolynomial) (defBody s_BadPolynomial) (defScope s_BadPolynomial) [.non] [] (ma K (ga K "BadPolynomial") "__init__") fd) : Ec P w K mg base eBadPolynomial := by
  obtain ⟨h1, b⟩ := ba b
  obtain ⟨h2, b⟩ := ba b
  obtain ⟨h3, h4⟩ := ba b
  obtain ⟨fd, F⟩ := D
  refine ⟨g, xvB_ok h1, eqO_ok h2, eqO_ok h3, of_decide_eq_true h4, ⟨_, _, EV.base_VE⟩, fd, ok_BadPolynomial F T, ?_, ?_, ?_⟩
  · obtain ⟨ds, r, hb⟩ := F.binds1 (ps := ["self", "place"]) 2 1 (fun z => nomatch z) rfl fun T kV doc pm an cdv ct us its hl h2 => match us, hl, its, h2 with | [_, _], _, [_], _ => ⟨_, rfl, rfl⟩
    cases r
    exact hb
  · obtain ⟨ds, r, hb⟩ := F.binds1 (ps := ["self", "place"]) 1 0 (fun z => nomatch z) rfl fun T kV doc pm an cdv ct us its hl h2 => match us, hl, its, h2 with | [_], _, [_], _ => ⟨_, rfl, rfl⟩
    obtain ⟨u, rfl, ru⟩ := vals1 r
    cases (show u = Value.none from ru)
    exact fun _ => hb
  · obtain ⟨its, hb⟩ := F.kbindsD (ps := ["self", "place"]) 1 ["place"] (fun us _ ws => us ++ ws) (fun z => nomatch z) (fun r1 _ r3 => r1.append r3) fun T kV doc pm an cdv ct us its ws hl h2 h3 => match us, hl, its, h2, ws, h3 with | [_], _, [_], _, [_], _ => ⟨_, rfl, rfl⟩
    exact fun s u v X => KBn.one hb (fun _ _ => rfl) s u v X
theorem ec_BadFormula (T : RealE K mg (ga K "RealError")) (g : mg "BadFormula" = some (.ref (ga K "BadFormula"))) (b : ecB K eBadFormula = true) (D : ∃ fd, FunD K "__init__" "BadFormula.__init__" (defArgs s_BadFormula) (defBody s_BadFormula) (defScope s_BadFormula) [.non] [] (ma K (ga K "BadFormula") "__init__") fd) : Ec P w K mg base eBadFormula := by
  obtain ⟨h1, b⟩ := ba b
  obtain ⟨h2, b⟩ := ba b
  obtain ⟨h3, h4⟩ := ba b
  obtain ⟨fd, F⟩ := D
  refine ⟨g, xvB_ok h1, eqO_ok h2, eqO_ok h3, of_decide_eq_true h4, ⟨_, _, EV.base_VE⟩, fd, ok_BadFormula F T, ?_, ?_, ?_⟩
  · obtain ⟨ds, r, hb⟩ := F.binds1 (ps := ["self", "place"]) 2 1 (fun z => nomatch z) rfl fun T kV doc pm an cdv ct us its hl h2 => match us, hl, its, h2 with | [_, _], _, [_], _ => ⟨_, rfl, rfl⟩
    cases r
    exact hb
  · obtain ⟨ds, r, hb⟩ := F.binds1 (ps := ["self", "place"]) 1 0 (fun z => nomatch z) rfl fun T kV doc pm an cdv ct us its hl h2 => match us, hl, its, h2 with | [_], _, [_], _ => ⟨_, rfl, rfl⟩
    obtain ⟨u, rfl, ru⟩ := vals1 r
    cases (show u = Value.none from ru)
    exact fun _ => hb
  · obtain ⟨its, hb⟩ := F.kbindsD (ps := ["self", "place"]) 1 ["place"] (fun us _ ws => us ++ ws) (fun z => nomatch z) (fun r1 _ r3 => r1.append r3) fun T kV doc pm an cdv ct us its ws hl h2 h3 => match us, hl, its, h2, ws, h3 with | [_], _, [_], _, [_], _ => ⟨_, rfl, rfl⟩
    exact fun s u v X => KBn.one hb (fun _ _ => rfl) s u v X
theorem ec_BadTheory (T : RealE K mg (ga K "RealError")) (g : mg "BadTheory" = some (.ref (ga K "BadTheory"))) (b : ecB K eBadTheory = true) (D : ∃ fd, FunD K "__init__" "BadTheory.__init__" (defArgs s_BadTheory) (defBody s_BadTheory) (defScope s_BadTheory) [.non] [] (ma K (ga K "BadTheory") "__init__") fd) : Ec P w K mg base eBadTheory := by
  obtain ⟨h1, b⟩ := ba b
  obtain ⟨h2, b⟩ := ba b
  obtain ⟨h3, h4⟩ := ba b
  obtain ⟨fd, F⟩ := D
  refine ⟨g, xvB_ok h1, eqO_ok h2, eqO_ok h3, of_decide_eq_true h4, ⟨_, _, EV.base_VE⟩, fd, ok_BadTheory F T, ?_, ?_, ?_⟩
  · obtain ⟨ds, r, hb⟩ := F.binds1 (ps := ["self", "place"]) 2 1 (fun z => nomatch z) rfl fun T kV doc pm an cdv ct us its hl h2 => match us, hl, its, h2 with | [_, _], _, [_], _ => ⟨_, rfl, rfl⟩
    cases r
    exact hb
  · obtain ⟨ds, r, hb⟩ := F.binds1 (ps := ["self", "place"]) 1 0 (fun z => nomatch z) rfl fun T kV doc pm an cdv ct us its hl h2 => match us, hl, its, h2 with | [_], _, [_], _ => ⟨_, rfl, rfl⟩
    obtain ⟨u, rfl, ru⟩ := vals1 r
    cases (show u = Value.none from ru)
    exact fun _ => hb
  · obtain ⟨its, hb⟩ := F.kbindsD (ps := ["self", "place"]) 1 ["place"] (fun us _ ws => us ++ ws) (fun z => nomatch z) (fun r1 _ r3 => r1.append r3) fun T kV doc pm an cdv ct us its ws hl h2 h3 => match us, hl, its, h2, ws, h3 with | [_], _, [_], _, [_], _ => ⟨_, rfl, rfl⟩
    exact fun s u v X => KBn.one hb (fun _ _ => rfl) s u v X
theorem ec_BadPoint (T : RealE K mg (ga K "RealError")) (g : mg "BadPoint" = some (.ref (ga K "BadPoint"))) (b : ecB K eBadPoint = true) (D : ∃ fd, FunD K "__init__" "BadPoint.__init__" (defArgs s_BadPoint) (defBody s_BadPoint) (defScope s_BadPoint) [.non] [] (ma K (ga K "BadPoint") "__init__") fd) : Ec P w K mg base eBadPoint := by
  obtain ⟨h1, b⟩ := ba b
  obtain ⟨h2, b⟩ := ba b
  obtain ⟨h3, h4⟩ := ba b
  obtain ⟨fd, F⟩ := D
  refine ⟨g, xvB_ok h1, eqO_ok h2, eqO_ok h3, of_decide_eq_true h4, ⟨_, _, EV.base_VE⟩, fd, ok_BadPoint F T, ?_, ?_, ?_⟩
  · obtain ⟨ds, r, hb⟩ := F.binds1 (ps := ["self", "place"]) 2 1 (fun z => nomatch z) rfl fun T kV doc pm an cdv ct us its hl h2 => match us, hl, its, h2 with | [_, _], _, [_], _ => ⟨_, rfl, rfl⟩
    cases r
    exact hb
  · obtain ⟨ds, r, hb⟩ := F.binds1 (ps := ["self", "place"]) 1 0 (fun z => nomatch z) rfl fun T kV doc pm an cdv ct us its hl h2 => match us, hl, its, h2 with | [_], _, [_], _ => ⟨_, rfl, rfl⟩
    obtain ⟨u, rfl, ru⟩ := vals1 r
    cases (show u = Value.none from ru)
    exact fun _ => hb
  · obtain ⟨its, hb⟩ := F.kbindsD (ps := ["self", "place"]) 1 ["place"] (fun us _ ws => us ++ ws) (fun z => nomatch z) (fun r1 _ r3 => r1.append r3) fun T kV doc pm an cdv ct us its ws hl h2 h3 => match us, hl, its, h2, ws, h3 with | [_], _, [_], _, [_], _ => ⟨_, rfl, rfl⟩
    exact fun s u v X => KBn.one hb (fun _ _ => rfl) s u v X
theorem ec_BadTower (T : RealE K mg (ga K "RealError")) (g : mg "BadTower" = some (.ref (ga K "BadTower"))) (b : ecB K eBadTower = true) (D : ∃ fd, FunD K "__init__" "BadTower.__init__" (defArgs s_BadTower) (defBody s_BadTower) (defScope s_BadTower) [.non] [] (ma K (ga K "BadTower") "__init__") fd) : Ec P w K mg base eBadTower := by
  obtain ⟨h1, b⟩ := ba b
  obtain ⟨h2, b⟩ := ba b
  obtain ⟨h3, h4⟩ := ba b
  obtain ⟨fd, F⟩ := D
  refine ⟨g, xvB_ok h1, eqO_ok h2, eqO_ok h3, of_decide_eq_true h4, ⟨_, _, EV.base_VE⟩, fd, ok_BadTower F T, ?_, ?_, ?_⟩
  · obtain ⟨ds, r, hb⟩ := F.binds1 (ps := ["self", "place"]) 2 1 (fun z => nomatch z) rfl fun T kV doc pm an cdv ct us its hl h2 => match us, hl, its, h2 with | [_, _], _, [_], _ => ⟨_, rfl, rfl⟩
    cases r
    exact hb
  · obtain ⟨ds, r, hb⟩ := F.binds1 (ps := ["self", "place"]) 1 0 (fun z => nomatch z) rfl fun T kV doc pm an cdv ct us its hl h2 => match us, hl, its, h2 with | [_], _, [_], _ => ⟨_, rfl, rfl⟩
    obtain ⟨u, rfl, ru⟩ := vals1 r
    cases (show u = Value.none from ru)
    exact fun _ => hb
  · obtain ⟨its, hb⟩ := F.kbindsD (ps := ["self", "place"]) 1 ["place"] (fun us _ ws => us ++ ws) (fun z => nomatch z) (fun r1 _ r3 => r1.append r3) fun T kV doc pm an cdv ct us its ws hl h2 h3 => match us, hl, its, h2, ws, h3 with | [_], _, [_], _, [_], _ => ⟨_, rfl, rfl⟩
    exact fun s u v X => KBn.one hb (fun _ _ => rfl) s u v X
theorem ec_BadTable (T : RealE K mg (ga K "RealError")) (g : mg "BadTable" = some (.ref (ga K "BadTable"))) (b : ecB K eBadTable = true) (D : ∃ fd, FunD K "__init__" "BadTable.__init__" (defArgs s_BadTable) (defBody s_BadTable) (defScope s_BadTable) [.non] [] (ma K (ga K "BadTable") "__init__") fd) : Ec P w K mg base eBadTable := by
  obtain ⟨h1, b⟩ := ba b
  obtain ⟨h2, b⟩ := ba b
  obtain ⟨h3, h4⟩ := ba b
  obtain ⟨fd, F⟩ := D
  refine ⟨g, xvB_ok h1, eqO_ok h2, eqO_ok h3, of_decide_eq_true h4, ⟨_, _, EV.base_VE⟩, fd, ok_BadTable F T, ?_, ?_, ?_⟩
  · obtain ⟨ds, r, hb⟩ := F.binds1 (ps := ["self", "place"]) 2 1 (fun z => nomatch z) rfl fun T kV doc pm an cdv ct us its hl h2 => match us, hl, its, h2 with | [_, _], _, [_], _ => ⟨_, rfl, rfl⟩
    cases r
    exact hb
  · obtain ⟨ds, r, hb⟩ := F.binds1 (ps := ["self", "place"]) 1 0 (fun z => nomatch z) rfl fun T kV doc pm an cdv ct us its hl h2 => match us, hl, its, h2 with | [_], _, [_], _ => ⟨_, rfl, rfl⟩
    obtain ⟨u, rfl, ru⟩ := vals1 r
    cases (show u = Value.none from ru)
    exact fun _ => hb
  · obtain ⟨its, hb⟩ := F.kbindsD (ps := ["self", "place"]) 1 ["place"] (fun us _ ws => us ++ ws) (fun z => nomatch z) (fun r1 _ r3 => r1.append r3) fun T kV doc pm an cdv ct us its ws hl h2 h3 => match us, hl, its, h2, ws, h3 with | [_], _, [_], _, [_], _ => ⟨_, rfl, rfl⟩
    exact fun s u v X => KBn.one hb (fun _ _ => rfl) s u v X
theorem ec_BadStretches (T : RealE K mg (ga K "RealError")) (g : mg "BadStretches" = some (.ref (ga K "BadStretches"))) (b : ecB K eBadStretches = true) (D : ∃ fd, FunD K "__init__" "BadStretches.__init__" (defArgs s_BadStretches) (defBody s_BadStretches) (defScope s_BadStretches) [.non] [] (ma K (ga K "BadStretches") "__init__") fd) : Ec P w K mg base eBadStretches := by
  obtain ⟨h1, b⟩ := ba b
  obtain ⟨h2, b⟩ := ba b
  obtain ⟨h3, h4⟩ := ba b
  obtain ⟨fd, F⟩ := D
  refine ⟨g, xvB_ok h1, eqO_ok h2, eqO_ok h3, of_decide_eq_true h4, ⟨_, _, EV.base_VE⟩, fd, ok_BadStretches F T, ?_, ?_, ?_⟩
  · obtain ⟨ds, r, hb⟩ := F.binds1 (ps := ["self", "place"]) 2 1 (fun z => nomatch z) rfl fun T kV doc pm an cdv ct us its hl h2 => match us, hl, its, h2 with | [_, _], _, [_], _ => ⟨_, rfl, rfl⟩
    cases r
    exact hb
  · obtain ⟨ds, r, hb⟩ := F.binds1 (ps := ["self", "place"]) 1 0 (fun z => nomatch z) rfl fun T kV doc pm an cdv ct us its hl h2 => match us, hl, its, h2 with | [_], _, [_], _ => ⟨_, rfl, rfl⟩
    obtain ⟨u, rfl, ru⟩ := vals1 r
    cases (show u = Value.none from ru)
    exact fun _ => hb
  · obtain ⟨its, hb⟩ := F.kbindsD (ps := ["self", "place"]) 1 ["place"] (fun us _ ws => us ++ ws) (fun z => nomatch z) (fun r1 _ r3 => r1.append r3) fun T kV doc pm an cdv ct us its ws hl h2 h3 => match us, hl, its, h2, ws, h3 with | [_], _, [_], _, [_], _ => ⟨_, rfl, rfl⟩
    exact fun s u v X => KBn.one hb (fun _ _ => rfl) s u v X
theorem ec_BadTest (T : RealE K mg (ga K "RealError")) (g : mg "BadTest" = some (.ref (ga K "BadTest"))) (b : ecB K eBadTest = true) (D : ∃ fd, FunD K "__init__" "BadTest.__init__" (defArgs s_BadTest) (defBody s_BadTest) (defScope s_BadTest) [.non] [] (ma K (ga K "BadTest") "__init__") fd) : Ec P w K mg base eBadTest := by
  obtain ⟨h1, b⟩ := ba b
  obtain ⟨h2, b⟩ := ba b
  obtain ⟨h3, h4⟩ := ba b
  obtain ⟨fd, F⟩ := D
  refine ⟨g, xvB_ok h1, eqO_ok h2, eqO_ok h3, of_decide_eq_true h4, ⟨_, _, EV.base_VE⟩, fd, ok_BadTest F T, ?_, ?_, ?_⟩
  · obtain ⟨ds, r, hb⟩ := F.binds1 (ps := ["self", "place"]) 2 1 (fun z => nomatch z) rfl fun T kV doc pm an cdv ct us its hl h2 => match us, hl, its, h2 with | [_, _], _, [_], _ => ⟨_, rfl, rfl⟩
    cases r
    exact hb
  · obtain ⟨ds, r, hb⟩ := F.binds1 (ps := ["self", "place"]) 1 0 (fun z => nomatch z) rfl fun T kV doc pm an cdv ct us its hl h2 => match us, hl, its, h2 with | [_], _, [_], _ => ⟨_, rfl, rfl⟩
    obtain ⟨u, rfl, ru⟩ := vals1 r
    cases (show u = Value.none from ru)
    exact fun _ => hb
  · obtain ⟨its, hb⟩ := F.kbindsD (ps := ["self", "place"]) 1 ["place"] (fun us _ ws => us ++ ws) (fun z => nomatch z) (fun r1 _ r3 => r1.append r3) fun T kV doc pm an cdv ct us its ws hl h2 h3 => match us, hl, its, h2, ws, h3 with | [_], _, [_], _, [_], _ => ⟨_, rfl, rfl⟩
    exact fun s u v X => KBn.one hb (fun _ _ => rfl) s u v X
theorem ec_BadAtoms (T : RealE K mg (ga K "RealError")) (g : mg "BadAtoms" = some (.ref (ga K "BadAtoms"))) (b : ecB K eBadAtoms = true) (D : ∃ fd, FunD K "__init__" "BadAtoms.__init__" (defArgs s_BadAtoms) (defBody s_BadAtoms) (defScope s_BadAtoms) [.non] [] (ma K (ga K "BadAtoms") "__init__") fd) : Ec P w K mg base eBadAtoms := by
  obtain ⟨h1, b⟩ := ba b
  obtain ⟨h2, b⟩ := ba b
  obtain ⟨h3, h4⟩ := ba b
  obtain ⟨fd, F⟩ := D
  refine ⟨g, xvB_ok h1, eqO_ok h2, eqO_ok h3, of_decide_eq_true h4, ⟨_, _, EV.base_VE⟩, fd, ok_BadAtoms F T, ?_, ?_, ?_⟩
  · obtain ⟨ds, r, hb⟩ := F.binds1 (ps := ["self", "place"]) 2 1 (fun z => nomatch z) rfl fun T kV doc pm an cdv ct us its hl h2 => match us, hl, its, h2 with | [_, _], _, [_], _ => ⟨_, rfl, rfl⟩
    cases r
    exact hb
  · obtain ⟨ds, r, hb⟩ := F.binds1 (ps := ["self", "place"]) 1 0 (fun z => nomatch z) rfl fun T kV doc pm an cdv ct us its hl h2 => match us, hl, its, h2 with | [_], _, [_], _ => ⟨_, rfl, rfl⟩
    obtain ⟨u, rfl, ru⟩ := vals1 r
    cases (show u = Value.none from ru)
    exact fun _ => hb
  · obtain ⟨its, hb⟩ := F.kbindsD (ps := ["self", "place"]) 1 ["place"] (fun us _ ws => us ++ ws) (fun z => nomatch z) (fun r1 _ r3 => r1.append r3) fun T kV doc pm an cdv ct us its ws hl h2 h3 => match us, hl, its, h2, ws, h3 with | [_], _, [_], _, [_], _ => ⟨_, rfl, rfl⟩
    exact fun s u v X => KBn.one hb (fun _ _ => rfl) s u v X
theorem ec_BadWitness (T : RealE K mg (ga K "RealError")) (g : mg "BadWitness" = some (.ref (ga K "BadWitness"))) (b : ecB K eBadWitness = true) (D : ∃ fd, FunD K "__init__" "BadWitness.__init__" (defArgs s_BadWitness) (defBody s_BadWitness) (defScope s_BadWitness) [.non] [] (ma K (ga K "BadWitness") "__init__") fd) : Ec P w K mg base eBadWitness := by
  obtain ⟨h1, b⟩ := ba b
  obtain ⟨h2, b⟩ := ba b
  obtain ⟨h3, h4⟩ := ba b
  obtain ⟨fd, F⟩ := D
  refine ⟨g, xvB_ok h1, eqO_ok h2, eqO_ok h3, of_decide_eq_true h4, ⟨_, _, EV.base_VE⟩, fd, ok_BadWitness F T, ?_, ?_, ?_⟩
  · obtain ⟨ds, r, hb⟩ := F.binds1 (ps := ["self", "place"]) 2 1 (fun z => nomatch z) rfl fun T kV doc pm an cdv ct us its hl h2 => match us, hl, its, h2 with | [_, _], _, [_], _ => ⟨_, rfl, rfl⟩
    cases r
    exact hb
  · obtain ⟨ds, r, hb⟩ := F.binds1 (ps := ["self", "place"]) 1 0 (fun z => nomatch z) rfl fun T kV doc pm an cdv ct us its hl h2 => match us, hl, its, h2 with | [_], _, [_], _ => ⟨_, rfl, rfl⟩
    obtain ⟨u, rfl, ru⟩ := vals1 r
    cases (show u = Value.none from ru)
    exact fun _ => hb
  · obtain ⟨its, hb⟩ := F.kbindsD (ps := ["self", "place"]) 1 ["place"] (fun us _ ws => us ++ ws) (fun z => nomatch z) (fun r1 _ r3 => r1.append r3) fun T kV doc pm an cdv ct us its ws hl h2 h3 => match us, hl, its, h2, ws, h3 with | [_], _, [_], _, [_], _ => ⟨_, rfl, rfl⟩
    exact fun s u v X => KBn.one hb (fun _ _ => rfl) s u v X
theorem ec_BadPlan (T : RealE K mg (ga K "RealError")) (g : mg "BadPlan" = some (.ref (ga K "BadPlan"))) (b : ecB K eBadPlan = true) (D : ∃ fd, FunD K "__init__" "BadPlan.__init__" (defArgs s_BadPlan) (defBody s_BadPlan) (defScope s_BadPlan) [.non] [] (ma K (ga K "BadPlan") "__init__") fd) : Ec P w K mg base eBadPlan := by
  obtain ⟨h1, b⟩ := ba b
  obtain ⟨h2, b⟩ := ba b
  obtain ⟨h3, h4⟩ := ba b
  obtain ⟨fd, F⟩ := D
  refine ⟨g, xvB_ok h1, eqO_ok h2, eqO_ok h3, of_decide_eq_true h4, ⟨_, _, EV.base_VE⟩, fd, ok_BadPlan F T, ?_, ?_, ?_⟩
  · obtain ⟨ds, r, hb⟩ := F.binds1 (ps := ["self", "place"]) 2 1 (fun z => nomatch z) rfl fun T kV doc pm an cdv ct us its hl h2 => match us, hl, its, h2 with | [_, _], _, [_], _ => ⟨_, rfl, rfl⟩
    cases r
    exact hb
  · obtain ⟨ds, r, hb⟩ := F.binds1 (ps := ["self", "place"]) 1 0 (fun z => nomatch z) rfl fun T kV doc pm an cdv ct us its hl h2 => match us, hl, its, h2 with | [_], _, [_], _ => ⟨_, rfl, rfl⟩
    obtain ⟨u, rfl, ru⟩ := vals1 r
    cases (show u = Value.none from ru)
    exact fun _ => hb
  · obtain ⟨its, hb⟩ := F.kbindsD (ps := ["self", "place"]) 1 ["place"] (fun us _ ws => us ++ ws) (fun z => nomatch z) (fun r1 _ r3 => r1.append r3) fun T kV doc pm an cdv ct us its ws hl h2 h3 => match us, hl, its, h2, ws, h3 with | [_], _, [_], _, [_], _ => ⟨_, rfl, rfl⟩
    exact fun s u v X => KBn.one hb (fun _ _ => rfl) s u v X
theorem ec_BadCase (T : RealE K mg (ga K "RealError")) (g : mg "BadCase" = some (.ref (ga K "BadCase"))) (b : ecB K eBadCase = true) (D : ∃ fd, FunD K "__init__" "BadCase.__init__" (defArgs s_BadCase) (defBody s_BadCase) (defScope s_BadCase) [.non] [] (ma K (ga K "BadCase") "__init__") fd) : Ec P w K mg base eBadCase := by
  obtain ⟨h1, b⟩ := ba b
  obtain ⟨h2, b⟩ := ba b
  obtain ⟨h3, h4⟩ := ba b
  obtain ⟨fd, F⟩ := D
  refine ⟨g, xvB_ok h1, eqO_ok h2, eqO_ok h3, of_decide_eq_true h4, ⟨_, _, EV.base_VE⟩, fd, ok_BadCase F T, ?_, ?_, ?_⟩
  · obtain ⟨ds, r, hb⟩ := F.binds1 (ps := ["self", "place"]) 2 1 (fun z => nomatch z) rfl fun T kV doc pm an cdv ct us its hl h2 => match us, hl, its, h2 with | [_, _], _, [_], _ => ⟨_, rfl, rfl⟩
    cases r
    exact hb
  · obtain ⟨ds, r, hb⟩ := F.binds1 (ps := ["self", "place"]) 1 0 (fun z => nomatch z) rfl fun T kV doc pm an cdv ct us its hl h2 => match us, hl, its, h2 with | [_], _, [_], _ => ⟨_, rfl, rfl⟩
    obtain ⟨u, rfl, ru⟩ := vals1 r
    cases (show u = Value.none from ru)
    exact fun _ => hb
  · obtain ⟨its, hb⟩ := F.kbindsD (ps := ["self", "place"]) 1 ["place"] (fun us _ ws => us ++ ws) (fun z => nomatch z) (fun r1 _ r3 => r1.append r3) fun T kV doc pm an cdv ct us its ws hl h2 h3 => match us, hl, its, h2, ws, h3 with | [_], _, [_], _, [_], _ => ⟨_, rfl, rfl⟩
    exact fun s u v X => KBn.one hb (fun _ _ => rfl) s u v X
theorem ec_BadRows (T : RealE K mg (ga K "RealError")) (g : mg "BadRows" = some (.ref (ga K "BadRows"))) (b : ecB K eBadRows = true) (D : ∃ fd, FunD K "__init__" "BadRows.__init__" (defArgs s_BadRows) (defBody s_BadRows) (defScope s_BadRows) [.non] [] (ma K (ga K "BadRows") "__init__") fd) : Ec P w K mg base eBadRows := by
  obtain ⟨h1, b⟩ := ba b
  obtain ⟨h2, b⟩ := ba b
  obtain ⟨h3, h4⟩ := ba b
  obtain ⟨fd, F⟩ := D
  refine ⟨g, xvB_ok h1, eqO_ok h2, eqO_ok h3, of_decide_eq_true h4, ⟨_, _, EV.base_VE⟩, fd, ok_BadRows F T, ?_, ?_, ?_⟩
  · obtain ⟨ds, r, hb⟩ := F.binds1 (ps := ["self", "place"]) 2 1 (fun z => nomatch z) rfl fun T kV doc pm an cdv ct us its hl h2 => match us, hl, its, h2 with | [_, _], _, [_], _ => ⟨_, rfl, rfl⟩
    cases r
    exact hb
  · obtain ⟨ds, r, hb⟩ := F.binds1 (ps := ["self", "place"]) 1 0 (fun z => nomatch z) rfl fun T kV doc pm an cdv ct us its hl h2 => match us, hl, its, h2 with | [_], _, [_], _ => ⟨_, rfl, rfl⟩
    obtain ⟨u, rfl, ru⟩ := vals1 r
    cases (show u = Value.none from ru)
    exact fun _ => hb
  · obtain ⟨its, hb⟩ := F.kbindsD (ps := ["self", "place"]) 1 ["place"] (fun us _ ws => us ++ ws) (fun z => nomatch z) (fun r1 _ r3 => r1.append r3) fun T kV doc pm an cdv ct us its ws hl h2 h3 => match us, hl, its, h2, ws, h3 with | [_], _, [_], _, [_], _ => ⟨_, rfl, rfl⟩
    exact fun s u v X => KBn.one hb (fun _ _ => rfl) s u v X
theorem ec_BadBytes (T : RealE K mg (ga K "RealError")) (g : mg "BadBytes" = some (.ref (ga K "BadBytes"))) (b : ecB K eBadBytes = true) (D : ∃ fd, FunD K "__init__" "BadBytes.__init__" (defArgs s_BadBytes) (defBody s_BadBytes) (defScope s_BadBytes) [.non] [] (ma K (ga K "BadBytes") "__init__") fd) : Ec P w K mg base eBadBytes := by
  obtain ⟨h1, b⟩ := ba b
  obtain ⟨h2, b⟩ := ba b
  obtain ⟨h3, h4⟩ := ba b
  obtain ⟨fd, F⟩ := D
  refine ⟨g, xvB_ok h1, eqO_ok h2, eqO_ok h3, of_decide_eq_true h4, ⟨_, _, EV.base_VE⟩, fd, ok_BadBytes F T, ?_, ?_, ?_⟩
  · obtain ⟨ds, r, hb⟩ := F.binds1 (ps := ["self", "place"]) 2 1 (fun z => nomatch z) rfl fun T kV doc pm an cdv ct us its hl h2 => match us, hl, its, h2 with | [_, _], _, [_], _ => ⟨_, rfl, rfl⟩
    cases r
    exact hb
  · obtain ⟨ds, r, hb⟩ := F.binds1 (ps := ["self", "place"]) 1 0 (fun z => nomatch z) rfl fun T kV doc pm an cdv ct us its hl h2 => match us, hl, its, h2 with | [_], _, [_], _ => ⟨_, rfl, rfl⟩
    obtain ⟨u, rfl, ru⟩ := vals1 r
    cases (show u = Value.none from ru)
    exact fun _ => hb
  · obtain ⟨its, hb⟩ := F.kbindsD (ps := ["self", "place"]) 1 ["place"] (fun us _ ws => us ++ ws) (fun z => nomatch z) (fun r1 _ r3 => r1.append r3) fun T kV doc pm an cdv ct us its ws hl h2 h3 => match us, hl, its, h2, ws, h3 with | [_], _, [_], _, [_], _ => ⟨_, rfl, rfl⟩
    exact fun s u v X => KBn.one hb (fun _ _ => rfl) s u v X
theorem ec_BadTask (T : RealE K mg (ga K "RealError")) (g : mg "BadTask" = some (.ref (ga K "BadTask"))) (b : ecB K eBadTask = true) (D : ∃ fd, FunD K "__init__" "BadTask.__init__" (defArgs s_BadTask) (defBody s_BadTask) (defScope s_BadTask) [.non] [] (ma K (ga K "BadTask") "__init__") fd) : Ec P w K mg base eBadTask := by
  obtain ⟨h1, b⟩ := ba b
  obtain ⟨h2, b⟩ := ba b
  obtain ⟨h3, h4⟩ := ba b
  obtain ⟨fd, F⟩ := D
  refine ⟨g, xvB_ok h1, eqO_ok h2, eqO_ok h3, of_decide_eq_true h4, ⟨_, _, EV.base_VE⟩, fd, ok_BadTask F T, ?_, ?_, ?_⟩
  · obtain ⟨ds, r, hb⟩ := F.binds1 (ps := ["self", "place"]) 2 1 (fun z => nomatch z) rfl fun T kV doc pm an cdv ct us its hl h2 => match us, hl, its, h2 with | [_, _], _, [_], _ => ⟨_, rfl, rfl⟩
    cases r
    exact hb
  · obtain ⟨ds, r, hb⟩ := F.binds1 (ps := ["self", "place"]) 1 0 (fun z => nomatch z) rfl fun T kV doc pm an cdv ct us its hl h2 => match us, hl, its, h2 with | [_], _, [_], _ => ⟨_, rfl, rfl⟩
    obtain ⟨u, rfl, ru⟩ := vals1 r
    cases (show u = Value.none from ru)
    exact fun _ => hb
  · obtain ⟨its, hb⟩ := F.kbindsD (ps := ["self", "place"]) 1 ["place"] (fun us _ ws => us ++ ws) (fun z => nomatch z) (fun r1 _ r3 => r1.append r3) fun T kV doc pm an cdv ct us its ws hl h2 h3 => match us, hl, its, h2, ws, h3 with | [_], _, [_], _, [_], _ => ⟨_, rfl, rfl⟩
    exact fun s u v X => KBn.one hb (fun _ _ => rfl) s u v X
theorem ec_BadFigure (T : RealE K mg (ga K "RealError")) (g : mg "BadFigure" = some (.ref (ga K "BadFigure"))) (b : ecB K eBadFigure = true) (D : ∃ fd, FunD K "__init__" "BadFigure.__init__" (defArgs s_BadFigure) (defBody s_BadFigure) (defScope s_BadFigure) [.non] [] (ma K (ga K "BadFigure") "__init__") fd) : Ec P w K mg base eBadFigure := by
  obtain ⟨h1, b⟩ := ba b
  obtain ⟨h2, b⟩ := ba b
  obtain ⟨h3, h4⟩ := ba b
  obtain ⟨fd, F⟩ := D
  refine ⟨g, xvB_ok h1, eqO_ok h2, eqO_ok h3, of_decide_eq_true h4, ⟨_, _, EV.base_VE⟩, fd, ok_BadFigure F T, ?_, ?_, ?_⟩
  · obtain ⟨ds, r, hb⟩ := F.binds1 (ps := ["self", "place"]) 2 1 (fun z => nomatch z) rfl fun T kV doc pm an cdv ct us its hl h2 => match us, hl, its, h2 with | [_, _], _, [_], _ => ⟨_, rfl, rfl⟩
    cases r
    exact hb
  · obtain ⟨ds, r, hb⟩ := F.binds1 (ps := ["self", "place"]) 1 0 (fun z => nomatch z) rfl fun T kV doc pm an cdv ct us its hl h2 => match us, hl, its, h2 with | [_], _, [_], _ => ⟨_, rfl, rfl⟩
    obtain ⟨u, rfl, ru⟩ := vals1 r
    cases (show u = Value.none from ru)
    exact fun _ => hb
  · obtain ⟨its, hb⟩ := F.kbindsD (ps := ["self", "place"]) 1 ["place"] (fun us _ ws => us ++ ws) (fun z => nomatch z) (fun r1 _ r3 => r1.append r3) fun T kV doc pm an cdv ct us its ws hl h2 h3 => match us, hl, its, h2, ws, h3 with | [_], _, [_], _, [_], _ => ⟨_, rfl, rfl⟩
    exact fun s u v X => KBn.one hb (fun _ _ => rfl) s u v X
theorem ec_BadText (T : RealE K mg (ga K "RealError")) (g : mg "BadText" = some (.ref (ga K "BadText"))) (b : ecB K eBadText = true) (D : ∃ fd, FunD K "__init__" "BadText.__init__" (defArgs s_BadText) (defBody s_BadText) (defScope s_BadText) [.non] [] (ma K (ga K "BadText") "__init__") fd) : Ec P w K mg base eBadText := by
  obtain ⟨h1, b⟩ := ba b
  obtain ⟨h2, b⟩ := ba b
  obtain ⟨h3, h4⟩ := ba b
  obtain ⟨fd, F⟩ := D
  refine ⟨g, xvB_ok h1, eqO_ok h2, eqO_ok h3, of_decide_eq_true h4, ⟨_, _, EV.base_VE⟩, fd, ok_BadText F T, ?_, ?_, ?_⟩
  · obtain ⟨ds, r, hb⟩ := F.binds1 (ps := ["self", "place"]) 2 1 (fun z => nomatch z) rfl fun T kV doc pm an cdv ct us its hl h2 => match us, hl, its, h2 with | [_, _], _, [_], _ => ⟨_, rfl, rfl⟩
    cases r
    exact hb
  · obtain ⟨ds, r, hb⟩ := F.binds1 (ps := ["self", "place"]) 1 0 (fun z => nomatch z) rfl fun T kV doc pm an cdv ct us its hl h2 => match us, hl, its, h2 with | [_], _, [_], _ => ⟨_, rfl, rfl⟩
    obtain ⟨u, rfl, ru⟩ := vals1 r
    cases (show u = Value.none from ru)
    exact fun _ => hb
  · obtain ⟨its, hb⟩ := F.kbindsD (ps := ["self", "place"]) 1 ["place"] (fun us _ ws => us ++ ws) (fun z => nomatch z) (fun r1 _ r3 => r1.append r3) fun T kV doc pm an cdv ct us its ws hl h2 h3 => match us, hl, its, h2, ws, h3 with | [_], _, [_], _, [_], _ => ⟨_, rfl, rfl⟩
    exact fun s u v X => KBn.one hb (fun _ _ => rfl) s u v X
theorem ec_BadPaper (T : RealE K mg (ga K "RealError")) (g : mg "BadPaper" = some (.ref (ga K "BadPaper"))) (b : ecB K eBadPaper = true) (D : ∃ fd, FunD K "__init__" "BadPaper.__init__" (defArgs s_BadPaper) (defBody s_BadPaper) (defScope s_BadPaper) [.non] [] (ma K (ga K "BadPaper") "__init__") fd) : Ec P w K mg base eBadPaper := by
  obtain ⟨h1, b⟩ := ba b
  obtain ⟨h2, b⟩ := ba b
  obtain ⟨h3, h4⟩ := ba b
  obtain ⟨fd, F⟩ := D
  refine ⟨g, xvB_ok h1, eqO_ok h2, eqO_ok h3, of_decide_eq_true h4, ⟨_, _, EV.base_VE⟩, fd, ok_BadPaper F T, ?_, ?_, ?_⟩
  · obtain ⟨ds, r, hb⟩ := F.binds1 (ps := ["self", "place"]) 2 1 (fun z => nomatch z) rfl fun T kV doc pm an cdv ct us its hl h2 => match us, hl, its, h2 with | [_, _], _, [_], _ => ⟨_, rfl, rfl⟩
    cases r
    exact hb
  · obtain ⟨ds, r, hb⟩ := F.binds1 (ps := ["self", "place"]) 1 0 (fun z => nomatch z) rfl fun T kV doc pm an cdv ct us its hl h2 => match us, hl, its, h2 with | [_], _, [_], _ => ⟨_, rfl, rfl⟩
    obtain ⟨u, rfl, ru⟩ := vals1 r
    cases (show u = Value.none from ru)
    exact fun _ => hb
  · obtain ⟨its, hb⟩ := F.kbindsD (ps := ["self", "place"]) 1 ["place"] (fun us _ ws => us ++ ws) (fun z => nomatch z) (fun r1 _ r3 => r1.append r3) fun T kV doc pm an cdv ct us its ws hl h2 h3 => match us, hl, its, h2, ws, h3 with | [_], _, [_], _, [_], _ => ⟨_, rfl, rfl⟩
    exact fun s u v X => KBn.one hb (fun _ _ => rfl) s u v X
theorem ec_BadDeed (T : RealE K mg (ga K "RealError")) (g : mg "BadDeed" = some (.ref (ga K "BadDeed"))) (b : ecB K eBadDeed = true) (D : ∃ fd, FunD K "__init__" "BadDeed.__init__" (defArgs s_BadDeed) (defBody s_BadDeed) (defScope s_BadDeed) [.non] [] (ma K (ga K "BadDeed") "__init__") fd) : Ec P w K mg base eBadDeed := by
  obtain ⟨h1, b⟩ := ba b
  obtain ⟨h2, b⟩ := ba b
  obtain ⟨h3, h4⟩ := ba b
  obtain ⟨fd, F⟩ := D
  refine ⟨g, xvB_ok h1, eqO_ok h2, eqO_ok h3, of_decide_eq_true h4, ⟨_, _, EV.base_VE⟩, fd, ok_BadDeed F T, ?_, ?_, ?_⟩
  · obtain ⟨ds, r, hb⟩ := F.binds1 (ps := ["self", "place"]) 2 1 (fun z => nomatch z) rfl fun T kV doc pm an cdv ct us its hl h2 => match us, hl, its, h2 with | [_, _], _, [_], _ => ⟨_, rfl, rfl⟩
    cases r
    exact hb
  · obtain ⟨ds, r, hb⟩ := F.binds1 (ps := ["self", "place"]) 1 0 (fun z => nomatch z) rfl fun T kV doc pm an cdv ct us its hl h2 => match us, hl, its, h2 with | [_], _, [_], _ => ⟨_, rfl, rfl⟩
    obtain ⟨u, rfl, ru⟩ := vals1 r
    cases (show u = Value.none from ru)
    exact fun _ => hb
  · obtain ⟨its, hb⟩ := F.kbindsD (ps := ["self", "place"]) 1 ["place"] (fun us _ ws => us ++ ws) (fun z => nomatch z) (fun r1 _ r3 => r1.append r3) fun T kV doc pm an cdv ct us its ws hl h2 h3 => match us, hl, its, h2, ws, h3 with | [_], _, [_], _, [_], _ => ⟨_, rfl, rfl⟩
    exact fun s u v X => KBn.one hb (fun _ _ => rfl) s u v X
theorem ec_TooMany (T : BltE K mg "OverflowError" "OverflowError.__init__") (g : mg "TooMany" = some (.ref (ga K "TooMany"))) (b : ecB K eTooMany = true) (D : ∃ fd, FunD K "__init__" "TooMany.__init__" (defArgs s_TooMany) (defBody s_TooMany) (defScope s_TooMany) [] [] (ma K (ga K "TooMany") "__init__") fd) : Ec P w K mg base eTooMany := by
  obtain ⟨h1, b⟩ := ba b
  obtain ⟨h2, b⟩ := ba b
  obtain ⟨h3, h4⟩ := ba b
  obtain ⟨fd, F⟩ := D
  refine ⟨g, xvB_ok h1, eqO_ok h2, eqO_ok h3, of_decide_eq_true h4, ⟨_, _, EV.base_OE⟩, fd, ok_TooMany F T, ?_, ?_, ?_⟩
  · exact F.bindsN fun _ _ _ _ _ _ us hl => match us, hl with | [_, _], _ => rfl
  · exact fun h => absurd rfl h
  · obtain ⟨oc, od, dV, kV, doc, pm, an, cdv, ct, osl, rfl, lk, hcd, hD, hK⟩ := F.ex
    rcases hD with ⟨_, rfl⟩ | ⟨e, _⟩
    · exact fun s u v X => .of_eq rfl
    · exact absurd rfl e
theorem ec_NoSuch (T : BltE K mg "LookupError" "LookupError.__init__") (g : mg "NoSuch" = some (.ref (ga K "NoSuch"))) (b : ecB K eNoSuch = true) (D : ∃ fd, FunD K "__init__" "NoSuch.__init__" (defArgs s_NoSuch) (defBody s_NoSuch) (defScope s_NoSuch) [.non] [] (ma K (ga K "NoSuch") "__init__") fd) : Ec P w K mg base eNoSuch := by
  obtain ⟨h1, b⟩ := ba b
  obtain ⟨h2, b⟩ := ba b
  obtain ⟨h3, h4⟩ := ba b
  obtain ⟨fd, F⟩ := D
  refine ⟨g, xvB_ok h1, eqO_ok h2, eqO_ok h3, of_decide_eq_true h4, ⟨_, _, EV.base_LE⟩, fd, ok_NoSuch F T, ?_, ?_, ?_⟩
  · obtain ⟨ds, r, hb⟩ := F.binds1 (ps := ["self", "value"]) 2 1 (fun z => nomatch z) rfl fun T kV doc pm an cdv ct us its hl h2 => match us, hl, its, h2 with | [_, _], _, [_], _ => ⟨_, rfl, rfl⟩
    cases r
    exact hb
  · obtain ⟨ds, r, hb⟩ := F.binds1 (ps := ["self", "value"]) 1 0 (fun z => nomatch z) rfl fun T kV doc pm an cdv ct us its hl h2 => match us, hl, its, h2 with | [_], _, [_], _ => ⟨_, rfl, rfl⟩
    obtain ⟨u, rfl, ru⟩ := vals1 r
    cases (show u = Value.none from ru)
    exact fun _ => hb
  · obtain ⟨its, hb⟩ := F.kbindsD (ps := ["self", "value"]) 1 ["value"] (fun us _ ws => us ++ ws) (fun z => nomatch z) (fun r1 _ r3 => r1.append r3) fun T kV doc pm an cdv ct us its ws hl h2 h3 => match us, hl, its, h2, ws, h3 with | [_], _, [_], _, [_], _ => ⟨_, rfl, rfl⟩
    exact fun s u v X => KBn.one hb (fun _ _ => rfl) s u v X
theorem facts {f : Addr} (X : K.In h) (G : h.Ns mainGlobals mg) (hfa : mg ("law" : Str) = some (.ref f)) (c : SaysM fa fn moreB K) :
    ∃ fd : FuncData, (∀ (s : Shared) (v : Value), BindsTo s fd ⟨[v], []⟩ [("script", v)]) ∧ ∀ base : Heap, K.In base → base.Ns mainGlobals mg → FnOk P w K mg base CX0 5 f fd ["script"] (spLaw K) := by
  have cD := c.d
  obtain ⟨m1, m⟩ := ba c.more
  obtain ⟨m2, m⟩ := ba m
  obtain ⟨m3, m⟩ := ba m
  obtain ⟨m4, m⟩ := ba m
  obtain ⟨m5, m⟩ := ba m
  obtain ⟨m6, m7⟩ := ba m
  have gg : ∀ (i : Nat) {x : Str}, fa[i]? = some (.glo x) → mg x = some (.ref (ga K x)) := fun i x hi => glo_ok X G (cD.fact i hi)
  have ff : ∀ (i : Nat) {x : Str}, fa[i]? = some (.free x) → mg x = none := fun i x hi => free_ok X G (cD.fact i hi)
  have ee : ∀ (i : Nat) {e : EC}, errs[i]? = some e → ecB K e = true := fun i e hi => List.all_eq_true.mp m1 e (List.mem_of_getElem? hi)
  have TV : RealE K mg (ga K "RealError") := ⟨gg 24 rfl, m3, eqO_ok m4, valB_ok m5⟩
  have TL : BltE K mg "LookupError" "LookupError.__init__" := ⟨ff 27 rfl, valB_ok m6⟩
  have TO : BltE K mg "OverflowError" "OverflowError.__init__" := ⟨ff 28 rfl, valB_ok m7⟩
  obtain ⟨f_sMixed, F_sMixed⟩ := cD.def_ 24 (d := dsMixed) rfl
  obtain ⟨f_sDraw, F_sDraw⟩ := cD.def_ 25 (d := dsDraw) rfl
  obtain ⟨f_sDigit, F_sDigit⟩ := cD.def_ 26 (d := dsDigit) rfl
  obtain ⟨f_sKinds, F_sKinds⟩ := cD.def_ 27 (d := dsKinds) rfl
  obtain ⟨f_sValued, F_sValued⟩ := cD.def_ 28 (d := dsValued) rfl
  obtain ⟨f_sPlaced, F_sPlaced⟩ := cD.def_ 29 (d := dsPlaced) rfl
  obtain ⟨f_sRight, F_sRight⟩ := cD.def_ 30 (d := dsRight) rfl
  obtain ⟨f_sLaw, F_sLaw⟩ := cD.def_ 31 (d := dsLaw) rfl
  have hE : ∀ base : Heap, ∀ e ∈ errs, Ec P w K mg base e := fun base e he => by
    obtain ⟨i, hi, rfl⟩ := List.mem_iff_getElem.mp he
    have hz : i < 24 := hi
    match i, hz with
    | 0, _ => exact ec_BadFraction TV (gg 0 rfl) (ee 0 rfl) (cD.def_ 0 (d := dBadFraction) rfl)
    | 1, _ => exact ec_BadName TV (gg 1 rfl) (ee 1 rfl) (cD.def_ 1 (d := dBadName) rfl)
    | 2, _ => exact ec_BadNumber TV (gg 2 rfl) (ee 2 rfl) (cD.def_ 2 (d := dBadNumber) rfl)
    | 3, _ => exact ec_BadPolynomial TV (gg 3 rfl) (ee 3 rfl) (cD.def_ 3 (d := dBadPolynomial) rfl)
    | 4, _ => exact ec_BadFormula TV (gg 4 rfl) (ee 4 rfl) (cD.def_ 4 (d := dBadFormula) rfl)
    | 5, _ => exact ec_BadTheory TV (gg 5 rfl) (ee 5 rfl) (cD.def_ 5 (d := dBadTheory) rfl)
    | 6, _ => exact ec_BadPoint TV (gg 6 rfl) (ee 6 rfl) (cD.def_ 6 (d := dBadPoint) rfl)
    | 7, _ => exact ec_BadTower TV (gg 7 rfl) (ee 7 rfl) (cD.def_ 7 (d := dBadTower) rfl)
    | 8, _ => exact ec_BadTable TV (gg 8 rfl) (ee 8 rfl) (cD.def_ 8 (d := dBadTable) rfl)
    | 9, _ => exact ec_BadStretches TV (gg 9 rfl) (ee 9 rfl) (cD.def_ 9 (d := dBadStretches) rfl)
    | 10, _ => exact ec_BadTest TV (gg 10 rfl) (ee 10 rfl) (cD.def_ 10 (d := dBadTest) rfl)
    | 11, _ => exact ec_BadAtoms TV (gg 11 rfl) (ee 11 rfl) (cD.def_ 11 (d := dBadAtoms) rfl)
    | 12, _ => exact ec_BadWitness TV (gg 12 rfl) (ee 12 rfl) (cD.def_ 12 (d := dBadWitness) rfl)
    | 13, _ => exact ec_BadPlan TV (gg 13 rfl) (ee 13 rfl) (cD.def_ 13 (d := dBadPlan) rfl)
    | 14, _ => exact ec_BadCase TV (gg 14 rfl) (ee 14 rfl) (cD.def_ 14 (d := dBadCase) rfl)
    | 15, _ => exact ec_BadRows TV (gg 15 rfl) (ee 15 rfl) (cD.def_ 15 (d := dBadRows) rfl)
    | 16, _ => exact ec_BadBytes TV (gg 16 rfl) (ee 16 rfl) (cD.def_ 16 (d := dBadBytes) rfl)
    | 17, _ => exact ec_BadTask TV (gg 17 rfl) (ee 17 rfl) (cD.def_ 17 (d := dBadTask) rfl)
    | 18, _ => exact ec_BadFigure TV (gg 18 rfl) (ee 18 rfl) (cD.def_ 18 (d := dBadFigure) rfl)
    | 19, _ => exact ec_BadText TV (gg 19 rfl) (ee 19 rfl) (cD.def_ 19 (d := dBadText) rfl)
    | 20, _ => exact ec_BadPaper TV (gg 20 rfl) (ee 20 rfl) (cD.def_ 20 (d := dBadPaper) rfl)
    | 21, _ => exact ec_BadDeed TV (gg 21 rfl) (ee 21 rfl) (cD.def_ 21 (d := dBadDeed) rfl)
    | 22, _ => exact ec_TooMany TO (gg 22 rfl) (ee 22 rfl) (cD.def_ 22 (d := dTooMany) rfl)
    | 23, _ => exact ec_NoSuch TL (gg 23 rfl) (ee 23 rfl) (cD.def_ 23 (d := dNoSuch) rfl)
    | k + 24, hz => exact absurd hz (by omega)
  have e := hfa.symm.trans (gg 40 rfl)
  cases e
  have b := FunD.bindsA (ps := ["script"]) F_sLaw fun _ _ _ _ _ _ us hl => match us, hl with | [_], _ => rfl
  refine ⟨f_sLaw, fun s v => b s [v] rfl, fun base _ _ => ?_⟩
  exact ok_law F_sLaw F_sMixed F_sDraw F_sDigit F_sKinds F_sValued F_sPlaced F_sRight ⟨hE base, kitB_ok m2, gg 24 rfl, ff 25 rfl, ff 26 rfl, ff 27 rfl, ff 28 rfl⟩ ⟨ff 29 rfl, ff 30 rfl, ff 31 rfl, ff 32 rfl⟩
    (gg 33 rfl) (gg 34 rfl) (gg 35 rfl) (gg 36 rfl) (gg 37 rfl) (gg 38 rfl) (gg 39 rfl)
end
end K99

set_option Elab.async false
set_option linter.all false
set_option maxRecDepth 100000
set_option maxHeartbeats 0
/-! The head of k99, and the end. -/
namespace K99
open PySem PySem.Spec PyProof.Rows L2 XV
def ob (s : PySem.W.SharedT) : AlM := obsM 5 fa fn moreB (HandSHeadRun.getT s)
theorem ob_eq (s : PySem.W.SharedT) : ob s = hk.obs s.abs := obsM_eq (HandSHeadRun.getT_eq s)
def names : List Str := ["RealError", "BadFraction", "BadName", "BadNumber", "BadPolynomial", "BadFormula", "BadTheory", "BadPoint", "BadTower", "BadTable", "BadStretches", "BadTest", "BadAtoms", "BadWitness", "BadPlan", "BadCase", "BadRows", "BadBytes", "BadTask", "BadFigure", "BadText", "BadPaper", "BadDeed", "TooMany", "NoSuch", "_law_mixed", "_law_draw", "_law_digit", "_law_kinds", "_law_valued", "_law_placed", "_law_right"]
theorem run (w : World) : HandSHeadRun.RunEq R (PySem.W.view R.prog [34]) hk ob 6800 names w := by
  intro os
  kernel_rfl
end K99

set_option Elab.async false
set_option linter.all false
open PySem PySem.W PySem.Calls PyProof.Rows
set_option maxRecDepth 100000 in
set_option maxHeartbeats 0 in
theorem PySem.Challenge.cw_everyreal_k99_errors_by_hand_holds : PySem.Challenge.rw_everyreal_k99_errors_by_hand.Holds := by
  w_on; o_law
  refine HandSHeadRun.head_any (r := OpenLaw.row PySem.Challenge.rw_everyreal_k99_errors_by_hand) (q := view (OpenLaw.row PySem.Challenge.rw_everyreal_k99_errors_by_hand).prog [34]) (H := K99.hk) (ob := K99.ob) (M := 6800) (loose := K99.names) (d := HandSHeadRun.topDef (OpenLaw.row PySem.Challenge.rw_everyreal_k99_errors_by_hand).prog 34) (kwd := []) K99.ob_eq
    (by kernel_rfl) (fun s => by kernel_rfl) K99.run (by kernel_rfl) (by kernel_rfl) (by kernel_rfl) (by rfl) (by first | assumption | decide +kernel) (by decide +kernel) ⟨rfl, rfl, rfl, rfl, rfl, by decide +kernel⟩ ?hw ?hc
  case hw => w_witness2
  case hc =>
    refine L2.walk_ofE (l := PySem.Challenge.rw_everyreal_k99_errors_by_hand) (n := 63) (k := 5) (x := "script") (CX := L2.CX0) rfl (by decide) (by kernel_rfl) ⟨rfl, by decide, by decide⟩ ?F (fun _ _ _ _ z => z)
    intro w mg fa h Y G hmg0
    obtain ⟨K, KX, c⟩ := Y
    have hmg : mg ("law" : PySem.Str) = some (.ref fa) := by
      have e : (HandSHeadRun.topDef (OpenLaw.row PySem.Challenge.rw_everyreal_k99_errors_by_hand).prog 34).name = ("law" : PySem.Str) := by kernel_rfl
      rw [← e]
      exact hmg0
    obtain ⟨fd, hb, hF⟩ := K99.facts (P := (PySem.Challenge.rw_everyreal_k99_errors_by_hand).prog) (w := w) KX G hmg c
    exact ⟨K, fd, K99.spLaw K, KX, hb, fun H a ns hl _ hS => ⟨a, ns, rfl, hS, hl, fun _ => rfl⟩, hF⟩
